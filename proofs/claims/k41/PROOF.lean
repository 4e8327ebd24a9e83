import PyProof.Rows.All
import Wide.All
import OpenK.AllK
import Wide.FinOn
import HandS.ForMost
import HandS.IsInst
import HandS.Style
import HandS.TupAny
import HandS.SetFor
import KE.SortData
import HandS.Deep
import HandS.TupLe
import HandS.More
import KE.DataFind
import KE.DataCmp
import KE.OsSortAny
import KE.GoesMore
import HandS.Zip
import PySem.Challenge.RW_lawsfollow_k41_partitions_fillings_and_h
set_option Elab.async false
set_option linter.all false
set_option maxRecDepth 100000
namespace G
open PySem

/-- plain data of the small machine; ref: a place of the small heap; scr: the law's own script -/
inductive D where
  | non | bl (b : Bool) | int (i : Int) | str (s : Str) | tup (xs : List D) | ref (n : Nat) | scr
  deriving Inhabited

/-- what stands at a place: a list, a dict, the draws' state (its cells' place), a list of ints that is not told -/
inductive LO where
  | lst (xs : List D) | dct (kvs : List (D × D)) | st (a : Nat) | opq
  deriving Inhabited

abbrev LH := List LO

/-- a run that draws: bad is a stop -/
inductive T (α : Type) where
  | ret (a : α) | bad | drw (n : Nat) (k : Nat → T α)

def T.bind {α β : Type} : T α → (α → T β) → T β
  | .ret a, k => k a
  | .bad, _ => .bad
  | .drw n f, k => .drw n fun c => (f c).bind k

def T.All {α : Type} (P : α → Prop) : T α → Prop
  | .ret a => P a
  | .bad => False
  | .drw n f => ∀ c, c < n → (f c).All P

def T.ofO {α : Type} : Option α → T α
  | some a => .ret a
  | none => .bad

theorem T.All.mono {α : Type} {P P' : α → Prop} (h : ∀ a, P a → P' a) : ∀ {t : T α}, t.All P → t.All P'
  | .ret a, q => h a q
  | .bad, q => q
  | .drw n f, q => fun c hc => T.All.mono h (q c hc)
theorem T.all_bind {α β : Type} {P : β → Prop} {k : α → T β} : ∀ {t : T α}, (t.bind k).All P ↔ t.All fun a => (k a).All P
  | .ret a => Iff.rfl
  | .bad => Iff.rfl
  | .drw n f => ⟨fun q c hc => T.all_bind.mp (q c hc), fun q c hc => T.all_bind.mpr (q c hc)⟩
theorem T.all_ofO {α : Type} {P : α → Prop} {o : Option α} : (T.ofO o).All P ↔ ∃ a, o = some a ∧ P a := by
  cases o with
  | none => exact ⟨fun h => h.elim, fun ⟨_, e, _⟩ => by cases e⟩
  | some a => exact ⟨fun h => ⟨a, rfl, h⟩, fun ⟨b, e, h⟩ => by cases e; exact h⟩

/-! ### the syntax -/
inductive Bop where | add | sub | mul | fdiv | mod | pow
  deriving DecidableEq
inductive Cop where | eq | ne | lt | le | gt | ge | isN | notN | isB | notB | in_ | notIn
  deriving DecidableEq
inductive Ty where | int | bool | str | tuple | list | dict
  deriving DecidableEq
inductive Fn where | len | tuple | list | sum | sorted | any | all | abs | min | max | int | isi (ty : Ty)
  deriving DecidableEq
inductive Mt where | append | extend | insert | count | index | pop0 | get1 | get2
  deriving DecidableEq

mutual
inductive E where
  | int (i : Int) | str (s : Str) | bl (b : Bool) | non
  | var (i : Nat)
  | glob (x : Str) (d : D)
  | bin (op : Bop) (a b : E) | neg (a : E)
  | cmp (op : Cop) (a b : E)
  | and_ (a b : E) | or_ (a b : E) | not_ (a : E)
  | ite (c a b : E)
  | tup (es : Es) | lst (es : Es)
  | call (g : Nat) (es : Es)
  | fn (f : Fn) (es : Es)
  | mt (m : Mt) (o : E) (es : Es)
  | idx (a i : E) | slc (a : E) (lo hi : Eo) | rev (a : E)
  | comp (it : It) (tg : Tg) (c : Eo) (e : E) (own : List (Str × Nat))
inductive Eo where
  | no | yes (e : E)
inductive Es where
  | nil | cons (e : E) (es : Es)
inductive It where
  | val (e : E) | rng1 (a : E) | rng2 (a b : E) | rng3 (a b : E) (c : Int) | enum (a : E) | zip (a b : E)
inductive Tg where
  | name (i : Nat) | tup (ts : Tgs) | sub (o i : E)
inductive Tgs where
  | nil | cons (t : Tg) (ts : Tgs)
end

mutual
inductive S where
  | asg (t : Tg) (e : E) | par (i j : Nat) (a b : E) | aug (i : Nat) (op : Bop) (e : E)
  | expr (e : E) | ret (e : E) | retN
  | if_ (c : E) (a b : Ss)
  | for_ (it : It) (t : Tg) (b : Ss) | while_ (c : E) (b : Ss)
  | brk | cont | pass
inductive Ss where
  | nil | cons (s : S) (r : Ss)
end

end G

namespace G
open PySem

def mapO {α β : Type} (f : α → Option β) : List α → Option (List β)
  | [] => some []
  | x :: r => match f x with
    | none => none
    | some y => match mapO f r with
      | none => none
      | some ys => some (y :: ys)

/-- the list at a place -/
def lget (lh : LH) (k : Nat) : Option (List D) := match lh[k]? with
  | some (.lst xs) => some xs
  | _ => none
/-- a list's or tuple's items -/
def seqOf (lh : LH) : D → Option (List D)
  | .tup xs => some xs
  | .ref k => lget lh k
  | _ => none

/-- the whole of a value, lists by what stands there -/
def snap (lh : LH) : Nat → D → Option PyData
  | 0, _ => none
  | n + 1, d => match d with
    | .non => some .none
    | .bl b => some (.bool b)
    | .int i => some (.int i)
    | .str s => if s.cps.toList.all (fun c => decide (c < 1114112)) then some (.str s) else none
    | .tup xs => match mapO (snap lh n) xs with
      | some ys => some (.tuple ys)
      | none => none
    | .ref k => (match lget lh k with
      | some xs => (match mapO (snap lh n) xs with
        | some ys => some (.list ys)
        | none => none)
      | none => none)
    | .scr => none

def line : Nat := 16777216
def new (o : LO) (lh : LH) : T (D × LH) := .ret (.ref lh.length, lh ++ [o])

def small (i : Int) : Bool := decide (-(2 ^ 64) < i) && decide (i < 2 ^ 64)

def opB (op : Bop) (x y : D) (lh : LH) : T (D × LH) :=
  match op with
  | .add => (match x, y with
    | .int i, .int j => .ret (.int (i + j), lh)
    | .str i, .str j => if i.length + j.length ≤ line then .ret (.str (i ++ j), lh) else .bad
    | .tup xs, .tup ys => if xs.length + ys.length ≤ line then .ret (.tup (xs ++ ys), lh) else .bad
    | .ref k, .ref l => (match lget lh k, lget lh l with
      | some xs, some ys => if xs.length + ys.length ≤ line then new (.lst (xs ++ ys)) lh else .bad
      | _, _ => .bad)
    | _, _ => .bad)
  | .sub => (match x, y with
    | .int i, .int j => .ret (.int (i - j), lh)
    | _, _ => .bad)
  | .mul => (match x, y with
    | .int i, .int j => if small i || small j then .ret (.int (i * j), lh) else .bad
    | .ref k, .int j => (match lget lh k with
      | some xs => if decide (0 ≤ j) && decide (j ≤ 1000) && decide (xs.length ≤ 1000) then new (.lst (List.replicate j.toNat xs).flatten) lh else .bad
      | _ => .bad)
    | _, _ => .bad)
  | .fdiv => (match x, y with
    | .int i, .int j => if decide (j ≠ 0) && decide (j.natAbs < 1073741824) then .ret (.int (i.fdiv j), lh) else .bad
    | _, _ => .bad)
  | .mod => (match x, y with
    | .int i, .int j => if decide (j ≠ 0) then .ret (.int (i.fmod j), lh) else .bad
    | _, _ => .bad)
  | .pow => (match x, y with
    | .int i, .int j => if decide (0 ≤ j) && decide (j ≤ 1000000) && decide (i.natAbs < 2 ^ 64) then .ret (.int (i ^ j.toNat), lh) else .bad
    | _, _ => .bad)

/-- x op= y -/
def opA (op : Bop) (x y : D) (lh : LH) : T (D × LH) :=
  match op with
  | .add => (match x, y with
    | .int i, .int j => .ret (.int (i + j), lh)
    | .str i, .str j => if i.length + j.length ≤ line then .ret (.str (i ++ j), lh) else .bad
    | .tup xs, .tup ys => if xs.length + ys.length ≤ line then .ret (.tup (xs ++ ys), lh) else .bad
    | .ref k, .ref l => (match lget lh k, lget lh l with
      | some xs, some ys => if xs.length + ys.length ≤ line then .ret (.ref k, lh.set k (.lst (xs ++ ys))) else .bad
      | _, _ => .bad)
    | _, _ => .bad)
  | .sub => (match x, y with
    | .int i, .int j => .ret (.int (i - j), lh)
    | _, _ => .bad)
  | .mul => (match x, y with
    | .int i, .int j => if small i || small j then .ret (.int (i * j), lh) else .bad
    | _, _ => .bad)
  | .fdiv => (match x, y with
    | .int i, .int j => if decide (0 < j) && decide (j < 1073741824) then .ret (.int (i / j), lh) else .bad
    | _, _ => .bad)
  | .mod => (match x, y with
    | .int i, .int j => if decide (0 < j) then .ret (.int (i % j), lh) else .bad
    | _, _ => .bad)
  | .pow => .bad

def eqD (lh : LH) (x y : D) : Option Bool :=
  match x, y with
  | .int i, .int j => some (decide (i = j))
  | .str i, .str j => some (decide (i = j))
  | _, _ => match snap lh 60 x, snap lh 60 y with
    | some a, some b => some (PyData.eqv a b)
    | _, _ => none

def ltP (a b : PyData) : Bool := PySem.W.dataLt a b
def isNoneP : PyData → Bool
  | .none => true
  | _ => false
/-- two values that may be ordered -/
def ordD (lh : LH) (x y : D) : Option (PyData × PyData) :=
  match snap lh 60 x, snap lh 60 y with
  | some a, some b => if PySem.W.alike a b && !isNoneP a then some (a, b) else none
  | _, _ => none

def anyE (lh : LH) (x : D) : List D → Option Bool
  | [] => some false
  | y :: ys => match eqD lh y x with
    | none => none
    | some true => some true
    | some false => anyE lh x ys

def inD (lh : LH) (x y : D) : Option Bool :=
  match y with
  | .str j => (match x with
    | .str i => some (!(Builtin.Str.occurrences j i 0 j.length 1).isEmpty)
    | _ => none)
  | _ => match snap lh 59 x, snap lh 60 y with
    | some a, some (.list bs) => some (bs.any fun z => PyData.eqv z a)
    | some a, some (.tuple bs) => some (bs.any fun z => PyData.eqv z a)
    | _, _ => none

def opC (op : Cop) (x y : D) (lh : LH) : Option Bool :=
  match op with
  | .eq => eqD lh x y
  | .ne => (eqD lh x y).map not
  | .lt => (match x, y with
    | .int i, .int j => some (decide (i < j))
    | _, _ => (ordD lh x y).map fun p => ltP p.1 p.2)
  | .le => (match x, y with
    | .int i, .int j => some (decide (i ≤ j))
    | _, _ => (ordD lh x y).map fun p => !ltP p.2 p.1)
  | .gt => (match x, y with
    | .int i, .int j => some (decide (j < i))
    | _, _ => (ordD lh x y).map fun p => ltP p.2 p.1)
  | .ge => (match x, y with
    | .int i, .int j => some (decide (j ≤ i))
    | _, _ => (ordD lh x y).map fun p => !ltP p.1 p.2)
  | .isN => (match x, y with
    | .non, .non => some true
    | .bl _, .non | .int _, .non | .str _, .non | .tup _, .non | .ref _, .non => some false
    | _, _ => none)
  | .notN => (match x, y with
    | .non, .non => some false
    | .bl _, .non | .int _, .non | .str _, .non | .tup _, .non | .ref _, .non => some true
    | _, _ => none)
  | .isB => (match x, y with
    | .bl a, .bl b => some (decide (a = b))
    | _, _ => none)
  | .notB => (match x, y with
    | .bl a, .bl b => some (!decide (a = b))
    | _, _ => none)
  | .in_ => inD lh x y
  | .notIn => (inD lh x y).map not

def truth (x : D) (lh : LH) : Option Bool :=
  match x with
  | .non => some false
  | .bl b => some b
  | .int i => some (i != 0)
  | .str s => if s.length ≤ line then some ((s.length : Int) != 0) else none
  | .tup xs => some (!xs.isEmpty)
  | .ref k => (match lh[k]? with
    | some (.lst xs) => some (!xs.isEmpty)
    | _ => none)
  | .scr => none

/-- an ascending, stable sort -/
def ins {β : Type} (le : β → β → Bool) (x : β) : List β → List β
  | [] => [x]
  | y :: r => if le x y then x :: y :: r else y :: ins le x r
def isort {β : Type} (le : β → β → Bool) : List β → List β
  | [] => []
  | x :: r => ins le x (isort le r)
def allAlike : List PyData → Bool
  | [] => true
  | x :: r => PySem.W.alike x x && r.all (fun y => PySem.W.alike x y && PySem.W.alike y x) && allAlike r
def sortP (l : List (D × PyData)) : List (D × PyData) := isort (fun p q => !ltP q.2 p.2) l
def sortableP : List PyData → Bool
  | ds => ds.all (fun d => match d with | .tuple (_ :: _) => true | _ => false) || ds.all (fun d => match d with | .none => false | .tuple _ => false | _ => true)

def intsO : List D → Option (List Int) := mapO fun d => match d with
  | .int i => some i
  | _ => none
def boolsO : List D → Option (List Bool) := mapO fun d => match d with
  | .bl i => some i
  | _ => none

def isTy (ty : Ty) (x : D) (lh : LH) : Option Bool :=
  match x with
  | .non => some false
  | .bl _ => some (match ty with | .int => true | .bool => true | _ => false)
  | .int _ => some (match ty with | .int => true | _ => false)
  | .str _ => some (match ty with | .str => true | _ => false)
  | .tup _ => some (match ty with | .tuple => true | _ => false)
  | .ref k => (match lh[k]? with
    | some (.lst _) => some (match ty with | .list => true | _ => false)
    | some (.dct _) => some (match ty with | .dict => true | _ => false)
    | _ => none)
  | .scr => none

def minI : Int → List Int → Int
  | m, [] => m
  | m, x :: r => minI (if x < m then x else m) r
def maxI : Int → List Int → Int
  | m, [] => m
  | m, x :: r => maxI (if x > m then x else m) r

def fnOp (f : Fn) (as : List D) (lh : LH) : T (D × LH) :=
  match f, as with
  | .len, [x] => (match x with
    | .str s => if s.length ≤ line then .ret (.int s.length, lh) else .bad
    | _ => match seqOf lh x with
      | some xs => .ret (.int xs.length, lh)
      | none => .bad)
  | .tuple, [x] => (match seqOf lh x with
    | some xs => .ret (.tup xs, lh)
    | none => .bad)
  | .list, [x] => (match seqOf lh x with
    | some xs => new (.lst xs) lh
    | none => .bad)
  | .sum, [x] => (match seqOf lh x with
    | some xs => (match intsO xs with
      | some ns => .ret (.int ns.sum, lh)
      | none => .bad)
    | none => .bad)
  | .any, [.ref k] => (match lget lh k with
    | some xs => (match boolsO xs with
      | some ns => .ret (.bl (ns.any id), lh)
      | none => .bad)
    | none => .bad)
  | .all, [.ref k] => (match lget lh k with
    | some xs => (match boolsO xs with
      | some ns => .ret (.bl (ns.all id), lh)
      | none => .bad)
    | none => .bad)
  | .sorted, [.ref k] => (match lget lh k with
    | some xs => (match mapO (snap lh 60) xs with
      | some ps => if allAlike ps && sortableP ps && decide (xs.length ≤ line) then new (.lst ((sortP (xs.zip ps)).map (·.1))) lh else .bad
      | none => .bad)
    | none => .bad)
  | .abs, [.int i] => .ret (.int (if i < 0 then -i else i), lh)
  | .min, [.int i, .int j] => .ret (.int (if j < i then j else i), lh)
  | .max, [.int i, .int j] => .ret (.int (if j > i then j else i), lh)
  | .min, [.ref k] => (match lget lh k with
    | some xs => (match intsO xs with
      | some (n :: ns) => .ret (.int (minI n ns), lh)
      | _ => .bad)
    | none => .bad)
  | .max, [.ref k] => (match lget lh k with
    | some xs => (match intsO xs with
      | some (n :: ns) => .ret (.int (maxI n ns), lh)
      | _ => .bad)
    | none => .bad)
  | .int, [.int i] => .ret (.int i, lh)
  | .int, [.bl b] => .ret (.int (if b then 1 else 0), lh)
  | .isi ty, [x] => (match isTy ty x lh with
    | some b => .ret (.bl b, lh)
    | none => .bad)
  | _, _ => .bad

/-- whose method it may be -/
def mtOk (m : Mt) (o : D) : Bool :=
  match m, o with
  | .count, .tup _ => true
  | .get1, _ => false
  | .get2, _ => false
  | _, .ref _ => true
  | _, _ => false
def mtOp (m : Mt) (o : D) (as : List D) (lh : LH) : T (D × LH) :=
  match m, o, as with
  | .append, .ref k, [x] => (match lget lh k with
    | some xs => if xs.length < line then .ret (.non, lh.set k (.lst (xs ++ [x]))) else .bad
    | none => .bad)
  | .extend, .ref k, [.ref l] => (match lget lh k, lget lh l with
    | some xs, some ys => if xs.length + ys.length ≤ line then .ret (.non, lh.set k (.lst (xs ++ ys))) else .bad
    | _, _ => .bad)
  | .insert, .ref k, [.int i, x] => (match lget lh k with
    | some xs => if decide (0 ≤ i) && decide (i < 2 ^ 63) && decide (xs.length < line) then .ret (.non, lh.set k (.lst (xs.take i.toNat ++ [x] ++ xs.drop i.toNat))) else .bad
    | none => .bad)
  | .count, o, [x] => (match snap lh 60 o, snap lh 60 x with
    | some (.list ds), some d => .ret (.int (ds.countP fun y => PyData.eqv y d : Nat), lh)
    | some (.tuple ds), some d => .ret (.int (ds.countP fun y => PyData.eqv y d : Nat), lh)
    | _, _ => .bad)
  | .index, .ref k, [x] => (match snap lh 60 (.ref k), snap lh 60 x with
    | some (.list ds), some d => (match ds.findIdx? (fun y => PyData.eqv y d) with
      | some j => .ret (.int (j : Nat), lh)
      | none => .bad)
    | _, _ => .bad)
  | .pop0, .ref k, [] => (match lget lh k with
    | some xs => (match xs[xs.length - 1]? with
      | some y => .ret (y, lh.set k (.lst xs.dropLast))
      | none => .bad)
    | none => .bad)
  | _, _, _ => .bad

def idxOp (x i : D) (lh : LH) : T (D × LH) :=
  match i with
  | .int j => (match x with
    | .str s => if s.length ≤ line then (match L2.atI s.cps.toList j with
      | some c => .ret (.str ⟨#[c]⟩, lh)
      | none => .bad) else .bad
    | _ => match seqOf lh x with
      | some xs => (match L2.atI xs j with
        | some d => .ret (d, lh)
        | none => .bad)
      | none => .bad)
  | _ => .bad

def cutD (xs : List D) (lo hi : Option Int) : List D := (xs.drop (HT.sIx xs.length 0 lo)).take (HT.sIx xs.length xs.length hi - HT.sIx xs.length 0 lo)
def slcOp (x : D) (lo hi : Option Int) (lh : LH) : T (D × LH) :=
  match x with
  | .tup xs => .ret (.tup (cutD xs lo hi), lh)
  | .str z => if z.length ≤ line then .ret (.str (L2.cutS z lo hi), lh) else .bad
  | .ref k => (match lget lh k with
    | some xs => new (.lst (cutD xs lo hi)) lh
    | none => .bad)
  | _ => .bad
def revOp (x : D) (lh : LH) : T (D × LH) :=
  match x with
  | .ref k => (match lget lh k with
    | some xs => new (.lst xs.reverse) lh
    | none => .bad)
  | _ => .bad

/-! ### loops -/
/-- what is walked -/
inductive Wk where
  | tup (xs : List D) | lst (k : Nat) | str (s : Str) | rng (lo : Int) (n : Nat) (c : Int) | enum (d : D) | zip (a b : D)
def Wk.nxt (w : Wk) (i : Nat) (lh : LH) : Option (Option D) :=
  match w with
  | .tup xs => some xs[i]?
  | .lst k => (lget lh k).map (·[i]?)
  | .str s => some (s.cps.toList[i]?.map fun c => .str ⟨#[c]⟩)
  | .rng lo n c => some (if i < n then some (.int (lo + i * c)) else none)
  | .enum d => (match seqOf lh d with
    | some xs => some (xs[i]?.map fun x => .tup [.int i, x])
    | none => none)
  | .zip a b => match seqOf lh a, seqOf lh b with
    | some xs, some ys => (match xs[i]?, ys[i]? with
      | some x, some y => some (some (.tup [x, y]))
      | _, _ => some none)
    | _, _ => none
def Wk.fuel (w : Wk) (lh : LH) : Nat :=
  match w with
  | .tup xs => xs.length + 1
  | .lst k => ((lget lh k).map (·.length)).getD 0 + 1
  | .str s => s.cps.toList.length + 1
  | .rng _ n _ => n + 1
  | .enum d => ((seqOf lh d).map (·.length)).getD 0 + 1
  | .zip a _ => ((seqOf lh a).map (·.length)).getD 0 + 1

inductive Fl where
  | nx | brk | cont | ret (d : D)
abbrev LS := List (Option D)
abbrev R3 := Fl × LS × LH

def forL (w : Wk) (body : D → LS → LH → T R3) : Nat → Nat → LS → LH → T R3
  | 0, _, _, _ => .bad
  | f + 1, i, ls, lh => match w.nxt i lh with
    | none => .bad
    | some none => .ret (.nx, ls, lh)
    | some (some d) => (body d ls lh).bind fun r => match r.1 with
      | .nx => forL w body f (i + 1) r.2.1 r.2.2
      | .cont => forL w body f (i + 1) r.2.1 r.2.2
      | .brk => .ret (.nx, r.2.1, r.2.2)
      | .ret v => .ret (.ret v, r.2.1, r.2.2)
def compL (w : Wk) (body : D → LH → T (Option D × LH)) : Nat → Nat → List D → LH → T (List D × LH)
  | 0, _, _, _ => .bad
  | f + 1, i, acc, lh => match w.nxt i lh with
    | none => .bad
    | some none => .ret (acc.reverse, lh)
    | some (some d) => (body d lh).bind fun r => match r.1 with
      | none => compL w body f (i + 1) acc r.2
      | some x => if acc.length < line then compL w body f (i + 1) (x :: acc) r.2 else .bad
def whileL (test : LS → LH → T (Bool × LH)) (body : LS → LH → T R3) : Nat → LS → LH → T R3
  | 0, _, _ => .bad
  | f + 1, ls, lh => (test ls lh).bind fun q => if q.1 then (body ls q.2).bind fun r => (match r.1 with
      | .nx => whileL test body f r.2.1 r.2.2
      | .cont => whileL test body f r.2.1 r.2.2
      | .brk => .ret (.nx, r.2.1, r.2.2)
      | .ret v => .ret (.ret v, r.2.1, r.2.2)) else .ret (.nx, ls, q.2)

def wipeD (ls : LS) : List (Str × Nat) → LS
  | [] => ls
  | p :: r => (wipeD ls r).set p.2 none

def rngOk (i : Int) : Bool := decide (-(2 ^ 62) ≤ i) && decide (i < 2 ^ 62)
def rng3N (a b c : Int) : Nat := if 0 < c then ((b - a + c - 1) / c).toNat else ((a - b + (-c) - 1) / (-c)).toNat

def Tgs.len : Tgs → Nat
  | .nil => 0
  | .cons _ r => r.len + 1

mutual
/-- a target of names alone -/
def bindT : Tg → D → LS → Option LS
  | .name i, d, ls => some (ls.set i (some d))
  | .tup ts, d, ls => (match d with
    | .tup xs => if xs.length = ts.len then bindTs ts xs ls else none
    | _ => none)
  | .sub _ _, _, _ => none
def bindTs : Tgs → List D → LS → Option LS
  | .nil, ds, ls => (match ds with
    | [] => some ls
    | _ :: _ => none)
  | .cons t ts, ds, ls => (match ds with
    | d :: ds => (match bindT t d ls with
      | some ls' => bindTs ts ds ls'
      | none => none)
    | [] => none)
end

/-- a comprehension's turn -/
def compB (tg : Tg) (own : List (Str × Nat)) (tc : LS → LH → T (Bool × LH)) (te : LS → LH → T (D × LH)) (ls : LS) (d : D) (lh : LH) : T (Option D × LH) :=
  match bindT tg d (wipeD ls own) with
  | none => .bad
  | some ls' => (tc ls' lh).bind fun b => if b.1 then (te ls' b.2).bind fun x => .ret (some x.1, x.2) else .ret (none, b.2)

abbrev CA := Nat → List D → LH → T (D × LH)

mutual
def evE (ca : CA) : E → LS → LH → T (D × LH)
  | .int i, _, lh => .ret (.int i, lh)
  | .str i, _, lh => .ret (.str i, lh)
  | .bl i, _, lh => .ret (.bl i, lh)
  | .non, _, lh => .ret (.non, lh)
  | .var i, ls, lh => (match ls[i]? with
    | some (some d) => .ret (d, lh)
    | _ => .bad)
  | .glob _ d, _, lh => .ret (d, lh)
  | .bin op a b, ls, lh => (evE ca a ls lh).bind fun r => (evE ca b ls r.2).bind fun q => opB op r.1 q.1 q.2
  | .neg a, ls, lh => (evE ca a ls lh).bind fun r => (match r.1 with
    | .int i => .ret (.int (-i), r.2)
    | _ => .bad)
  | .cmp op a b, ls, lh => (evE ca a ls lh).bind fun r => (evE ca b ls r.2).bind fun q => (match opC op r.1 q.1 q.2 with
    | some c => .ret (.bl c, q.2)
    | none => .bad)
  | .and_ a b, ls, lh => (evE ca a ls lh).bind fun r => (match r.1 with
    | .bl true => evE ca b ls r.2
    | .bl false => .ret (.bl false, r.2)
    | _ => .bad)
  | .or_ a b, ls, lh => (evE ca a ls lh).bind fun r => (match r.1 with
    | .bl true => .ret (.bl true, r.2)
    | .bl false => evE ca b ls r.2
    | _ => .bad)
  | .not_ a, ls, lh => (evE ca a ls lh).bind fun r => (match r.1 with
    | .bl c => .ret (.bl (!c), r.2)
    | _ => .bad)
  | .ite c a b, ls, lh => (evT ca c ls lh).bind fun r => if r.1 then evE ca a ls r.2 else evE ca b ls r.2
  | .tup es, ls, lh => (evEs ca es ls lh).bind fun r => if r.1.length ≤ line then .ret (.tup r.1, r.2) else .bad
  | .lst es, ls, lh => (evEs ca es ls lh).bind fun r => if r.1.length ≤ line then new (.lst r.1) r.2 else .bad
  | .call g es, ls, lh => (evEs ca es ls lh).bind fun r => ca g r.1 r.2
  | .fn f es, ls, lh => (evEs ca es ls lh).bind fun r => fnOp f r.1 r.2
  | .mt m o es, ls, lh => (evE ca o ls lh).bind fun q => if mtOk m q.1 then (evEs ca es ls q.2).bind fun r => mtOp m q.1 r.1 r.2 else .bad
  | .idx a i, ls, lh => (evE ca a ls lh).bind fun r => (evE ca i ls r.2).bind fun q => idxOp r.1 q.1 q.2
  | .slc a lo hi, ls, lh => (evE ca a ls lh).bind fun r => (evEo ca lo ls r.2).bind fun p => (evEo ca hi ls p.2).bind fun q => slcOp r.1 p.1 q.1 q.2
  | .rev a, ls, lh => (evE ca a ls lh).bind fun r => revOp r.1 r.2
  | .comp it tg c e own, ls, lh => (evI ca it ls lh).bind fun r => (compL r.1 (compB tg own (evC ca c) (evE ca e) ls) (r.1.fuel r.2) 0 [] r.2).bind fun z => new (.lst z.1) z.2
def evT (ca : CA) : E → LS → LH → T (Bool × LH)
  | .and_ a b, ls, lh => (evT ca a ls lh).bind fun r => if r.1 then evT ca b ls r.2 else .ret (false, r.2)
  | .or_ a b, ls, lh => (evT ca a ls lh).bind fun r => if r.1 then .ret (true, r.2) else evT ca b ls r.2
  | .not_ a, ls, lh => (evT ca a ls lh).bind fun r => .ret (!r.1, r.2)
  | .cmp op a b, ls, lh => (evE ca a ls lh).bind fun r => (evE ca b ls r.2).bind fun q => (match opC op r.1 q.1 q.2 with
    | some c => .ret (c, q.2)
    | none => .bad)
  | .var i, ls, lh => (match ls[i]? with
    | some (some d) => (match truth d lh with
      | some b => .ret (b, lh)
      | none => .bad)
    | _ => .bad)
  | .call g es, ls, lh => (evEs ca es ls lh).bind fun r => (ca g r.1 r.2).bind fun q => (match truth q.1 q.2 with
    | some b => .ret (b, q.2)
    | none => .bad)
  | .fn f es, ls, lh => (evEs ca es ls lh).bind fun r => (fnOp f r.1 r.2).bind fun q => (match truth q.1 q.2 with
    | some b => .ret (b, q.2)
    | none => .bad)
  | _, _, _ => .bad
def evC (ca : CA) : Eo → LS → LH → T (Bool × LH)
  | .no, _, lh => .ret (true, lh)
  | .yes e, ls, lh => evT ca e ls lh
def evEo (ca : CA) : Eo → LS → LH → T (Option Int × LH)
  | .no, _, lh => .ret (none, lh)
  | .yes e, ls, lh => (evE ca e ls lh).bind fun r => (match r.1 with
    | .int i => .ret (some i, r.2)
    | _ => .bad)
def evEs (ca : CA) : Es → LS → LH → T (List D × LH)
  | .nil, _, lh => .ret ([], lh)
  | .cons e es, ls, lh => (evE ca e ls lh).bind fun r => (evEs ca es ls r.2).bind fun q => .ret (r.1 :: q.1, q.2)
def evI (ca : CA) : It → LS → LH → T (Wk × LH)
  | .val e, ls, lh => (evE ca e ls lh).bind fun r => (match r.1 with
    | .tup xs => .ret (.tup xs, r.2)
    | .str s => .ret (.str s, r.2)
    | .ref k => (match lget r.2 k with
      | some _ => .ret (.lst k, r.2)
      | none => .bad)
    | _ => .bad)
  | .rng1 a, ls, lh => (evE ca a ls lh).bind fun r => (match r.1 with
    | .int j => if rngOk j then .ret (.rng 0 j.toNat 1, r.2) else .bad
    | _ => .bad)
  | .rng2 a b, ls, lh => (evE ca a ls lh).bind fun r => (evE ca b ls r.2).bind fun q => (match r.1, q.1 with
    | .int i, .int j => if rngOk i && rngOk j then .ret (.rng i (j - i).toNat 1, q.2) else .bad
    | _, _ => .bad)
  | .rng3 a b c, ls, lh => (evE ca a ls lh).bind fun r => (evE ca b ls r.2).bind fun q => (match r.1, q.1 with
    | .int i, .int j => if rngOk i && rngOk j && (decide (c = -1)) then .ret (.rng i (i - j).toNat (-1), q.2) else .bad
    | _, _ => .bad)
  | .enum a, ls, lh => (evE ca a ls lh).bind fun r => (match seqOf r.2 r.1 with
    | some _ => .ret (.enum r.1, r.2)
    | none => .bad)
  | .zip a b, ls, lh => (evE ca a ls lh).bind fun r => (evE ca b ls r.2).bind fun q => (match r.1, q.1 with
    | .tup _, .tup _ => .ret (.zip r.1 q.1, q.2)
    | .ref k, .ref l => (match lget q.2 k, lget q.2 l with
      | some _, some _ => .ret (.zip r.1 q.1, q.2)
      | _, _ => .bad)
    | _, _ => .bad)
def evTg (ca : CA) : Tg → D → LS → LH → T (LS × LH)
  | .name i, d, ls, lh => .ret (ls.set i (some d), lh)
  | .tup ts, d, ls, lh => (match d with
    | .tup xs => if xs.length = ts.len then evTgs ca ts xs ls lh else .bad
    | _ => .bad)
  | .sub o i, d, ls, lh => (evE ca o ls lh).bind fun r => (evE ca i ls r.2).bind fun q => (match r.1, q.1 with
    | .ref k, .int j => (match lget q.2 k with
      | some xs => (match L2.ixN xs.length j with
        | some n => .ret (ls, q.2.set k (.lst (xs.set n d)))
        | none => .bad)
      | none => .bad)
    | _, _ => .bad)
def evTgs (ca : CA) : Tgs → List D → LS → LH → T (LS × LH)
  | .nil, ds, ls, lh => (match ds with
    | [] => .ret (ls, lh)
    | _ :: _ => .bad)
  | .cons t ts, ds, ls, lh => (match ds with
    | d :: ds => (evTg ca t d ls lh).bind fun r => evTgs ca ts ds r.1 r.2
    | [] => .bad)
end

def whileFuel : Nat := 1000000
mutual
def evS (ca : CA) : S → LS → LH → T R3
  | .asg t e, ls, lh => (evE ca e ls lh).bind fun r => (evTg ca t r.1 ls r.2).bind fun q => .ret (.nx, q.1, q.2)
  | .par i j a b, ls, lh => (evE ca a ls lh).bind fun r => (evE ca b ls r.2).bind fun q => .ret (.nx, (ls.set i (some r.1)).set j (some q.1), q.2)
  | .aug i op e, ls, lh => (match ls[i]? with
    | some (some x) => (evE ca e ls lh).bind fun r => (opA op x r.1 r.2).bind fun q => .ret (.nx, ls.set i (some q.1), q.2)
    | _ => .bad)
  | .expr e, ls, lh => (evE ca e ls lh).bind fun r => .ret (.nx, ls, r.2)
  | .ret e, ls, lh => (evE ca e ls lh).bind fun r => .ret (.ret r.1, ls, r.2)
  | .retN, ls, lh => .ret (.ret .non, ls, lh)
  | .if_ c a b, ls, lh => (evT ca c ls lh).bind fun r => if r.1 then evSs ca a ls r.2 else evSs ca b ls r.2
  | .for_ it t b, ls, lh => (evI ca it ls lh).bind fun r => forL r.1 (fun d ls lh => (evTg ca t d ls lh).bind fun q => evSs ca b q.1 q.2) (r.1.fuel r.2) 0 ls r.2
  | .while_ c b, ls, lh => whileL (evT ca c) (evSs ca b) whileFuel ls lh
  | .brk, ls, lh => .ret (.brk, ls, lh)
  | .cont, ls, lh => .ret (.cont, ls, lh)
  | .pass, ls, lh => .ret (.nx, ls, lh)
def evSs (ca : CA) : Ss → LS → LH → T R3
  | .nil, ls, lh => .ret (.nx, ls, lh)
  | .cons s r, ls, lh => (evS ca s ls lh).bind fun q => match q.1 with
    | .nx => evSs ca r q.2.1 q.2.2
    | fl => .ret (fl, q.2.1, q.2.2)
end

/-! ### defs -/
inductive Kd where
  | code (b : Ss) | start | draw
structure Df where
  name : Str
  ps : List Str
  N : List Str
  kd : Kd

mutual
/-- no place within -/
def D.flat : D → Bool
  | .tup xs => D.flats xs
  | .ref _ => false
  | .scr => false
  | _ => true
def D.flats : List D → Bool
  | [] => true
  | x :: r => D.flat x && D.flats r
end
mutual
def D.move (k : Nat) : D → D
  | .tup xs => .tup (D.moves k xs)
  | .ref n => .ref (n + k)
  | d => d
def D.moves (k : Nat) : List D → List D
  | [] => []
  | x :: r => D.move k x :: D.moves k r
end
def LO.move (k : Nat) : LO → LO
  | .lst xs => .lst (D.moves k xs)
  | .dct kvs => .dct (kvs.map fun p => (D.move k p.1, D.move k p.2))
  | .st a => .st (a + k)
  | .opq => .opq

def fcN {α : Type} (n : Nat) (k : Nat → α) : α := match n with
  | 0 => k 0
  | m + 1 => k (Nat.succ m)
theorem fcN_eq {α : Type} (n : Nat) (k : Nat → α) : fcN n k = k n := by cases n <;> rfl
def fcI {α : Type} (i : Int) (k : Int → α) : α := match i with
  | .ofNat n => fcN n fun n => k (.ofNat n)
  | .negSucc n => fcN n fun n => k (.negSucc n)
theorem fcI_eq {α : Type} (i : Int) (k : Int → α) : fcI i k = k i := by
  cases i with
  | ofNat n => exact fcN_eq n fun n => k (.ofNat n)
  | negSucc n => exact fcN_eq n fun n => k (.negSucc n)
mutual
/-- the value is worked out ahead of what is done with it -/
def D.force {α : Type} : D → (D → α) → α
  | .non, k => k .non
  | .bl b, k => (match b with
    | true => k (.bl true)
    | false => k (.bl false))
  | .int i, k => fcI i fun i => k (.int i)
  | .str s, k => k (.str s)
  | .tup xs, k => D.forces xs fun xs => k (.tup xs)
  | .ref n, k => fcN n fun n => k (.ref n)
  | .scr, k => k .scr
def D.forces {α : Type} : List D → (List D → α) → α
  | [], k => k []
  | x :: r, k => D.force x fun x => D.forces r fun r => k (x :: r)
end
mutual
theorem D.force_eq {α : Type} : ∀ (d : D) (k : D → α), D.force d k = k d
  | .non, k => rfl
  | .bl b, k => by cases b <;> rfl
  | .int i, k => by unfold D.force; rw [fcI_eq]
  | .str s, k => rfl
  | .tup xs, k => by unfold D.force; rw [D.forces_eq xs]
  | .ref n, k => by unfold D.force; rw [fcN_eq]
  | .scr, k => rfl
theorem D.forces_eq {α : Type} : ∀ (d : List D) (k : List D → α), D.forces d k = k d
  | [], k => rfl
  | x :: r, k => by unfold D.forces; rw [D.force_eq x, D.forces_eq r]
end
def retOf (r : R3) : T (D × LH) := match r.1 with
  | .ret d => .ret (d, r.2.2)
  | .nx => .ret (.non, r.2.2)
  | _ => .bad
def startLS (N : List Str) (as : List D) : LS := as.map some ++ List.replicate (N.length - as.length) none
/-- a call's own heap, taken in behind the caller's -/
def takeIn (lh : LH) (r : D × LH) : T (D × LH) :=
  if r.1.flat then D.force r.1 fun d => .ret (d, lh)
  else match r.1 with
    | .ref k => (match r.2[k]? with
      | some (.lst xs) => if D.flats xs then D.forces xs fun xs => .ret (.ref lh.length, lh ++ [.lst xs]) else .ret (.ref (k + lh.length), lh ++ r.2.map (LO.move lh.length))
      | _ => .bad)
    | d => .ret (D.move lh.length d, lh ++ r.2.map (LO.move lh.length))

def runDf (ca : CA) (f : Df) (as : List D) (lh : LH) : T (D × LH) :=
  match f.kd with
  | .code b => if as.length = f.ps.length then
      (if D.flats as then D.forces as fun as => ((evSs ca b (startLS f.N as) []).bind retOf).bind (takeIn lh) else (evSs ca b (startLS f.N as) lh).bind retOf) else .bad
  | .start => (match as with
    | [.scr] => .ret (.ref (lh.length + 1), lh ++ [.opq, .st lh.length])
    | _ => .bad)
  | .draw => (match as with
    | [.ref k, .int m] => (match lh[k]? with
      | some (.st c) => (match lh[c]? with
        | some .opq => if decide (0 < m) && decide (m < 1073741824) then .drw m.toNat fun c => .ret (.int c, lh) else .bad
        | _ => .bad)
      | _ => .bad)
    | _ => .bad)

def evCall (fs : List Df) : Nat → CA
  | 0 => fun _ _ _ => .bad
  | n + 1 => fun g as lh => match fs[g]? with
    | some f => runDf (evCall fs n) f as lh
    | none => .bad

end G

namespace G
open PySem L2

/-! ### what stands for what -/
/-- a list that stands still: frozen, or of the written part -/
def SqF (K : PySem.W.Frag) (H : Hp) (a : Addr) (xs : List V) : Prop :=
  (∃ o, H a = some (.frz o (.lst xs))) ∨ ∃ (o : Obj) (its : Array Value) (n : Nat), K.lookup a = some o ∧ o.cls = .type "list" ∧ o.dict = none ∧ o.data = .seq its n ∧ its.size ≤ sizeLine ∧ Vals xs its.toList
theorem SqF.sql {K : PySem.W.Frag} {H : Hp} {a : Addr} {xs : List V} (h : SqF K H a xs) : SqL K H a xs := h.elim (fun ⟨o, e⟩ => .inl (.inr ⟨o, e⟩)) .inr
/-- a tuple that bears no dict -/
def SqD (K : PySem.W.Frag) (H : Hp) (a : Addr) (xs : List V) : Prop :=
  (∃ o : Obj, H a = some (.frz o (.tup xs)) ∧ o.cls = .type "tuple" ∧ o.dict = none) ∨
    ∃ (o : Obj) (its : Array Value) (n : Nat), K.lookup a = some o ∧ o.cls = .type "tuple" ∧ o.dict = none ∧ o.data = .seq its n ∧ its.size ≤ sizeLine ∧ Vals xs its.toList
theorem SqD.sqT {K : PySem.W.Frag} {H : Hp} {a : Addr} {xs : List V} (h : SqD K H a xs) : SqT K H a xs :=
  h.elim (fun ⟨o, e, _⟩ => .inl (.inr ⟨o, e⟩)) fun ⟨o, its, n, h1, h2, _, h4⟩ => .inr ⟨o, its, n, h1, h2, h4⟩

mutual
inductive RepV (K : PySem.W.Frag) (m : Nat → Addr) (n : Nat) (H : Hp) : D → V → Prop
  | non : RepV K m n H .non .non
  | bl (b : Bool) : RepV K m n H (.bl b) (.bl b)
  | int (i : Int) : RepV K m n H (.int i) (.int i)
  | str (s : Str) : RepV K m n H (.str s) (.str s)
  | tup {a : Addr} {vs : List V} {ds : List D} : SqD K H a vs → RepVs K m n H ds vs → RepV K m n H (.tup ds) (.ref a)
  | ref {k : Nat} : k < n → RepV K m n H (.ref k) (.ref (m k))
  | scr {a : Addr} {ns : List Int} : SqF K H a (ns.map V.int) → RepV K m n H .scr (.ref a)
inductive RepVs (K : PySem.W.Frag) (m : Nat → Addr) (n : Nat) (H : Hp) : List D → List V → Prop
  | nil : RepVs K m n H [] []
  | cons {d : D} {v : V} {ds : List D} {vs : List V} : RepV K m n H d v → RepVs K m n H ds vs → RepVs K m n H (d :: ds) (v :: vs)
end

variable {K : PySem.W.Frag} {m m' m2 : Nat → Addr} {n n' : Nat} {H H' H2 : Hp} {lh lh' lh2 : LH}

theorem RepVs.length : ∀ {ds : List D} {vs : List V}, RepVs K m n H ds vs → ds.length = vs.length
  | _, _, .nil => rfl
  | _, _, .cons _ t => by rw [List.length_cons, List.length_cons, RepVs.length t]
theorem RepVs.get : ∀ {ds : List D} {vs : List V} {i : Nat} {d : D}, RepVs K m n H ds vs → ds[i]? = some d → ∃ v, vs[i]? = some v ∧ RepV K m n H d v
  | _, _, _, _, .nil, h => by cases h
  | _, _, 0, _, .cons r _, h => by cases h; exact ⟨_, rfl, r⟩
  | _, _, i + 1, _, .cons _ t, h => RepVs.get (i := i) t h
theorem RepVs.getV : ∀ {ds : List D} {vs : List V} {i : Nat} {v : V}, RepVs K m n H ds vs → vs[i]? = some v → ∃ d, ds[i]? = some d ∧ RepV K m n H d v
  | _, _, _, _, .nil, h => by cases h
  | _, _, 0, _, .cons r _, h => by cases h; exact ⟨_, rfl, r⟩
  | _, _, i + 1, _, .cons _ t, h => RepVs.getV (i := i) t h
theorem RepVs.append : ∀ {ds es : List D} {vs ws : List V}, RepVs K m n H ds vs → RepVs K m n H es ws → RepVs K m n H (ds ++ es) (vs ++ ws)
  | _, _, _, _, .nil, s => s
  | _, _, _, _, .cons r t, s => .cons r (RepVs.append t s)
theorem RepVs.take : ∀ {ds : List D} {vs : List V} (k : Nat), RepVs K m n H ds vs → RepVs K m n H (ds.take k) (vs.take k)
  | _, _, 0, _ => .nil
  | _, _, _ + 1, .nil => .nil
  | _, _, k + 1, .cons r t => .cons r (RepVs.take k t)
theorem RepVs.drop : ∀ {ds : List D} {vs : List V} (k : Nat), RepVs K m n H ds vs → RepVs K m n H (ds.drop k) (vs.drop k)
  | _, _, 0, r => r
  | _, _, _ + 1, .nil => .nil
  | _, _, k + 1, .cons _ t => RepVs.drop k t
theorem RepVs.set {d : D} {v : V} (r : RepV K m n H d v) : ∀ {ds : List D} {vs : List V} (k : Nat), RepVs K m n H ds vs → RepVs K m n H (ds.set k d) (vs.set k v)
  | _, _, _, .nil => .nil
  | _, _, 0, .cons _ t => .cons r t
  | _, _, k + 1, .cons q t => .cons q (RepVs.set r k t)
theorem RepVs.snoc {d : D} {v : V} (r : RepV K m n H d v) {ds : List D} {vs : List V} (h : RepVs K m n H ds vs) : RepVs K m n H (ds ++ [d]) (vs ++ [v]) := h.append (.cons r .nil)
theorem RepVs.reverse : ∀ {ds : List D} {vs : List V}, RepVs K m n H ds vs → RepVs K m n H ds.reverse vs.reverse
  | _, _, .nil => .nil
  | _, _, .cons r t => by rw [List.reverse_cons, List.reverse_cons]; exact (RepVs.reverse t).snoc r
theorem RepVs.ofForall {ds : List D} {vs : List V} (hl : ds.length = vs.length) (h : ∀ (i : Nat) d v, ds[i]? = some d → vs[i]? = some v → RepV K m n H d v) : RepVs K m n H ds vs := by
  induction ds generalizing vs with
  | nil =>
    cases vs with
    | nil => exact .nil
    | cons _ _ => cases hl
  | cons d ds ih =>
    cases vs with
    | nil => cases hl
    | cons v vs => exact .cons (h 0 d v rfl rfl) (ih (by simpa using hl) fun i d' v' e1 e2 => h (i + 1) d' v' e1 e2)
theorem RepVs.flat_rep : ∀ (k : Nat) {ds : List D} {vs : List V}, RepVs K m n H ds vs → RepVs K m n H (List.replicate k ds).flatten (List.replicate k vs).flatten
  | 0, _, _, _ => .nil
  | k + 1, _, _, r => by
    rw [List.replicate_succ, List.replicate_succ, List.flatten_cons, List.flatten_cons]
    exact r.append (RepVs.flat_rep k r)

mutual
theorem RepV.to (hm : ∀ k, k < n → m' k = m k) (hn : n ≤ n') (ht : ∀ a vs, SqD K H a vs → SqD K H' a vs) (hf : ∀ a vs, SqF K H a vs → SqF K H' a vs) : ∀ {d : D} {v : V}, RepV K m n H d v → RepV K m' n' H' d v
  | _, _, .non => .non
  | _, _, .bl b => .bl b
  | _, _, .int i => .int i
  | _, _, .str s => .str s
  | _, _, .tup h r => .tup (ht _ _ h) (RepVs.to hm hn ht hf r)
  | _, _, .ref h => by rw [← hm _ h]; exact .ref (Nat.lt_of_lt_of_le h hn)
  | _, _, .scr h => .scr (hf _ _ h)
theorem RepVs.to (hm : ∀ k, k < n → m' k = m k) (hn : n ≤ n') (ht : ∀ a vs, SqD K H a vs → SqD K H' a vs) (hf : ∀ a vs, SqF K H a vs → SqF K H' a vs) : ∀ {ds : List D} {vs : List V}, RepVs K m n H ds vs → RepVs K m' n' H' ds vs
  | _, _, .nil => .nil
  | _, _, .cons r t => .cons (RepV.to hm hn ht hf r) (RepVs.to hm hn ht hf t)
end

def ObjRep (K : PySem.W.Frag) (m : Nat → Addr) (n : Nat) (H : Hp) : LO → Addr → Prop
  | .lst ds, a => ∃ vs, H a = some (.lst vs) ∧ RepVs K m n H ds vs
  | .dct _, _ => False
  | .st k, a => ∃ i j c : Int, k < n ∧ H a = some (.lst [.ref (m k), .int i, .int j, .int c]) ∧ 0 ≤ i ∧ 0 ≤ j ∧ 0 ≤ c
  | .opq, a => ∃ ns : List Int, H a = some (.lst (ns.map V.int))

structure Rel (K : PySem.W.Frag) (m : Nat → Addr) (lh : LH) (H : Hp) : Prop where
  obj : ∀ k o, lh[k]? = some o → ObjRep K m lh.length H o (m k)
  inj : ∀ i j, i < lh.length → j < lh.length → m i = m j → i = j


theorem Rel.some_ (R : Rel K m lh H) {k : Nat} (h : k < lh.length) : ∃ vs, H (m k) = some (.lst vs) := by
  have q := R.obj k lh[k] (List.getElem?_eq_getElem h)
  cases e : lh[k] with
  | lst ds => rw [e] at q; obtain ⟨vs, h1, _⟩ := q; exact ⟨vs, h1⟩
  | dct kvs => rw [e] at q; exact q.elim
  | st a => rw [e] at q; obtain ⟨i, j, c, _, h1, _⟩ := q; exact ⟨_, h1⟩
  | opq => rw [e] at q; obtain ⟨ns, h1⟩ := q; exact ⟨_, h1⟩

structure Step (m : Nat → Addr) (lh : LH) (H : Hp) (m' : Nat → Addr) (lh' : LH) (H' : Hp) : Prop where
  ext : ∀ k, k < lh.length → m' k = m k
  len : lh.length ≤ lh'.length
  fresh : ∀ k, lh.length ≤ k → k < lh'.length → H (m' k) = none
  frame : ∀ b o, H b = some o → (∀ k, k < lh.length → m k ≠ b) → H' b = some o

theorem Step.refl : Step m lh H m lh H := ⟨fun _ _ => rfl, Nat.le_refl _, fun _ h1 h2 => absurd (Nat.lt_of_lt_of_le h2 h1) (Nat.lt_irrefl _), fun _ _ h _ => h⟩
theorem Step.trans (a : Step m lh H m' lh' H') (R : Rel K m' lh' H') (b : Step m' lh' H' m2 lh2 H2) : Step m lh H m2 lh2 H2 where
  ext := fun k h => (b.ext k (Nat.lt_of_lt_of_le h a.len)).trans (a.ext k h)
  len := Nat.le_trans a.len b.len
  fresh := fun k h1 h2 => by
    by_cases h : k < lh'.length
    · rw [b.ext k h]; exact a.fresh k h1 h
    · have q := b.fresh k (Nat.le_of_not_lt h) h2
      cases e : H (m2 k) with
      | none => rfl
      | some o =>
        exfalso
        by_cases hx : ∃ i, i < lh.length ∧ m i = m2 k
        · obtain ⟨i, hi, e2⟩ := hx
          obtain ⟨vs, e3⟩ := R.some_ (Nat.lt_of_lt_of_le hi a.len)
          rw [a.ext i hi, e2, q] at e3
          cases e3
        · rw [a.frame _ o e fun i hi e2 => hx ⟨i, hi, e2⟩] at q; cases q
  frame := fun c o h hc => b.frame c o (a.frame c o h hc) fun k hk' e => by
    by_cases h' : k < lh.length
    · rw [a.ext k h'] at e; exact hc k h' e
    · have q := a.fresh k (Nat.le_of_not_lt h') hk'
      rw [e, h] at q; cases q

theorem Step.sqT (s : Step m lh H m' lh' H') (R : Rel K m lh H) {a : Addr} {vs : List V} (h : SqT K H a vs) : SqT K H' a vs := by
  rcases h with (h | ⟨o, h⟩) | h
  · exact .inl (.inl (s.frame _ _ h fun k hk e => by obtain ⟨ws, q⟩ := R.some_ hk; rw [e, h] at q; cases q))
  · exact .inl (.inr ⟨o, s.frame _ _ h fun k hk e => by obtain ⟨ws, q⟩ := R.some_ hk; rw [e, h] at q; cases q⟩)
  · exact .inr h
theorem Step.sqD (s : Step m lh H m' lh' H') (R : Rel K m lh H) {a : Addr} {vs : List V} (h : SqD K H a vs) : SqD K H' a vs := by
  rcases h with ⟨o, h, h2⟩ | h
  · exact .inl ⟨o, s.frame _ _ h (fun k hk e => by obtain ⟨ws, q⟩ := R.some_ hk; rw [e, h] at q; cases q), h2⟩
  · exact .inr h
theorem Step.sqF (s : Step m lh H m' lh' H') (R : Rel K m lh H) {a : Addr} {vs : List V} (h : SqF K H a vs) : SqF K H' a vs := by
  rcases h with ⟨o, h⟩ | h
  · exact .inl ⟨o, s.frame _ _ h fun k hk e => by obtain ⟨ws, q⟩ := R.some_ hk; rw [e, h] at q; cases q⟩
  · exact .inr h
theorem Step.repV (s : Step m lh H m' lh' H') (R : Rel K m lh H) {d : D} {v : V} (h : RepV K m lh.length H d v) : RepV K m' lh'.length H' d v :=
  h.to s.ext s.len (fun _ _ => s.sqD R) (fun _ _ => s.sqF R)
theorem Step.repVs (s : Step m lh H m' lh' H') (R : Rel K m lh H) {d : List D} {v : List V} (h : RepVs K m lh.length H d v) : RepVs K m' lh'.length H' d v :=
  h.to s.ext s.len (fun _ _ => s.sqD R) (fun _ _ => s.sqF R)

/-! ### slots -/
structure RelS (K : PySem.W.Frag) (m : Nat → Addr) (n : Nat) (H : Hp) (ls : LS) (σ : St) : Prop where
  len : ls.length = σ.length
  at_ : ∀ (i : Nat) (d : D), ls[i]? = some (some d) → ∃ v, σ[i]? = some (some v) ∧ RepV K m n H d v
theorem Step.relS {ls : LS} {σ : St} (s : Step m lh H m' lh' H') (R : Rel K m lh H) (h : RelS K m lh.length H ls σ) : RelS K m' lh'.length H' ls σ :=
  ⟨h.len, fun i d e => let ⟨v, e1, r⟩ := h.at_ i d e; ⟨v, e1, s.repV R r⟩⟩
theorem RelS.set {ls : LS} {σ : St} (h : RelS K m n H ls σ) {d : D} {v : V} (r : RepV K m n H d v) (i : Nat) : RelS K m n H (ls.set i (some d)) (σ.set i (some v)) := by
  refine ⟨by rw [List.length_set, List.length_set]; exact h.len, fun j e q => ?_⟩
  by_cases hj : i = j
  · subst hj
    by_cases hl : i < ls.length
    · rw [List.getElem?_set_self hl] at q
      cases q
      exact ⟨v, List.getElem?_set_self (h.len ▸ hl), r⟩
    · rw [List.getElem?_eq_none (by rw [List.length_set]; omega)] at q
      cases q
  · rw [List.getElem?_set_ne hj] at q ⊢
    exact h.at_ j e q
theorem RelS.wipe {ls : LS} {σ : St} (h : RelS K m n H ls σ) : ∀ own : List (Str × Nat), RelS K m n H (wipeD ls own) (L2.wipe σ (own.map (·.2)))
  | [] => h
  | p :: r => by
    have ih := RelS.wipe h r
    refine ⟨by unfold wipeD; rw [List.map_cons]; unfold L2.wipe; rw [List.length_set, List.length_set]; exact ih.len, fun j d q => ?_⟩
    unfold wipeD at q
    rw [List.map_cons]
    unfold L2.wipe
    by_cases hj : p.2 = j
    · subst hj
      by_cases hl : p.2 < (wipeD ls r).length
      · rw [List.getElem?_set_self hl] at q; cases q
      · rw [List.getElem?_eq_none (by rw [List.length_set]; omega)] at q; cases q
    · rw [List.getElem?_set_ne hj] at q ⊢
      exact ih.at_ j d q

/-! ### the small heap grows, changes -/
theorem lget_some {k : Nat} {xs : List D} (h : lget lh k = some xs) : lh[k]? = some (.lst xs) ∧ k < lh.length := by
  unfold lget at h
  split at h
  · cases h
    rename_i ys e
    exact ⟨e, (List.getElem?_eq_some_iff.mp e).1⟩
  · cases h
theorem Rel.lst (R : Rel K m lh H) {k : Nat} {xs : List D} (h : lget lh k = some xs) : ∃ vs, H (m k) = some (.lst vs) ∧ RepVs K m lh.length H xs vs := R.obj k _ (lget_some h).1

def extM (m : Nat → Addr) (n : Nat) (p : Addr) : Nat → Addr := fun k => if k = n then p else m k
/-- a new list -/
theorem Rel.new (R : Rel K m lh H) {o : LO} {w : HO} {p : Addr} (hp : H p = none) (hw : ∃ vs, w = .lst vs)
    (ho : ObjRep K (extM m lh.length p) (lh.length + 1) (upd H p w) o p) : Rel K (extM m lh.length p) (lh ++ [o]) (upd H p w) ∧ Step m lh H (extM m lh.length p) (lh ++ [o]) (upd H p w) := by
  have hl : (lh ++ [o]).length = lh.length + 1 := by simp
  have ne : ∀ k, k < lh.length → m k ≠ p := fun k hk e => by obtain ⟨vs, q⟩ := R.some_ hk; rw [e, hp] at q; cases q
  have old : ∀ k, k < lh.length → extM m lh.length p k = m k := fun k hk => by unfold extM; rw [if_neg (Nat.ne_of_lt hk)]
  have S : Step m lh H (extM m lh.length p) (lh ++ [o]) (upd H p w) := by
    refine ⟨old, by rw [hl]; exact Nat.le_succ _, fun k h1 h2 => ?_, fun b u hb _ => ?_⟩
    · have e : k = lh.length := by omega
      subst e
      unfold extM; rw [if_pos rfl]; exact hp
    · rw [upd_ne (fun e => by rw [e, hp] at hb; cases hb)]; exact hb
  refine ⟨⟨fun k u e => ?_, fun i j hi hj e => ?_⟩, S⟩
  · by_cases hk : k < lh.length
    · rw [List.getElem?_append_left hk] at e
      have q := R.obj k u e
      rw [old k hk, hl]
      have hne := ne k hk
      cases u with
      | lst ds =>
        obtain ⟨vs, h1, h2⟩ := q
        exact ⟨vs, by rw [upd_ne hne]; exact h1, by have z := S.repVs R h2; rw [hl] at z; exact z⟩
      | dct kvs => exact q.elim
      | st a =>
        obtain ⟨i, j, c, ha, h1, h2⟩ := q
        exact ⟨i, j, c, by omega, by rw [upd_ne hne, old a ha]; exact h1, h2⟩
      | opq =>
        obtain ⟨ns, h1⟩ := q
        exact ⟨ns, by rw [upd_ne hne]; exact h1⟩
    · have hk2 : k < (lh ++ [o]).length := (List.getElem?_eq_some_iff.mp e).1
      have ek : k = lh.length := by omega
      subst ek
      rw [List.getElem?_append_right (Nat.le_refl _)] at e
      simp only [Nat.sub_self, List.getElem?_cons_zero, Option.some.injEq] at e
      subst e
      rw [hl]
      have e2 : extM m lh.length p lh.length = p := by unfold extM; rw [if_pos rfl]
      rw [e2]
      exact ho
  · rw [hl] at hi hj
    by_cases h1 : i < lh.length
    · by_cases h2 : j < lh.length
      · rw [old i h1, old j h2] at e; exact R.inj i j h1 h2 e
      · have ej : j = lh.length := by omega
        subst ej
        have e2 : extM m lh.length p lh.length = p := by unfold extM; rw [if_pos rfl]
        rw [old i h1, e2] at e
        exact (ne i h1 e).elim
    · have ei : i = lh.length := by omega
      subst ei
      have e2 : extM m lh.length p lh.length = p := by unfold extM; rw [if_pos rfl]
      rw [e2] at e
      by_cases h2 : j < lh.length
      · rw [old j h2] at e
        exact (ne j h2 e.symm).elim
      · omega
/-- a list is changed -/
theorem Rel.put (R : Rel K m lh H) {k : Nat} {xs ys : List D} {vs : List V} (hk : lget lh k = some xs) (hv : RepVs K m lh.length H ys vs) :
    Rel K m (lh.set k (.lst ys)) (upd H (m k) (.lst vs)) ∧ Step m lh H m (lh.set k (.lst ys)) (upd H (m k) (.lst vs)) := by
  obtain ⟨hk1, hk2⟩ := lget_some hk
  have hl : (lh.set k (.lst ys)).length = lh.length := List.length_set
  have S : Step m lh H m (lh.set k (.lst ys)) (upd H (m k) (.lst vs)) := by
    refine ⟨fun _ _ => rfl, by rw [hl]; exact Nat.le_refl _, fun i h1 h2 => by omega, fun b u hb hx => ?_⟩
    rw [upd_ne (fun e => hx k hk2 e.symm)]; exact hb
  refine ⟨⟨fun i u e => ?_, fun i j hi hj e => R.inj i j (by omega) (by omega) e⟩, S⟩
  by_cases hi : k = i
  · subst hi
    rw [List.getElem?_set_self hk2] at e
    cases e
    refine ⟨vs, upd_same, ?_⟩
    exact S.repVs R hv
  · rw [List.getElem?_set_ne hi] at e
    have hil : i < lh.length := (List.getElem?_eq_some_iff.mp e).1
    have hne : m i ≠ m k := fun z => hi (R.inj i k hil hk2 z).symm
    have q := R.obj i u e
    cases u with
    | lst ds =>
      obtain ⟨ws, h1, h2⟩ := q
      exact ⟨ws, by rw [upd_ne hne]; exact h1, S.repVs R h2⟩
    | dct kvs => exact q.elim
    | st a =>
      obtain ⟨i', j, c, ha, h1, h2⟩ := q
      exact ⟨i', j, c, by omega, by rw [upd_ne hne]; exact h1, h2⟩
    | opq =>
      obtain ⟨ns, h1⟩ := q
      exact ⟨ns, by rw [upd_ne hne]; exact h1⟩
/-- a new thing that stands in no place -/
theorem Rel.any (R : Rel K m lh H) {p : Addr} {w : HO} (hp : H p = none) : Rel K m lh (upd H p w) ∧ Step m lh H m lh (upd H p w) := by
  have S : Step m lh H m lh (upd H p w) := by
    refine ⟨fun _ _ => rfl, Nat.le_refl _, fun i h1 h2 => by omega, fun b u hb _ => ?_⟩
    rw [upd_ne (fun e => by rw [e, hp] at hb; cases hb)]; exact hb
  refine ⟨⟨fun i u e => ?_, R.inj⟩, S⟩
  have hil : i < lh.length := (List.getElem?_eq_some_iff.mp e).1
  have hne : m i ≠ p := fun z => by obtain ⟨ws, q⟩ := R.some_ hil; rw [z, hp] at q; cases q
  have q := R.obj i u e
  cases u with
  | lst ds =>
    obtain ⟨ws, h1, h2⟩ := q
    exact ⟨ws, by rw [upd_ne hne]; exact h1, S.repVs R h2⟩
  | dct kvs => exact q.elim
  | st a =>
    obtain ⟨i', j, c, ha, h1, h2⟩ := q
    exact ⟨i', j, c, ha, by rw [upd_ne hne]; exact h1, h2⟩
  | opq =>
    obtain ⟨ns, h1⟩ := q
    exact ⟨ns, by rw [upd_ne hne]; exact h1⟩

/-! ### a run's reading -/
def Post (K : PySem.W.Frag) (m : Nat → Addr) (lh : LH) (H : Hp) (Q : VK) (r : D × LH) : Prop :=
  ∀ m' H' v, Step m lh H m' r.2 H' → Rel K m' r.2 H' → RepV K m' r.2.length H' r.1 v → Q v H'
def tE (K : PySem.W.Frag) (t : LS → LH → T (D × LH)) : TE := fun σ H Q =>
  ∃ m ls lh, Rel K m lh H ∧ RelS K m lh.length H ls σ ∧ (t ls lh).All (Post K m lh H Q)
theorem Post.step {Q : VK} (S : Step m lh H m' lh' H') (R : Rel K m' lh' H') {r : D × LH} (h : Post K m lh H Q r) : Post K m' lh' H' Q r :=
  fun m2 H2 v S2 R2 rv => h m2 H2 v (S.trans R S2) R2 rv
theorem Post.here {Q : VK} {r : D × LH} {v : V} (R : Rel K m r.2 H) (h : Post K m r.2 H Q r) (rv : RepV K m r.2.length H r.1 v) : Q v H := h m H v .refl R rv

def PostB (K : PySem.W.Frag) (m : Nat → Addr) (lh : LH) (H : Hp) (Q : Bool → Hp → Prop) (r : Bool × LH) : Prop :=
  ∀ m' H', Step m lh H m' r.2 H' → Rel K m' r.2 H' → Q r.1 H'
def tT (K : PySem.W.Frag) (t : LS → LH → T (Bool × LH)) : TT := fun σ H Q =>
  ∃ m ls lh, Rel K m lh H ∧ RelS K m lh.length H ls σ ∧ (t ls lh).All (PostB K m lh H Q)
def PostA (K : PySem.W.Frag) (m : Nat → Addr) (lh : LH) (H : Hp) (Q : List V → Hp → Prop) (r : List D × LH) : Prop :=
  ∀ m' H' vs, Step m lh H m' r.2 H' → Rel K m' r.2 H' → RepVs K m' r.2.length H' r.1 vs → Q vs H'
def tA (K : PySem.W.Frag) (t : LS → LH → T (List D × LH)) : TA := fun σ H Q =>
  ∃ m ls lh, Rel K m lh H ∧ RelS K m lh.length H ls σ ∧ (t ls lh).All (PostA K m lh H Q)
def PostS (K : PySem.W.Frag) (m : Nat → Addr) (lh : LH) (H : Hp) (D : Ends) (r : R3) : Prop :=
  ∀ m' H' σ', Step m lh H m' r.2.2 H' → Rel K m' r.2.2 H' → RelS K m' r.2.2.length H' r.2.1 σ' → match r.1 with
    | .nx => D.nx σ' H'
    | .brk => D.bk σ' H'
    | .cont => D.ct σ' H'
    | .ret d => ∀ v, RepV K m' r.2.2.length H' d v → D.rt v H'
def tS (K : PySem.W.Frag) (t : LS → LH → T R3) : TS := fun D σ H =>
  ∃ m ls lh, Rel K m lh H ∧ RelS K m lh.length H ls σ ∧ (t ls lh).All (PostS K m lh H D)

theorem _root_.L2.PE.weak {X : Cx} {e : PySem.Expr} {t t' : TE} (h : PE X e t) (w : ∀ σ H Q, t' σ H Q → t σ H Q) : PE X e t' := ⟨fun pins s σ H Q I q => h.run pins s σ H Q I (w σ H Q q)⟩
theorem _root_.L2.PT.weak {X : Cx} {e : PySem.Expr} {t t' : TT} (h : PT X e t) (w : ∀ σ H Q, t' σ H Q → t σ H Q) : PT X e t' := ⟨fun pins s σ H Q I q => h.run pins s σ H Q I (w σ H Q q)⟩
theorem _root_.L2.PS.weak {X : Cx} {e : PySem.Stmt} {t t' : TS} (h : PS X e t) (w : ∀ D σ H, t' D σ H → t D σ H) : PS X e t' := ⟨fun pins s σ H D I q => h.run pins s σ H D I (w D σ H q)⟩
theorem _root_.L2.PSs.weak {X : Cx} {e : List PySem.Stmt} {t t' : TS} (h : PSs X e t) (w : ∀ D σ H, t' D σ H → t D σ H) : PSs X e t' := ⟨fun pins s σ H D I q => h.run pins s σ H D I (w D σ H q)⟩
theorem _root_.L2.PA.weak {X : Cx} {e : List PySem.Expr} {t t' : TA} (h : PA X e t) (w : ∀ σ H Q, t' σ H Q → t σ H Q) : PA X e t' := ⟨fun pos pins s σ H Q I q => h.run pos pins s σ H Q I (w σ H Q q)⟩
end G

set_option maxHeartbeats 4000000
namespace G
open PySem L2
variable {K : PySem.W.Frag} {m m' m2 : Nat → Addr} {n n' : Nat} {H H' H2 : Hp} {lh lh' lh2 : LH} {X : Cx}

theorem line_eq : line = sizeLine := sizeLine_eq.symm
theorem OpR.or {f : Value → Value → Sem Value} {r r' : R2} (h : OpR X f r) (h' : OpR X f r') : OpR X f (fun x y H Q => r x y H Q ∨ r' x y H Q) := by
  intro pins s σ H x y v u Q I rx ry q
  rcases q with q | q
  · exact h pins s σ H x y v u Q I rx ry q
  · exact h' pins s σ H x y v u Q I rx ry q
theorem CallR.or {f : Value} {r r' : List V → Hp → VK → Prop} (h : CallR X f r) (h' : CallR X f r') : CallR X f (fun xs H Q => r xs H Q ∨ r' xs H Q) := by
  intro pins s σ H xs us Q I rs q
  rcases q with q | q
  · exact h pins s σ H xs us Q I rs q
  · exact h' pins s σ H xs us Q I rs q
theorem CallR.imp {f : Value} {r r' : List V → Hp → VK → Prop} (h : CallR X f r) (w : ∀ xs H Q, r' xs H Q → r xs H Q) : CallR X f r' :=
  fun pins s σ H xs us Q I rs q => h pins s σ H xs us Q I rs (w xs H Q q)

/-! ### snapshots -/
theorem mapO_len {α β : Type} {f : α → Option β} : ∀ {xs : List α} {ys : List β}, mapO f xs = some ys → ys.length = xs.length
  | [], ys, h => by cases h; rfl
  | x :: r, ys, h => by
    unfold mapO at h
    cases e1 : f x with
    | none => rw [e1] at h; cases h
    | some y =>
      rw [e1] at h
      cases e2 : mapO f r with
      | none => simp only [e2] at h; cases h
      | some zs =>
        simp only [e2, Option.some.injEq] at h
        subst h
        rw [List.length_cons, List.length_cons, mapO_len e2]
theorem mapO_cons {α β : Type} {f : α → Option β} {x : α} {r : List α} {ys : List β} (h : mapO f (x :: r) = some ys) : ∃ y zs, f x = some y ∧ mapO f r = some zs ∧ ys = y :: zs := by
  unfold mapO at h
  cases e1 : f x with
  | none => rw [e1] at h; cases h
  | some y =>
    rw [e1] at h
    cases e2 : mapO f r with
    | none => simp only [e2] at h; cases h
    | some zs =>
      simp only [e2, Option.some.injEq] at h
      exact ⟨y, zs, rfl, rfl, h.symm⟩
theorem Rel.sq (R : Rel K m lh H) {d : D} {v : V} {xs : List D} (h : seqOf lh d = some xs) (r : RepV K m lh.length H d v) :
    ∃ a vs, v = .ref a ∧ RepVs K m lh.length H xs vs ∧ ((d = .tup xs ∧ SqD K H a vs) ∨ ∃ k, d = .ref k ∧ a = m k ∧ lget lh k = some xs ∧ H a = some (.lst vs)) := by
  cases r with
  | tup h1 h2 => cases h; exact ⟨_, _, rfl, h2, .inl ⟨rfl, h1⟩⟩
  | @ref k hk =>
    have h' : lget lh k = some xs := h
    obtain ⟨vs, e1, e2⟩ := R.lst h'
    exact ⟨_, vs, rfl, e2, .inr ⟨k, rfl, rfl, h', e1⟩⟩
  | _ => cases h

theorem snap_dp (R : Rel K m lh H) : ∀ (n : Nat) (d : D) (p : PyData) (v : V), snap lh n d = some p → RepV K m lh.length H d v → Dp K H v p ∧ p.depth ≤ n ∧ p.canLay0 = true
  | 0, _, _, _, h, _ => by unfold snap at h; cases h
  | n + 1, d, p, v, h, r => by
    have all : ∀ (xs : List D) (ps : List PyData) (vs : List V), mapO (snap lh n) xs = some ps → RepVs K m lh.length H xs vs → DpAll K H vs ps ∧ PyData.depthAll ps ≤ n ∧ PyData.canLayAll0 ps = true := by
      intro xs
      induction xs with
      | nil => intro ps vs e r; cases e; cases r; exact ⟨.nil, Nat.zero_le _, rfl⟩
      | cons x xs ih =>
        intro ps vs e r
        obtain ⟨y, zs, e1, e2, rfl⟩ := mapO_cons e
        cases r with
        | cons r1 r2 =>
          obtain ⟨a1, a2, a3⟩ := snap_dp R n x y _ e1 r1
          obtain ⟨b1, b2, b3⟩ := ih zs _ e2 r2
          exact ⟨.cons a1 b1, by simp only [PyData.depthAll]; omega, by simp only [PyData.canLayAll0, a3, b3]; rfl⟩
    unfold snap at h
    cases r with
    | non => cases h; exact ⟨.non, Nat.zero_le _, rfl⟩
    | bl b => cases h; exact ⟨.bl b, Nat.zero_le _, rfl⟩
    | int i => cases h; exact ⟨.int i, Nat.zero_le _, rfl⟩
    | str s =>
      simp only at h
      split at h
      · rename_i hs
        cases h
        refine ⟨.str s, Nat.zero_le _, ?_⟩
        simp only [PyData.canLay0, PyData.strOk]
        rw [← Array.all_toList]
        exact hs
      · cases h
    | @tup a vs ds h1 h2 =>
      simp only at h
      split at h
      · rename_i ys e
        cases h
        obtain ⟨a1, a2, a3⟩ := all ds ys vs e h2
        exact ⟨.tup h1.sqT a1, by simp only [PyData.depth]; omega, by simp only [PyData.canLay0]; exact a3⟩
      · cases h
    | @ref k hk =>
      simp only at h
      split at h
      · rename_i xs e0
        split at h
        · rename_i ys e
          cases h
          obtain ⟨vs, e1, e2⟩ := R.lst e0
          obtain ⟨a1, a2, a3⟩ := all xs ys vs e e2
          exact ⟨.lst (SqL.of e1) a1, by simp only [PyData.depth]; omega, by simp only [PyData.canLay0]; exact a3⟩
        · cases h
      · cases h
    | scr => simp only at h; cases h

theorem snap_shaped (R : Rel K m lh H) {n : Nat} {d : D} {p : PyData} {v : V} (h : snap lh n d = some p) (r : RepV K m lh.length H d v) (hn : n ≤ 64) : Dp K H v p ∧ SeqAt.shaped p = true := by
  obtain ⟨a, b, c⟩ := snap_dp R n d p v h r
  refine ⟨a, ?_⟩
  unfold SeqAt.shaped
  rw [c, decide_eq_true (by omega : p.depth ≤ 64)]
  rfl

/-! ### tuples that are made -/
def Tq (H : Hp) (Q : VK) (xs : List V) : Prop := ∀ p (o : Obj), H p = none → o.cls = .type "tuple" → o.dict = none → Q (.ref p) (upd H p (.frz o (.tup xs)))
theorem Tq.fin {pins : List (Addr × Obj)} {σ : L2.St} {s : Shared} {Q : VK} {xs : List V} {us : List Value} {t' : Nat} (I : Inv X pins σ H s) (r : Vals xs us) (hz : xs.length ≤ sizeLine) (q : Tq H Q xs) :
    EP X pins σ Q (.ref s.heap.objs.size) { s with heap := s.heap.push { cls := .type "tuple", data := .seq us.toArray }, toks := t' } := by
  have hf : H s.heap.objs.size = none := I.hok.fresh (Nat.le_refl _)
  refine ⟨.ref s.heap.objs.size, upd H s.heap.objs.size (.frz { cls := .type "tuple", data := .seq us.toArray } (.tup xs)), I.laid (t' := t') (fun b u e => Heap.get?_push_of_some _ e) (Nat.le_refl _) ?_, rfl, q _ _ hf rfl rfl⟩
  exact ⟨Heap.get?_push_size _ rfl, hz, us, r, ⟨_, Heap.get?_push_size _ rfl, rfl, _, rfl⟩⟩
def tTupF (t : TA) : TE := fun σ H Q => t σ H fun xs H1 => xs.length ≤ sizeLine ∧ Tq H1 Q xs
theorem pe_tupF {es : List PySem.Expr} {x1 : Nat} {pos : Pos} {t : TA} (h : PA X es t) : PE X (.Tuple es x1 pos) (tTupF t) := by
  refine ⟨fun pins s σ H Q I hq => wpAny_Tuple_spliced (thn (h.run pos pins s σ H _ I hq) fun us s1 hr => ?_)⟩
  obtain ⟨xs, H1, I1, r, z, q⟩ := hr
  exact ⟨by rw [← r.length]; exact z, Tq.fin I1 r z q⟩
def rCatF (K : PySem.W.Frag) : R2 := fun x y H Q => ∃ a b xs ys, x = .ref a ∧ y = .ref b ∧ SqT K H a xs ∧ SqT K H b ys ∧ xs.length + ys.length ≤ sizeLine ∧
  (xs = [] → Q (.ref b) H) ∧ (xs ≠ [] → ys = [] → Q (.ref a) H) ∧ (xs ≠ [] → ys ≠ [] → Tq H Q (xs ++ ys))
theorem op_catF : OpR X (binaryOp .Add) (rCatF X.K) := by
  intro pins s σ H x y v u Q I rx ry h
  obtain ⟨a, b, xs, ys, rfl, rfl, ha, hb, hz, q0, q1, q2⟩ := h
  by_cases hx : xs = []
  · exact op_catA pins s σ H _ _ v u Q I rx ry ⟨a, b, xs, ys, rfl, rfl, ha, hb, hz, q0, fun e => absurd hx e, fun e => absurd hx e⟩
  · cases rx
    cases ry
    obtain ⟨us, r1, p1, _⟩ := I.tuple ha
    obtain ⟨ws, r2, p2, _⟩ := I.tuple hb
    refine HT.cat_tup p1 p2 (fun z => hx (r1.nil_iff.mp z)) (fun z => ⟨.ref a, H, I, rfl, q1 hx (r2.nil_iff.mp z)⟩) (fun z => ?_) (by rw [← r1.length, ← r2.length]; exact hz)
    exact Tq.fin (t' := s.toks) I (r1.append r2) (by rw [List.length_append]; exact hz) (q2 hx fun w => z (r2.nil_iff.mpr w))
theorem iop_catF : OpR X (inplaceOp .Add) (rCatF X.K) := by
  intro pins s σ H x y v u Q I rx ry h
  obtain ⟨a, b, xs, ys, rfl, rfl, ha, hb, hz, q0, q1, q2⟩ := h
  cases rx
  cases ry
  obtain ⟨us, r1, p1, _⟩ := I.tuple ha
  obtain ⟨ws, r2, p2, _⟩ := I.tuple hb
  have hno : typeLookup (.type "tuple") (dunderI "add") = pure none := by rw [typeLookup_type, builtinLookup_eq_fast]; kernel_rfl
  obtain ⟨⟨c1, d1, t1, z1⟩, ho, hc, n1, hd⟩ := id p1
  obtain ⟨⟨c2, d2, t2, z2⟩, ho2, hc2, n2, hd2⟩ := id p2
  simp only at hc hd hc2 hd2
  subst hc hd hc2 hd2
  refine wpAny_inplaceOp_concat (T := "tuple") ⟨_, ho, rfl⟩ ⟨_, ho2, rfl⟩ hno noFill_tuple_add seq_tuple_add ?_
  have lift : ∀ {v : Value} {s' : Shared}, v ≠ .notImplemented → EP X pins σ Q v s' → EP X pins σ Q v s' := fun _ h => h
  by_cases hx : us = []
  · exact call_meets PySem.F.slot_tuple_add ⟨_, ho, rfl⟩ PySem.F.entry_tuple_add (PySem.F.args_tuple_add_2 _ _)
      (PyProof.Rows.tuple_addW0 a b us.toArray ws.toArray n1 n2 d1 d2 z1 z2 (by simp [hx])) ⟨ho, ho2, ⟨.ref b, H, I, rfl, q0 (r1.nil_iff.mp hx)⟩⟩
  · by_cases hy : ws = []
    · exact call_meets PySem.F.slot_tuple_add ⟨_, ho, rfl⟩ PySem.F.entry_tuple_add (PySem.F.args_tuple_add_2 _ _)
        (PyProof.Rows.tuple_addW1 a b us.toArray ws.toArray n1 n2 d1 d2 z1 z2 (by simp [hx]) (by simp [hy])) ⟨ho, ho2, ⟨.ref a, H, I, rfl, q1 (fun e => hx (r1.nil_iff.mpr e)) (r2.nil_iff.mp hy)⟩⟩
    · refine call_meets PySem.F.slot_tuple_add ⟨_, ho, rfl⟩ PySem.F.entry_tuple_add (PySem.F.args_tuple_add_2 _ _)
        (PyProof.Rows.tuple_addW2 a b us.toArray ws.toArray n1 n2 d1 d2 z1 z2 (by simp [hx]) (by simp [hy]) (by rw [List.size_toArray, List.size_toArray, ← r1.length, ← r2.length]; exact hz)) ⟨ho, ho2, ?_⟩
      have e : us.toArray ++ ws.toArray = (us ++ ws).toArray := by simp
      rw [e]
      exact Tq.fin (t' := s.toks) I (r1.append r2) (by rw [List.length_append]; exact hz) (q2 (fun e => hx (r1.nil_iff.mpr e)) fun e => hy (r2.nil_iff.mpr e))
def rSlF (K : PySem.W.Frag) : V → Option Int → Option Int → Hp → VK → Prop := fun x lo hi H Q => ∃ a xs, x = .ref a ∧ SqT K H a xs ∧
  (HT.sIx xs.length 0 lo = 0 ∧ HT.sIx xs.length xs.length hi = xs.length → Q (.ref a) H) ∧ (¬ (HT.sIx xs.length 0 lo = 0 ∧ HT.sIx xs.length xs.length hi = xs.length) → Tq H Q (cutV xs lo hi))
theorem sl_tupF : SlR X (rSlF X.K) := by
  intro pins s σ H x v vl vu lo hi sl Q I rx hs pl pu h
  obtain ⟨a, xs, rfl, hx, q1, q2⟩ := h
  by_cases hw : HT.sIx xs.length 0 lo = 0 ∧ HT.sIx xs.length xs.length hi = xs.length
  · exact sl_tupA pins s σ H _ v vl vu lo hi sl Q I rx hs pl pu ⟨a, xs, rfl, hx, q1, fun e => absurd hw e⟩
  · cases rx
    obtain ⟨us, r, ht, hz⟩ := I.tuple hx
    have hl : us.toArray.size = xs.length := by rw [List.size_toArray]; exact r.length.symm
    refine ⟨"tuple", _, PyProof.Rows.slot_tuple_getitem.lookup, ht.typeIs, HT.getItem_tuple_cut ht hs pl pu (by rw [hl]; exact hw) ?_ (by rw [hl]; exact hz)⟩
    rw [hl]
    exact Tq.fin (t' := s.toks) I ((r.drop _).take _) (Nat.le_trans (cutV_length xs lo hi) hz) (q2 hw)
def rTupF (K : PySem.W.Frag) : List V → Hp → VK → Prop := fun xs H Q => ∃ p ys, xs = [.ref p] ∧ ((SqL K H p ys ∧ Tq H Q ys) ∨ (SqT K H p ys ∧ Q (.ref p) H))
theorem call_tupF : CallR X (.type "tuple") (rTupF X.K) := by
  intro pins s σ H xs us Q I r h
  obtain ⟨p, ys, rfl, ⟨hq, q⟩ | ⟨hq, q⟩⟩ := h
  · obtain ⟨u, rfl, rx⟩ := Vals.one r
    cases rx
    obtain ⟨ws, rw_, pl, hz⟩ := I.list hq
    have hlen := rw_.length
    refine call_tuple_list pl.isList (fun h' kp => ?_) (by simp only [List.size_toArray] <;> omega)
    have I1 : Inv X pins σ H { s with heap := h' } := I.kept (t' := s.toks) kp
    exact Tq.fin (s := { s with heap := h' }) (t' := s.toks) I1 rw_ hz q
  · exact call_tupleT pins s σ H _ us Q I r ⟨p, ys, rfl, hq, q⟩

/-! ### + - * // % ** -/
def rAddG (K : PySem.W.Frag) : R2 := fun x y H Q => rI0 (fun i j => .int (i + j)) x y H Q ∨ (∃ i j, x = .str i ∧ y = .str j ∧ i.length + j.length ≤ sizeLine ∧ Q (.str (i ++ j)) H) ∨ rCatF K x y H Q ∨ rCat x y H Q
theorem op_addG : OpR X (binaryOp .Add) (rAddG X.K) := OpR.or op_add (OpR.or op_add_str (OpR.or op_catF op_cat))

def Ad2 (K : PySem.W.Frag) (op : D → D → LH → T (D × LH)) (r : R2) : Prop :=
  ∀ (m : Nat → Addr) (lh : LH) (H : Hp) (x y : D) (vx vy : V) (Q : VK), Rel K m lh H → RepV K m lh.length H x vx → RepV K m lh.length H y vy → (op x y lh).All (Post K m lh H Q) → r vx vy H Q

theorem Post.ret {Q : VK} {d : D} {v : V} (R : Rel K m lh H) (h : (T.ret (d, lh)).All (Post K m lh H Q)) (rv : RepV K m lh.length H d v) : Q v H :=
  (show Post K m lh H Q (d, lh) from h) m H v .refl R rv
theorem Post.new {Q : VK} {xs : List D} {vs : List V} (R : Rel K m lh H) (h : (G.new (.lst xs) lh).All (Post K m lh H Q)) (r : RepVs K m lh.length H xs vs) : ∀ p, H p = none → Q (.ref p) (upd H p (.lst vs)) := by
  intro p hp
  have ho : ObjRep K (extM m lh.length p) (lh.length + 1) (upd H p (.lst vs)) (.lst xs) p := by
    refine ⟨vs, upd_same, ?_⟩
    have S : Step m lh H (extM m lh.length p) (lh ++ [LO.opq]) (upd H p (.lst ([] : List V))) := (Rel.new R (o := .opq) (w := .lst []) hp ⟨_, rfl⟩ ⟨[], upd_same⟩).2
    refine r.to S.ext (by omega) (fun a ws q => ?_) (fun a ws q => ?_)
    · rcases q with ⟨o, q, q2⟩ | q
      · exact .inl ⟨o, by rw [upd_ne (fun e => by rw [e, hp] at q; cases q)]; exact q, q2⟩
      · exact .inr q
    · rcases q with ⟨o, q⟩ | q
      · exact .inl ⟨o, by rw [upd_ne (fun e => by rw [e, hp] at q; cases q)]; exact q⟩
      · exact .inr q
  obtain ⟨R2, S2⟩ := Rel.new R hp ⟨_, rfl⟩ ho
  have e2 : extM m lh.length p lh.length = p := by unfold extM; rw [if_pos rfl]
  have q := (show Post K m lh H Q (.ref lh.length, lh ++ [.lst xs]) from h) (extM m lh.length p) _ (.ref (extM m lh.length p lh.length)) S2 R2 (.ref (by simp))
  rw [e2] at q
  exact q
theorem Post.tup {Q : VK} {xs : List D} {vs : List V} (R : Rel K m lh H) (h : (T.ret (D.tup xs, lh)).All (Post K m lh H Q)) (r : RepVs K m lh.length H xs vs) : Tq H Q vs := by
  intro p o hp ho hd
  obtain ⟨R2, S2⟩ := R.any (w := .frz o (.tup vs)) hp
  exact (show Post K m lh H Q (.tup xs, lh) from h) m _ _ S2 R2 (.tup (.inl ⟨o, upd_same, ho, hd⟩) (S2.repVs R r))

theorem ad_add : Ad2 K (opB .add) (rAddG K) := by
  intro m lh H x y vx vy Q R rx ry h
  unfold opB at h
  cases rx with
  | int i =>
    cases ry with
    | int j => exact .inl ⟨i, j, rfl, rfl, Post.ret R h (.int _)⟩
    | _ => exact h.elim
  | str i =>
    cases ry with
    | str j =>
      simp only at h
      split at h
      · rename_i hl
        exact .inr (.inl ⟨i, j, rfl, rfl, by rw [line_eq] at hl; exact hl, Post.ret R h (.str _)⟩)
      · exact h.elim
    | _ => exact h.elim
  | @tup a vs ds h1 h2 =>
    cases ry with
    | @tup b ws es k1 k2 =>
      simp only at h
      split at h
      · rename_i hl
        rw [line_eq, h2.length, k2.length] at hl
        refine .inr (.inr (.inl ⟨a, b, vs, ws, rfl, rfl, h1.sqT, k1.sqT, hl, fun e => ?_, fun e1 e2 => ?_, fun e1 e2 => ?_⟩))
        · subst e
          cases h2
          exact Post.ret R h (.tup k1 k2)
        · subst e2
          cases k2
          rw [List.append_nil] at h
          exact Post.ret R h (.tup h1 h2)
        · exact Post.tup R h (h2.append k2)
      · exact h.elim
    | _ => exact h.elim
  | @ref k hk =>
    cases ry with
    | @ref l hl =>
      simp only at h
      split at h
      · rename_i xs ys e1 e2
        split at h
        · rename_i hz
          obtain ⟨vs, a1, a2⟩ := R.lst e1
          obtain ⟨ws, b1, b2⟩ := R.lst e2
          rw [line_eq, a2.length, b2.length] at hz
          exact .inr (.inr (.inr ⟨m k, m l, vs, ws, rfl, rfl, a1, b1, hz, Post.new R h (a2.append b2)⟩))
        · exact h.elim
      · exact h.elim
    | _ => exact h.elim
  | non => cases ry <;> exact h.elim
  | bl b => cases ry <;> exact h.elim
  | scr _ => cases ry <;> exact h.elim

theorem ad_sub : Ad2 K (opB .sub) (rI0 fun i j => .int (i - j)) := by
  intro m lh H x y vx vy Q R rx ry h
  unfold opB at h
  cases rx <;> cases ry <;> try exact h.elim
  exact ⟨_, _, rfl, rfl, Post.ret R h (.int _)⟩
theorem cmul_of {i j : Int} (h : (small i || small j) = true) : CMul i j := by
  unfold small at h
  rcases Bool.or_eq_true_iff.mp h with h | h
  · obtain ⟨a, b⟩ := Bool.and_eq_true_iff.mp h
    exact .inl ⟨of_decide_eq_true a, of_decide_eq_true b⟩
  · obtain ⟨a, b⟩ := Bool.and_eq_true_iff.mp h
    exact .inr ⟨of_decide_eq_true a, of_decide_eq_true b⟩
theorem ad_mul : Ad2 K (opB .mul) (fun x y H Q => rI CMul (fun i j => .int (i * j)) x y H Q ∨ rRep x y H Q) := by
  intro m lh H x y vx vy Q R rx ry h
  unfold opB at h
  cases rx with
  | int i =>
    cases ry with
    | int j =>
      simp only at h
      split at h
      · rename_i hc
        exact .inl ⟨_, _, rfl, rfl, cmul_of hc, Post.ret R h (.int _)⟩
      · exact h.elim
    | _ => exact h.elim
  | @ref k hk =>
    cases ry with
    | int j =>
      simp only at h
      split at h
      · rename_i xs e
        split at h
        · rename_i hc
          obtain ⟨hc, h3⟩ := Bool.and_eq_true_iff.mp hc
          obtain ⟨h1, h2⟩ := Bool.and_eq_true_iff.mp hc
          have h1 := of_decide_eq_true h1
          have h2 := of_decide_eq_true h2
          have h3 := of_decide_eq_true h3
          obtain ⟨vs, a1, a2⟩ := R.lst e
          have hz : vs.length * j.toNat ≤ sizeLine := by
            rw [← a2.length, sizeLine_eq]
            have := Nat.mul_le_mul h3 (show j.toNat ≤ 1000 by omega)
            omega
          refine .inr ⟨m k, j, vs, rfl, rfl, a1, by omega, by omega, hz, Post.new R h (a2.flat_rep j.toNat)⟩
        · exact h.elim
      · exact h.elim
    | _ => exact h.elim
  | _ => cases ry <;> exact h.elim
theorem ad_fdiv : Ad2 K (opB .fdiv) (rI CDivN fun i j => .int (i.fdiv j)) := by
  intro m lh H x y vx vy Q R rx ry h
  unfold opB at h
  cases rx <;> cases ry <;> try exact h.elim
  simp only at h
  split at h
  · rename_i hc
    obtain ⟨h1, h2⟩ := Bool.and_eq_true_iff.mp hc
    exact ⟨_, _, rfl, rfl, ⟨of_decide_eq_true h1, of_decide_eq_true h2⟩, Post.ret R h (.int _)⟩
  · exact h.elim
theorem ad_mod : Ad2 K (opB .mod) (rI (fun _ j => j ≠ 0) fun i j => .int (i.fmod j)) := by
  intro m lh H x y vx vy Q R rx ry h
  unfold opB at h
  cases rx <;> cases ry <;> try exact h.elim
  simp only at h
  split at h
  · rename_i hc
    exact ⟨_, _, rfl, rfl, of_decide_eq_true hc, Post.ret R h (.int _)⟩
  · exact h.elim
theorem ad_pow : Ad2 K (opB .pow) (rI CPow fun i j => .int (i ^ j.toNat)) := by
  intro m lh H x y vx vy Q R rx ry h
  unfold opB at h
  cases rx <;> cases ry <;> try exact h.elim
  simp only at h
  split at h
  · rename_i hc
    obtain ⟨hc, h3⟩ := Bool.and_eq_true_iff.mp hc
    obtain ⟨h1, h2⟩ := Bool.and_eq_true_iff.mp hc
    exact ⟨_, _, rfl, rfl, ⟨of_decide_eq_true h1, of_decide_eq_true h2, of_decide_eq_true h3⟩, Post.ret R h (.int _)⟩
  · exact h.elim

def rB (K : PySem.W.Frag) : Bop → R2
  | .add => rAddG K
  | .sub => rI0 fun i j => .int (i - j)
  | .mul => fun x y H Q => rI CMul (fun i j => .int (i * j)) x y H Q ∨ rRep x y H Q
  | .fdiv => rI CDivN fun i j => .int (i.fdiv j)
  | .mod => rI (fun _ j => j ≠ 0) fun i j => .int (i.fmod j)
  | .pow => rI CPow fun i j => .int (i ^ j.toNat)
def bopOf : Bop → Operator
  | .add => .Add | .sub => .Sub | .mul => .Mult | .fdiv => .FloorDiv | .mod => .Mod | .pow => .Pow
theorem op_B : ∀ op : Bop, OpR X (binaryOp (bopOf op)) (rB X.K op)
  | .add => op_addG
  | .sub => op_sub
  | .mul => OpR.or op_mul op_rep
  | .fdiv => op_fdivN
  | .mod => op_modN
  | .pow => op_pow
theorem ad_B : ∀ op : Bop, Ad2 K (opB op) (rB K op)
  | .add => ad_add
  | .sub => ad_sub
  | .mul => ad_mul
  | .fdiv => ad_fdiv
  | .mod => ad_mod
  | .pow => ad_pow
end G

set_option maxHeartbeats 4000000
namespace G
open PySem L2
variable {K : PySem.W.Frag} {m m' m2 : Nat → Addr} {n n' : Nat} {H H' H2 : Hp} {lh lh' lh2 : LH} {X : Cx}

/-! ### comparisons -/
def rOrd (K : PySem.W.Frag) (f : PyData → PyData → Bool) : R2 := fun x y H Q => ∃ d e, Dp K H x d ∧ Dp K H y e ∧ PySem.W.alike d e = true ∧ d ≠ .none ∧ d.depth ≤ 64 ∧ Q (.bl (f d e)) H
section
variable (hu : X.A.units + 66 < cLine)
include hu
theorem op_ltD : OpR X (compareOp .Lt) (rOrd X.K fun d e => PySem.W.dataLt d e) := by
  intro pins s σ H x y v u Q I rx ry h
  obtain ⟨d, e, hd, he, ha, hn, hz, q⟩ := h
  have ⟨as, r1⟩ := hd.reads I d x v rx
  obtain ⟨bs, r2⟩ := Dp.reads I e y u he ry
  exact PySem.W.lt_data r1 r2 ha hn (by omega) ⟨.bl _, H, I, rfl, q⟩
theorem op_gtD : OpR X (compareOp .Gt) (rOrd X.K fun d e => PySem.W.dataLt e d) := by
  intro pins s σ H x y v u Q I rx ry h
  obtain ⟨d, e, hd, he, ha, hn, hz, q⟩ := h
  have ⟨as, r1⟩ := hd.reads I d x v rx
  obtain ⟨bs, r2⟩ := Dp.reads I e y u he ry
  exact PySem.W.gt_data r1 r2 ha hn (by omega) ⟨.bl _, H, I, rfl, q⟩
theorem op_leD : OpR X (compareOp .LtE) (rOrd X.K fun d e => !PySem.W.dataLt e d) := by
  intro pins s σ H x y v u Q I rx ry h
  obtain ⟨d, e, hd, he, ha, hn, hz, q⟩ := h
  have ⟨as, r1⟩ := hd.reads I d x v rx
  obtain ⟨bs, r2⟩ := Dp.reads I e y u he ry
  exact PySem.W.le_data r1 r2 ha hn (by omega) ⟨.bl _, H, I, rfl, q⟩
theorem op_geD : OpR X (compareOp .GtE) (rOrd X.K fun d e => !PySem.W.dataLt d e) := by
  intro pins s σ H x y v u Q I rx ry h
  obtain ⟨d, e, hd, he, ha, hn, hz, q⟩ := h
  have ⟨as, r1⟩ := hd.reads I d x v rx
  obtain ⟨bs, r2⟩ := Dp.reads I e y u he ry
  exact PySem.W.ge_data r1 r2 ha hn (by omega) ⟨.bl _, H, I, rfl, q⟩
def rInT (K : PySem.W.Frag) (neg : Bool) : R2 := fun x y H Q => ∃ d ds, Dp K H x d ∧ Dp K H y (.tuple ds) ∧ SeqAt.shaped d = true ∧ SeqAt.shaped (.tuple ds) = true ∧ Q (.bl (if neg then !(ds.any fun z => PyData.eqv z d) else ds.any fun z => PyData.eqv z d)) H
theorem op_inT : OpR X (compareOp .In) (rInT X.K false) := by
  intro pins s σ H x y v u Q I rx ry h
  obtain ⟨d, ds, hd, he, sd, se, q⟩ := h
  have ⟨as, r1⟩ := hd.reads I d x v rx
  obtain ⟨bs, r2⟩ := Dp.reads I (.tuple ds) y u he ry
  exact SeqAt.in_tuple_reads r2 r1 (SeqAt.canLay_of_shaped se) (SeqAt.canLay_of_shaped sd) (PyProof.Rows.room_in_shaped sd (by omega)) ⟨.bl _, H, I, rfl, q⟩
theorem op_notInT : OpR X (compareOp .NotIn) (rInT X.K true) := by
  intro pins s σ H x y v u Q I rx ry h
  obtain ⟨d, ds, hd, he, sd, se, q⟩ := h
  have ⟨as, r1⟩ := hd.reads I d x v rx
  obtain ⟨bs, r2⟩ := Dp.reads I (.tuple ds) y u he ry
  exact SeqAt.notIn_tuple_reads r2 r1 (SeqAt.canLay_of_shaped se) (SeqAt.canLay_of_shaped sd) (PyProof.Rows.room_in_shaped sd (by omega)) ⟨.bl _, H, I, rfl, q⟩
end

def rEqG (K : PySem.W.Frag) : R2 := fun x y H Q => rEq x y H Q ∨ rEqD K x y H Q
def rNeG (K : PySem.W.Frag) : R2 := fun x y H Q => rNe x y H Q ∨ rNeD K x y H Q
def rLtG (K : PySem.W.Frag) : R2 := fun x y H Q => rI0 (fun i j => .bl (decide (i < j))) x y H Q ∨ rOrd K (fun d e => PySem.W.dataLt d e) x y H Q
def rLeG (K : PySem.W.Frag) : R2 := fun x y H Q => rI0 (fun i j => .bl (decide (i ≤ j))) x y H Q ∨ rOrd K (fun d e => !PySem.W.dataLt e d) x y H Q
def rGtG (K : PySem.W.Frag) : R2 := fun x y H Q => rI0 (fun i j => .bl (decide (j < i))) x y H Q ∨ rOrd K (fun d e => PySem.W.dataLt e d) x y H Q
def rGeG (K : PySem.W.Frag) : R2 := fun x y H Q => rI0 (fun i j => .bl (decide (j ≤ i))) x y H Q ∨ rOrd K (fun d e => !PySem.W.dataLt d e) x y H Q
def rIsNon (neg : Bool) : R2 := fun x y H Q => y = .non ∧ Q (.bl (if neg then !decide (x = .non) else decide (x = .non))) H
def rInStr (neg : Bool) : R2 := fun x y H Q => ∃ i j, x = .str i ∧ y = .str j ∧ Q (.bl (if neg then !(!(Builtin.Str.occurrences j i 0 j.length 1).isEmpty) else !(Builtin.Str.occurrences j i 0 j.length 1).isEmpty)) H
def rInG (K : PySem.W.Frag) (neg : Bool) : R2 := fun x y H Q => rInStr neg x y H Q ∨ (if neg then rNotInD K x y H Q else rInD K x y H Q) ∨ rInT K neg x y H Q
def rC (K : PySem.W.Frag) : Cop → R2
  | .eq => rEqG K | .ne => rNeG K | .lt => rLtG K | .le => rLeG K | .gt => rGtG K | .ge => rGeG K
  | .isN => rIsNon false | .notN => rIsNon true | .isB => rIsB | .notB => rNotB | .in_ => rInG K false | .notIn => rInG K true
def copOf : Cop → CmpOp
  | .eq => .Eq | .ne => .NotEq | .lt => .Lt | .le => .LtE | .gt => .Gt | .ge => .GtE
  | .isN => .Is | .notN => .IsNot | .isB => .Is | .notB => .IsNot | .in_ => .In | .notIn => .NotIn
theorem op_C (hu : X.A.units + 66 < cLine) : ∀ op : Cop, OpR X (compareOp (copOf op)) (rC X.K op)
  | .eq => OpR.or op_eq (op_eqD (by omega))
  | .ne => OpR.or op_ne (op_neD (by omega))
  | .lt => OpR.or op_lt (op_ltD hu)
  | .le => OpR.or op_le (op_leD hu)
  | .gt => OpR.or op_gt (op_gtD hu)
  | .ge => OpR.or op_ge (op_geD hu)
  | .isN => op_isN
  | .notN => op_notN
  | .isB => op_isBl
  | .notB => op_notBl
  | .in_ => OpR.or op_in_str (OpR.or (op_inD (by omega)) (op_inT hu))
  | .notIn => OpR.or op_notIn_str (OpR.or (op_notInD (by omega)) (op_notInT hu))

theorem ordD_some (R : Rel K m lh H) {x y : D} {vx vy : V} {p : PyData × PyData} (h : ordD lh x y = some p) (rx : RepV K m lh.length H x vx) (ry : RepV K m lh.length H y vy) :
    Dp K H vx p.1 ∧ Dp K H vy p.2 ∧ PySem.W.alike p.1 p.2 = true ∧ p.1 ≠ .none ∧ p.1.depth ≤ 64 := by
  unfold ordD at h
  split at h
  · rename_i a b ea eb
    split at h
    · rename_i hc
      cases h
      obtain ⟨h1, h2⟩ := Bool.and_eq_true_iff.mp hc
      obtain ⟨c1, c2, _⟩ := snap_dp R 60 x a vx ea rx
      obtain ⟨d1, _, _⟩ := snap_dp R 60 y b vy eb ry
      refine ⟨c1, d1, h1, fun e => ?_, by show a.depth ≤ 64; omega⟩
      have e' : a = .none := e
      subst e'
      exact absurd h2 (by decide)
    · cases h
  · cases h

theorem dec_i {i j : Int} : decide (V.int i = V.int j) = decide (i = j) := by simp
theorem dec_s {i j : Str} : decide (V.str i = V.str j) = decide (i = j) := by simp
theorem eqD_some (R : Rel K m lh H) {x y : D} {vx vy : V} {b : Bool} (h : eqD lh x y = some b) (rx : RepV K m lh.length H x vx) (ry : RepV K m lh.length H y vy) :
    (scal vx vy = true ∧ b = decide (vx = vy)) ∨ ∃ d e, Dp K H vx d ∧ Dp K H vy e ∧ SeqAt.shaped d = true ∧ SeqAt.shaped e = true ∧ b = PyData.eqv d e := by
  unfold eqD at h
  split at h
  · cases h
    cases rx
    cases ry
    exact .inl ⟨rfl, dec_i.symm⟩
  · cases h
    cases rx
    cases ry
    exact .inl ⟨rfl, dec_s.symm⟩
  · split at h
    · rename_i p q e1 e2
      cases h
      obtain ⟨a1, a2⟩ := snap_shaped R e1 rx (by omega)
      obtain ⟨b1, b2⟩ := snap_shaped R e2 ry (by omega)
      exact .inr ⟨p, q, a1, b1, a2, b2, rfl⟩
    · cases h
theorem inD_some (R : Rel K m lh H) {x y : D} {vx vy : V} {b : Bool} (h : inD lh x y = some b) (rx : RepV K m lh.length H x vx) (ry : RepV K m lh.length H y vy) :
    (∃ i j, vx = .str i ∧ vy = .str j ∧ b = !(Builtin.Str.occurrences j i 0 j.length 1).isEmpty) ∨
    (∃ d ds, Dp K H vx d ∧ (Dp K H vy (.list ds) ∧ SeqAt.shaped (.list ds) = true ∨ Dp K H vy (.tuple ds) ∧ SeqAt.shaped (.tuple ds) = true) ∧ SeqAt.shaped d = true ∧ b = ds.any fun z => PyData.eqv z d) := by
  unfold inD at h
  split at h
  · split at h
    · cases h; cases rx; cases ry
      exact .inl ⟨_, _, rfl, rfl, rfl⟩
    · cases h
  · split at h
    · rename_i a bs e1 e2
      cases h
      obtain ⟨a1, a2⟩ := snap_shaped R e1 rx (by omega)
      obtain ⟨b1, b2⟩ := snap_shaped R e2 ry (by omega)
      exact .inr ⟨a, bs, a1, .inl ⟨b1, b2⟩, a2, rfl⟩
    · rename_i a bs e1 e2
      cases h
      obtain ⟨a1, a2⟩ := snap_shaped R e1 rx (by omega)
      obtain ⟨b1, b2⟩ := snap_shaped R e2 ry (by omega)
      exact .inr ⟨a, bs, a1, .inr ⟨b1, b2⟩, a2, rfl⟩
    · cases h

theorem map_some {α β : Type} {f : α → β} {o : Option α} {b : β} (h : o.map f = some b) : ∃ a, o = some a ∧ f a = b := by
  cases o with
  | none => cases h
  | some a => exact ⟨a, rfl, Option.some.inj h⟩

theorem ad_C (op : Cop) (R : Rel K m lh H) {x y : D} {vx vy : V} {b : Bool} {Q : VK} (rx : RepV K m lh.length H x vx) (ry : RepV K m lh.length H y vy) (h : opC op x y lh = some b) (q : Q (.bl b) H) : rC K op vx vy H Q := by
  cases op with
  | eq =>
    rcases eqD_some R h rx ry with ⟨h1, rfl⟩ | ⟨d, e, h1, h2, h3, h4, rfl⟩
    · exact .inl ⟨h1, q⟩
    · exact .inr ⟨d, e, h1, h2, h3, h4, q⟩
  | ne =>
    obtain ⟨c, h', rfl⟩ := map_some h
    rcases eqD_some R h' rx ry with ⟨h1, rfl⟩ | ⟨d, e, h1, h2, h3, h4, rfl⟩
    · exact .inl ⟨h1, q⟩
    · exact .inr ⟨d, e, h1, h2, h3, h4, q⟩
  | lt =>
    unfold opC at h
    simp only at h
    split at h
    · cases h; cases rx; cases ry
      exact .inl ⟨_, _, rfl, rfl, q⟩
    · obtain ⟨c, h', rfl⟩ := map_some h
      obtain ⟨h1, h2, h3, h4, h5⟩ := ordD_some R h' rx ry
      exact .inr ⟨_, _, h1, h2, h3, h4, h5, q⟩
  | le =>
    unfold opC at h
    simp only at h
    split at h
    · cases h; cases rx; cases ry
      exact .inl ⟨_, _, rfl, rfl, q⟩
    · obtain ⟨c, h', rfl⟩ := map_some h
      obtain ⟨h1, h2, h3, h4, h5⟩ := ordD_some R h' rx ry
      exact .inr ⟨_, _, h1, h2, h3, h4, h5, q⟩
  | gt =>
    unfold opC at h
    simp only at h
    split at h
    · cases h; cases rx; cases ry
      exact .inl ⟨_, _, rfl, rfl, q⟩
    · obtain ⟨c, h', rfl⟩ := map_some h
      obtain ⟨h1, h2, h3, h4, h5⟩ := ordD_some R h' rx ry
      exact .inr ⟨_, _, h1, h2, h3, h4, h5, q⟩
  | ge =>
    unfold opC at h
    simp only at h
    split at h
    · cases h; cases rx; cases ry
      exact .inl ⟨_, _, rfl, rfl, q⟩
    · obtain ⟨c, h', rfl⟩ := map_some h
      obtain ⟨h1, h2, h3, h4, h5⟩ := ordD_some R h' rx ry
      exact .inr ⟨_, _, h1, h2, h3, h4, h5, q⟩
  | isN =>
    cases rx <;> cases ry <;> (try (cases h; done)) <;> (cases h; exact ⟨rfl, q⟩)
  | notN =>
    cases rx <;> cases ry <;> (try (cases h; done)) <;> (cases h; exact ⟨rfl, q⟩)
  | isB =>
    cases rx <;> cases ry <;> (try (cases h; done)) <;> (cases h; exact ⟨_, _, rfl, rfl, q⟩)
  | notB =>
    cases rx <;> cases ry <;> (try (cases h; done)) <;> (cases h; exact ⟨_, _, rfl, rfl, q⟩)
  | in_ =>
    rcases inD_some R h rx ry with ⟨i, j, e1, e2, rfl⟩ | ⟨d, ds, h1, h2, h3, rfl⟩
    · exact .inl ⟨i, j, e1, e2, q⟩
    · rcases h2 with ⟨h2, h4⟩ | ⟨h2, h4⟩
      · exact .inr (.inl ⟨d, ds, h1, h2, h3, h4, q⟩)
      · exact .inr (.inr ⟨d, ds, h1, h2, h3, h4, q⟩)
  | notIn =>
    obtain ⟨c, h', rfl⟩ := map_some h
    rcases inD_some R h' rx ry with ⟨i, j, e1, e2, rfl⟩ | ⟨d, ds, h1, h2, h3, rfl⟩
    · exact .inl ⟨i, j, e1, e2, q⟩
    · rcases h2 with ⟨h2, h4⟩ | ⟨h2, h4⟩
      · exact .inr (.inl ⟨d, ds, h1, h2, h3, h4, q⟩)
      · exact .inr (.inr ⟨d, ds, h1, h2, h3, h4, q⟩)

/-! ### truth -/
theorem truth_some (R : Rel K m lh H) {x : D} {vx : V} {b : Bool} (h : truth x lh = some b) (rx : RepV K m lh.length H x vx) : TruV K vx H b := by
  cases rx with
  | non => cases h; exact rfl
  | bl c => cases h; exact rfl
  | int i => cases h; exact rfl
  | str s =>
    unfold truth at h
    simp only at h
    split at h
    · rename_i hl
      cases h
      rw [line_eq] at hl
      exact ⟨hl, rfl⟩
    · cases h
  | @tup a vs ds h1 h2 =>
    cases h
    refine .inr (.inl ⟨vs, h1.sqT, ?_⟩)
    cases h2 <;> rfl
  | @ref k hk =>
    unfold truth at h
    simp only at h
    split at h
    · rename_i xs e
      cases h
      obtain ⟨vs, e1, e2⟩ := R.obj k _ e
      refine .inl ⟨vs, SqL.of e1, ?_⟩
      cases e2 <;> rfl
    · cases h
  | scr _ => cases h
end G

set_option maxHeartbeats 4000000
namespace G
open PySem L2
variable {K : PySem.W.Frag} {m m' m2 : Nat → Addr} {n n' : Nat} {H H' H2 : Hp} {lh lh' lh2 : LH} {X : Cx}

/-! ### the insertion sort is the one stable sort -/
section
variable {β : Type} (le : β → β → Bool) (T : PySem.W.TotalLe le)
include T
theorem ins_filter (z x : β) : ∀ l : List β, (ins le x l).filter (PySem.W.Srt.alike le z) = (x :: l).filter (PySem.W.Srt.alike le z)
  | [] => rfl
  | y :: r => by
    unfold ins
    by_cases h : le x y = true
    · rw [if_pos h]
    · rw [if_neg h, List.filter_cons, ins_filter z x r, List.filter_cons, List.filter_cons, List.filter_cons]
      by_cases h1 : PySem.W.Srt.alike le z x = true
      · by_cases h2 : PySem.W.Srt.alike le z y = true
        · exfalso
          unfold PySem.W.Srt.alike at h1 h2
          rw [Bool.and_eq_true] at h1 h2
          exact h (T.trans x z y h1.2 h2.1)
        · rw [if_pos h1, if_neg h2, if_pos h1, if_neg h2]
      · rw [if_neg h1, if_neg h1]
theorem isort_filter (z : β) : ∀ l : List β, (isort le l).filter (PySem.W.Srt.alike le z) = l.filter (PySem.W.Srt.alike le z)
  | [] => rfl
  | x :: r => by
    unfold isort
    rw [ins_filter le T z x, List.filter_cons, List.filter_cons, isort_filter z r]
theorem ins_mem {x a : β} : ∀ {l : List β}, a ∈ ins le x l → a = x ∨ a ∈ l
  | [], h => by
    unfold ins at h
    exact .inl (by simpa using h)
  | y :: r, h => by
    unfold ins at h
    by_cases hx : le x y = true
    · rw [if_pos hx] at h
      rcases List.mem_cons.mp h with h | h
      · exact .inl h
      · exact .inr h
    · rw [if_neg hx] at h
      rcases List.mem_cons.mp h with h | h
      · exact .inr (h ▸ List.mem_cons_self)
      · rcases ins_mem h with h | h
        · exact .inl h
        · exact .inr (List.mem_cons_of_mem _ h)
theorem ins_sorted (x : β) : ∀ l : List β, l.Pairwise (fun x y => le x y = true) → (ins le x l).Pairwise (fun x y => le x y = true)
  | [], _ => by unfold ins; simp
  | y :: r, h => by
    unfold ins
    obtain ⟨h1, h2⟩ := List.pairwise_cons.mp h
    by_cases hx : le x y = true
    · rw [if_pos hx]
      refine List.pairwise_cons.mpr ⟨fun a ha => ?_, h⟩
      rcases List.mem_cons.mp ha with e | ha
      · rw [e]; exact hx
      · exact T.trans _ _ _ hx (h1 a ha)
    · rw [if_neg hx]
      refine List.pairwise_cons.mpr ⟨fun a ha => ?_, ins_sorted x r h2⟩
      rcases ins_mem le T ha with e | ha
      · rw [e]
        exact (T.total x y).resolve_left hx
      · exact h1 a ha
theorem isort_sorted : ∀ l : List β, (isort le l).Pairwise (fun x y => le x y = true)
  | [] => by unfold isort; exact List.Pairwise.nil
  | x :: r => by unfold isort; exact ins_sorted le T x _ (isort_sorted r)
theorem isort_merge (l : List β) : isort le l = l.mergeSort le :=
  PySem.W.Srt.the le T.trans (fun a b => Bool.or_eq_true_iff.mpr (T.total a b)) (isort_sorted le T l) fun z => isort_filter le T z l
end
theorem dle_total {β : Type} (f : β → PyData) : PySem.W.TotalLe (PySem.W.dataLe false f) := PySem.W.sortLe_total _ _ _

/-! ### sorted -/
theorem each_vals {zs : List (V × PyData)} {us : List Value} (h : PySem.W.EachIs (fun (u : Value) (z : V × PyData) => RelV z.1 u) us zs) : Vals (zs.map (·.1)) us := by
  induction h with
  | nil => exact .nil
  | cons a _ ih => exact .cons a ih
theorem vals_each : ∀ {zs : List (V × PyData)} {us : List Value}, Vals (zs.map (·.1)) us → PySem.W.EachIs (fun (u : Value) (z : V × PyData) => RelV z.1 u) us zs
  | [], us, h => by cases h; exact .nil
  | z :: zs, us, h => by
    have h' : Vals (z.1 :: zs.map (·.1)) us := h
    cases h' with
    | cons a b => exact .cons a (vals_each b)
theorem each_both {α β : Type} {R R' : α → β → Prop} {xs : List α} {ys : List β} (h : PySem.W.EachIs R xs ys) (w : ∀ x y, y ∈ ys → R x y → R' x y) : PySem.W.EachIs R' xs ys := by
  induction h with
  | nil => exact .nil
  | cons a _ ih => exact .cons (w _ _ List.mem_cons_self a) (ih fun x y hy => w x y (List.mem_cons_of_mem _ hy))

def rSortG (K : PySem.W.Frag) : List V → Hp → VK → Prop := fun vs H Q => ∃ (a : Addr) (zs : List (V × PyData)), vs = [V.ref a] ∧ SqL K H a (zs.map (·.1)) ∧ (∀ z, z ∈ zs → Dp K H z.1 z.2 ∧ z.2.depth ≤ 64) ∧
  PySem.W.AllAlike (zs.map (·.2)) ∧ PySem.W.Sortable (zs.map (·.2)) ∧ ∀ p, H p = none → Q (.ref p) (upd H p (.lst ((zs.mergeSort (PySem.W.dataLe false (·.2))).map (·.1))))
theorem cr_sortG (hu : X.A.units + 70 < cLine) : CallR X (.builtin "sorted") (rSortG X.K) := by
  intro pins s σ H vs us Q I r h
  obtain ⟨a, zs, rfl, hs, hz, hal, hk, q⟩ := h
  obtain ⟨its, rv, hl, hsz⟩ := I.list hs
  rw [Vals.ref1 r]
  have e := vals_each rv
  rw [List.length_map] at hsz
  refine PySem.W.sorted_data (enc := fun z : V × PyData => z.2) hl.isList e (each_both e fun u z hz' ru => ?_) hal hk hsz (fun z hz' => ?_) fun out ho eo => ?_
  · obtain ⟨as, q1⟩ := Dp.reads I z.2 z.1 u (hz z hz').1 ru
    exact ⟨as, q1⟩
  · have := (hz z hz').2
    show X.A.units + 2 + z.2.depth < cLine
    omega
  · obtain ⟨ep, he'⟩ := PyProof.Rows.sortedAll_at s.heap its out.toArray
    have hlen : ((zs.mergeSort (PySem.W.dataLe false (·.2))).map (·.1)).length ≤ sizeLine := by
      rw [List.length_map, (List.mergeSort_perm zs _).length_eq]; exact hsz
    have ev : Vals ((zs.mergeSort (PySem.W.dataLe false (·.2))).map (·.1)) out := each_vals eo
    refine ⟨.ref _, upd H (s.heap.objs.size + 1) (.lst _), I.laid (t' := s.toks) (fun _ _ => PyProof.Rows.sortedAll_old) (Nat.le_succ _) ⟨hlen, out, ep, ev, he'⟩, rfl, q _ (I.hok.fresh (Nat.le_succ _))⟩

theorem allAlike_of : ∀ {ds : List PyData}, allAlike ds = true → PySem.W.AllAlike ds
  | [], _ => fun d hd => by cases hd
  | x :: r, h => by
    unfold allAlike at h
    obtain ⟨h, h3⟩ := Bool.and_eq_true_iff.mp h
    obtain ⟨h1, h2⟩ := Bool.and_eq_true_iff.mp h
    have ih := allAlike_of h3
    have h2 := List.all_eq_true.mp h2
    intro d hd d' hd'
    rcases List.mem_cons.mp hd with e | k1
    · rcases List.mem_cons.mp hd' with e' | k2
      · rw [e, e']; exact h1
      · rw [e]; exact (Bool.and_eq_true_iff.mp (h2 d' k2)).1
    · rcases List.mem_cons.mp hd' with e' | k2
      · rw [e']; exact (Bool.and_eq_true_iff.mp (h2 d k1)).2
      · exact ih d k1 d' k2
theorem sortable_of {ds : List PyData} (h : sortableP ds = true) : PySem.W.Sortable ds := by
  unfold sortableP at h
  rcases Bool.or_eq_true_iff.mp h with h | h
  · refine .inl fun d hd => ?_
    have q := List.all_eq_true.mp h d hd
    split at q
    · exact ⟨_, _, rfl⟩
    · cases q
  · refine .inr fun d hd => ?_
    have q := List.all_eq_true.mp h d hd
    split at q
    · cases q
    · cases q
    · rename_i h1 h2
      exact ⟨fun e => h1 e, fun xs e => h2 xs e⟩

structure Tr (K : PySem.W.Frag) (m : Nat → Addr) (n : Nat) (H : Hp) where
  d : D
  v : V
  p : PyData
  r : RepV K m n H d v
theorem triples {xs : List D} {vs : List V} (r : RepVs K m n H xs vs) : ∀ {ps : List PyData}, ps.length = xs.length → ∃ T : List (Tr K m n H), xs.zip ps = T.map (fun t => (t.d, t.p)) ∧ vs.zip ps = T.map (fun t => (t.v, t.p)) ∧ vs = T.map (·.v) ∧ ps = T.map (·.p) := by
  induction xs generalizing vs with
  | nil =>
    intro ps hl
    cases r
    cases ps with
    | nil => exact ⟨[], rfl, rfl, rfl, rfl⟩
    | cons _ _ => cases hl
  | cons x xs ih =>
    intro ps hl
    cases r with
    | cons r1 r2 =>
      rename_i v vs'
      cases ps with
      | nil => cases hl
      | cons p ps =>
        obtain ⟨T, e1, e2, e3, e4⟩ := ih r2 (ps := ps) (by simpa using hl)
        exact ⟨⟨x, v, p, r1⟩ :: T, by simp [e1], by simp [e2], by simp [e3], by simp [e4]⟩
theorem trs_rep : ∀ T : List (Tr K m n H), RepVs K m n H (T.map (·.d)) (T.map (·.v))
  | [] => .nil
  | t :: T => .cons t.r (trs_rep T)

theorem mapO_all {α β : Type} {f : α → Option β} : ∀ {xs : List α} {ys : List β}, mapO f xs = some ys → ∀ (i : Nat) x, xs[i]? = some x → ∃ y, ys[i]? = some y ∧ f x = some y
  | [], _, _, i, x, h => by cases h
  | x :: r, ys, h, i, z, hz => by
    obtain ⟨y, zs, e1, e2, rfl⟩ := mapO_cons h
    cases i with
    | zero => cases hz; exact ⟨y, rfl, e1⟩
    | succ i => exact mapO_all e2 i z hz

theorem ad_sorted {Q : VK} (R : Rel K m lh H) {k : Nat} {xs : List D} {ps : List PyData} (h1 : lget lh k = some xs) (h2 : mapO (snap lh 60) xs = some ps) (h3 : (allAlike ps && sortableP ps && decide (xs.length ≤ line)) = true)
    (h : (G.new (.lst ((sortP (xs.zip ps)).map (·.1))) lh).All (Post K m lh H Q)) : rSortG K [.ref (m k)] H Q := by
  obtain ⟨vs, a1, a2⟩ := R.lst h1
  obtain ⟨h3, h4⟩ := Bool.and_eq_true_iff.mp h3
  obtain ⟨h5, h6⟩ := Bool.and_eq_true_iff.mp h3
  have hlen := mapO_len h2
  obtain ⟨T, e1, e2, e3, e4⟩ := triples a2 hlen
  have f1 : (vs.zip ps).map (·.1) = vs := by rw [e2, e3, List.map_map]; rfl
  have f2 : (vs.zip ps).map (·.2) = ps := by rw [e2, e4, List.map_map]; rfl
  refine ⟨m k, vs.zip ps, rfl, by rw [f1]; exact SqL.of a1, fun z hz => ?_, by rw [f2]; exact allAlike_of h5, by rw [f2]; exact sortable_of h6, ?_⟩
  · obtain ⟨i, hi, ez⟩ := List.getElem_of_mem hz
    have hi' : (vs.zip ps)[i]? = some z := by rw [List.getElem?_eq_getElem hi, ez]
    rw [List.getElem?_zip_eq_some] at hi'
    obtain ⟨g1, g2⟩ := hi'
    obtain ⟨d, gd, rd⟩ := a2.getV g1
    obtain ⟨p, gp, sp⟩ := mapO_all h2 i d gd
    rw [g2] at gp
    cases gp
    obtain ⟨b1, b2, _⟩ := snap_dp R 60 d z.2 z.1 sp rd
    exact ⟨b1, by omega⟩
  · have k1 : sortP (xs.zip ps) = (T.mergeSort (PySem.W.dataLe false (·.p))).map (fun t => (t.d, t.p)) := by
      unfold sortP
      show isort (PySem.W.dataLe false fun q : D × PyData => q.2) (xs.zip ps) = _
      rw [isort_merge _ (dle_total _), e1, List.map_mergeSort (s := PySem.W.dataLe false fun q : D × PyData => q.2)]
      intro a _ b _
      rfl
    have k2 : (vs.zip ps).mergeSort (PySem.W.dataLe false (·.2)) = (T.mergeSort (PySem.W.dataLe false (·.p))).map (fun t => (t.v, t.p)) := by
      rw [e2, List.map_mergeSort (s := PySem.W.dataLe false fun q : V × PyData => q.2)]
      intro a _ b _
      rfl
    rw [k2, List.map_map]
    rw [k1, List.map_map] at h
    exact Post.new R h (trs_rep _)
end G

set_option maxHeartbeats 4000000
namespace G
open PySem L2
variable {K : PySem.W.Frag} {m m' m2 : Nat → Addr} {n n' : Nat} {H H' H2 : Hp} {lh lh' lh2 : LH} {X : Cx}

/-! ### built-in functions -/
theorem ints_some : ∀ {xs : List D} {ns : List Int} {vs : List V}, intsO xs = some ns → RepVs K m n H xs vs → vs = ns.map V.int
  | [], ns, vs, h, r => by cases h; cases r; rfl
  | x :: r, ns, vs, h, q => by
    obtain ⟨y, zs, e1, e2, rfl⟩ := mapO_cons h
    cases q with
    | cons q1 q2 =>
      have ih := ints_some (xs := r) e2 q2
      rw [ih]
      cases q1 <;> simp only at e1 <;> cases e1
      rfl
theorem bools_some : ∀ {xs : List D} {ns : List Bool} {vs : List V}, boolsO xs = some ns → RepVs K m n H xs vs → vs = ns.map V.bl
  | [], ns, vs, h, r => by cases h; cases r; rfl
  | x :: r, ns, vs, h, q => by
    obtain ⟨y, zs, e1, e2, rfl⟩ := mapO_cons h
    cases q with
    | cons q1 q2 =>
      have ih := bools_some (xs := r) e2 q2
      rw [ih]
      cases q1 <;> simp only at e1 <;> cases e1
      rfl

def rSumT (K : PySem.W.Frag) : List V → Hp → VK → Prop := fun vs H Q => ∃ (a : Addr) (ns : List Int), vs = [V.ref a] ∧ SqT K H a (ns.map V.int) ∧ Q (.int ns.sum) H
theorem cr_sumT (hc : X.calm = true) : CallR X (.builtin "sum") (rSumT X.K) := by
  intro pins s σ H vs us Q I r h
  obtain ⟨a, ns, rfl, hs, q⟩ := h
  obtain ⟨its, rv, hl, _⟩ := I.tuple hs
  rw [Vals.ref1 r]
  obtain ⟨xs, e⟩ := rv.ints.allInts.items
  have hn : numsOf (intItems xs).toList = ns := by rw [← e]; exact rv.ints.numsOf
  rw [nums_intItems] at hn
  rw [e] at hl
  have hlt : a < s.heap.objs.size := by obtain ⟨_, z, _⟩ := hl; exact Heap.lt_size z
  have ht : s.heap.IsTuple a (intItems xs) := hl
  refine call_sum_walkG (wpAny_pyIter_tuple ht ?_)
  refine ⟨_, _, _, _, _, _, numAt xs, rfl, Walks.tuple (A := X.A.in1) (I.ok.hd hc) _ a (Nat.ne_of_lt hlt) (intItems xs), ⟨⟨_, Heap.get?_push_size _ rfl, rfl, rfl⟩, ht.push _⟩, fun b hb => ?_, (fun _ _ => intItems_at), fun h' tk t' hk => ?_⟩
  · have e' : b = s.heap.objs.size ∨ b = a := by simpa using hb
    rw [Heap.size_push]
    rcases e' with z | z
    · rw [z]; exact Nat.lt_succ_self _
    · rw [z]; exact Nat.lt_succ_of_lt hlt
  · have hz : (intItems xs).size = xs.size := by simp [intItems]
    refine ⟨.int ns.sum, H, I.kept fun b o eo => hk b o (fun hm => ?_) (Heap.get?_push_of_some _ eo), ⟨t', ?_⟩, q⟩
    · have hm' : b = s.heap.objs.size := by simpa using hm
      exact absurd (hm' ▸ Heap.lt_size eo) (Nat.lt_irrefl _)
    · rw [hz, preSum_eq, List.take_of_length_le (by simp), hn]

theorem min_spec : ∀ (l : List Int) (k : Int), minI k l ∈ k :: l ∧ ∀ y, y ∈ k :: l → minI k l ≤ y
  | [], k => ⟨List.mem_cons_self, fun y hy => by have : y = k := by simpa using hy
                                                 rw [this]; exact Int.le_refl _⟩
  | x :: r, k => by
    obtain ⟨h1, h2⟩ := min_spec r (if x < k then x else k)
    show minI (if x < k then x else k) r ∈ k :: x :: r ∧ ∀ y, y ∈ k :: x :: r → minI (if x < k then x else k) r ≤ y
    have h0 := h2 _ List.mem_cons_self
    refine ⟨?_, fun y hy => ?_⟩
    · rcases List.mem_cons.mp h1 with e | e
      · rw [e]
        by_cases hx : x < k
        · rw [if_pos hx]; simp
        · rw [if_neg hx]; simp
      · exact List.mem_cons_of_mem _ (List.mem_cons_of_mem _ e)
    · have hk : (if x < k then x else k) ≤ k ∧ (if x < k then x else k) ≤ x := by
        by_cases hx : x < k
        · rw [if_pos hx]; omega
        · rw [if_neg hx]; omega
      rcases List.mem_cons.mp hy with e | hy
      · omega
      · rcases List.mem_cons.mp hy with e | hy
        · omega
        · exact h2 y (List.mem_cons_of_mem _ hy)
theorem max_spec : ∀ (l : List Int) (k : Int), maxI k l ∈ k :: l ∧ ∀ y, y ∈ k :: l → y ≤ maxI k l
  | [], k => ⟨List.mem_cons_self, fun y hy => by have : y = k := by simpa using hy
                                                 rw [this]; exact Int.le_refl _⟩
  | x :: r, k => by
    obtain ⟨h1, h2⟩ := max_spec r (if x > k then x else k)
    show maxI (if x > k then x else k) r ∈ k :: x :: r ∧ ∀ y, y ∈ k :: x :: r → y ≤ maxI (if x > k then x else k) r
    have h0 := h2 _ List.mem_cons_self
    refine ⟨?_, fun y hy => ?_⟩
    · rcases List.mem_cons.mp h1 with e | e
      · rw [e]
        by_cases hx : x > k
        · rw [if_pos hx]; simp
        · rw [if_neg hx]; simp
      · exact List.mem_cons_of_mem _ (List.mem_cons_of_mem _ e)
    · have hk : k ≤ (if x > k then x else k) ∧ x ≤ (if x > k then x else k) := by
        by_cases hx : x > k
        · rw [if_pos hx]; omega
        · rw [if_neg hx]; omega
      rcases List.mem_cons.mp hy with e | hy
      · omega
      · rcases List.mem_cons.mp hy with e | hy
        · omega
        · exact h2 y (List.mem_cons_of_mem _ hy)

def rLenS : List V → Hp → VK → Prop := fun xs H Q => ∃ z, xs = [.str z] ∧ z.length ≤ sizeLine ∧ Q (.int z.length) H
def rLenQ (K : PySem.W.Frag) : List V → Hp → VK → Prop := fun xs H Q => ∃ p ys, xs = [.ref p] ∧ (SqL K H p ys ∨ SqT K H p ys) ∧ Q (.int ys.length) H
def rListQ (K : PySem.W.Frag) : List V → Hp → VK → Prop := fun xs H Q => ∃ p ys, xs = [.ref p] ∧ (SqL K H p ys ∨ SqT K H p ys) ∧ ∀ l, H l = none → Q (.ref l) (upd H l (.lst ys))
def rAbs : List V → Hp → VK → Prop := fun xs H Q => ∃ i, xs = [.int i] ∧ Q (.int (if i < 0 then -i else i)) H
def rMin2 : List V → Hp → VK → Prop := fun xs H Q => ∃ i j, xs = [.int i, .int j] ∧ Q (.int (if j < i then j else i)) H
def rMax2 : List V → Hp → VK → Prop := fun xs H Q => ∃ i j, xs = [.int i, .int j] ∧ Q (.int (if j > i then j else i)) H
def rInt1 : List V → Hp → VK → Prop := fun xs H Q => (∃ i, xs = [.int i] ∧ Q (.int i) H) ∨ ∃ k, xs = [.bl k] ∧ Q (.int (if k then 1 else 0)) H
def rF (K : PySem.W.Frag) : Fn → List V → Hp → VK → Prop
  | .len => fun xs H Q => rLenS xs H Q ∨ rLenQ K xs H Q
  | .tuple => rTupF K
  | .list => rListQ K
  | .sum => fun xs H Q => rSum K xs H Q ∨ rSumT K xs H Q
  | .sorted => rSortG K
  | .any => rAny K
  | .all => rAll K
  | .abs => rAbs
  | .min => fun xs H Q => rMin2 xs H Q ∨ rMin K xs H Q
  | .max => fun xs H Q => rMax2 xs H Q ∨ rMax K xs H Q
  | .int => rInt1
  | .isi _ => fun _ _ _ => False
def fnName : Fn → String
  | .len => "len" | .tuple => "tuple" | .list => "list" | .sum => "sum" | .sorted => "sorted" | .any => "any" | .all => "all" | .abs => "abs" | .min => "min" | .max => "max" | .int => "int" | .isi _ => "isinstance"
def fnVal : Fn → Value
  | .tuple => .type "tuple" | .list => .type "list" | .int => .type "int" | f => .builtin (fnName f)
theorem fn_R (hc : X.calm = true) (hu : X.A.units + 70 < cLine) : ∀ f : Fn, CallR X (fnVal f) (rF X.K f)
  | .len => CallR.or call_len_str call_len_seq
  | .tuple => call_tupF
  | .list => call_list_of
  | .sum => CallR.or (cr_sum hc) (cr_sumT hc)
  | .sorted => cr_sortG hu
  | .any => cr_any hc
  | .all => cr_all hc
  | .abs => call_abs
  | .min => CallR.or (call_min2 hc) (cr_min hc)
  | .max => CallR.or (call_max2 hc) (cr_max hc)
  | .int => call_int1
  | .isi _ => fun _ _ _ _ _ _ _ _ _ h => h.elim

theorem ad_F (f : Fn) (hf : ∀ ty, f ≠ .isi ty) {Q : VK} {as : List D} {vs : List V} (R : Rel K m lh H) (ra : RepVs K m lh.length H as vs) (h : (fnOp f as lh).All (Post K m lh H Q)) : rF K f vs H Q := by
  unfold fnOp at h
  cases f with
  | len =>
    cases ra with
    | nil => exact h.elim
    | cons r1 r2 =>
      rename_i d v ds ws
      cases r2 with
      | cons _ _ => cases d <;> exact h.elim
      | nil =>
        have seq : ∀ xs, seqOf lh d = some xs → (T.ret (D.int xs.length, lh)).All (Post K m lh H Q) → rF K .len [v] H Q := by
          intro xs e h
          obtain ⟨a, ws, rfl, e2, e3⟩ := R.sq e r1
          refine .inr ⟨a, ws, rfl, ?_, ?_⟩
          · rcases e3 with ⟨_, e3⟩ | ⟨k, _, _, _, e3⟩
            · exact .inr e3.sqT
            · exact .inl (SqL.of e3)
          · have := Post.ret R h (.int _)
            rw [e2.length] at this
            exact this
        cases d with
        | str s =>
          cases r1
          simp only at h
          split at h
          · rename_i hl
            rw [line_eq] at hl
            exact .inl ⟨s, rfl, hl, Post.ret R h (.int _)⟩
          · exact h.elim
        | _ =>
          simp only at h
          split at h
          · rename_i xs e
            exact seq xs e h
          · exact h.elim
  | tuple =>
    cases ra with
    | nil => exact h.elim
    | cons r1 r2 =>
      cases r2 with
      | cons _ _ => exact h.elim
      | nil =>
        simp only at h
        split at h
        · rename_i xs e
          obtain ⟨a, ws, rfl, e2, e3⟩ := R.sq e r1
          rcases e3 with ⟨rfl, e3⟩ | ⟨k, _, _, _, e3⟩
          · exact ⟨a, ws, rfl, .inr ⟨e3.sqT, Post.ret R h (.tup e3 e2)⟩⟩
          · exact ⟨a, ws, rfl, .inl ⟨SqL.of e3, Post.tup R h e2⟩⟩
        · exact h.elim
  | list =>
    cases ra with
    | nil => exact h.elim
    | cons r1 r2 =>
      cases r2 with
      | cons _ _ => exact h.elim
      | nil =>
        simp only at h
        split at h
        · rename_i xs e
          obtain ⟨a, ws, rfl, e2, e3⟩ := R.sq e r1
          refine ⟨a, ws, rfl, ?_, Post.new R h e2⟩
          rcases e3 with ⟨rfl, e3⟩ | ⟨k, _, _, _, e3⟩
          · exact .inr e3.sqT
          · exact .inl (SqL.of e3)
        · exact h.elim
  | sum =>
    cases ra with
    | nil => exact h.elim
    | cons r1 r2 =>
      cases r2 with
      | cons _ _ => exact h.elim
      | nil =>
        simp only at h
        split at h
        · rename_i xs e
          split at h
          · rename_i ns en
            obtain ⟨a, ws, rfl, e2, e3⟩ := R.sq e r1
            have ew := ints_some en e2
            subst ew
            rcases e3 with ⟨rfl, e3⟩ | ⟨k, _, _, _, e3⟩
            · exact .inr ⟨a, ns, rfl, e3.sqT, Post.ret R h (.int _)⟩
            · exact .inl ⟨a, ns, rfl, SqL.of e3, Post.ret R h (.int _)⟩
          · exact h.elim
        · exact h.elim
  | any =>
    cases ra with
    | nil => exact h.elim
    | cons r1 r2 =>
      cases r2 with
      | cons _ _ => cases r1 <;> exact h.elim
      | nil =>
        cases r1 with
        | @ref k hk =>
          simp only at h
          split at h
          · rename_i xs e
            split at h
            · rename_i ns en
              obtain ⟨ws, e1, e2⟩ := R.lst e
              have ew := bools_some en e2
              subst ew
              exact ⟨m k, ns, rfl, SqL.of e1, Post.ret R h (.bl _)⟩
            · exact h.elim
          · exact h.elim
        | _ => exact h.elim
  | all =>
    cases ra with
    | nil => exact h.elim
    | cons r1 r2 =>
      cases r2 with
      | cons _ _ => cases r1 <;> exact h.elim
      | nil =>
        cases r1 with
        | @ref k hk =>
          simp only at h
          split at h
          · rename_i xs e
            split at h
            · rename_i ns en
              obtain ⟨ws, e1, e2⟩ := R.lst e
              have ew := bools_some en e2
              subst ew
              exact ⟨m k, ns, rfl, SqL.of e1, Post.ret R h (.bl _)⟩
            · exact h.elim
          · exact h.elim
        | _ => exact h.elim
  | sorted =>
    cases ra with
    | nil => exact h.elim
    | cons r1 r2 =>
      cases r2 with
      | cons _ _ => cases r1 <;> exact h.elim
      | nil =>
        cases r1 with
        | @ref k hk =>
          simp only at h
          split at h
          · rename_i xs e
            split at h
            · rename_i ps ep
              split at h
              · rename_i hc
                exact ad_sorted R e ep hc h
              · exact h.elim
            · exact h.elim
          · exact h.elim
        | _ => exact h.elim
  | abs =>
    cases ra with
    | nil => exact h.elim
    | cons r1 r2 =>
      cases r2 with
      | cons _ _ => cases r1 <;> exact h.elim
      | nil =>
        cases r1 with
        | int i => exact ⟨i, rfl, Post.ret R h (.int _)⟩
        | _ => exact h.elim
  | min =>
    cases ra with
    | nil => exact h.elim
    | cons r1 r2 =>
      cases r2 with
      | cons r3 r4 =>
        cases r4 with
        | cons _ _ => cases r1 <;> cases r3 <;> exact h.elim
        | nil =>
          cases r1 <;> cases r3 <;> try exact h.elim
          exact .inl ⟨_, _, rfl, Post.ret R h (.int _)⟩
      | nil =>
        cases r1 with
        | @ref k hk =>
          simp only at h
          split at h
          · rename_i xs e
            split at h
            · rename_i p ns en
              obtain ⟨ws, e1, e2⟩ := R.lst e
              have ew := ints_some en e2
              subst ew
              refine .inr ⟨m k, p :: ns, rfl, SqL.of e1, by simp, fun z hz hle => ?_⟩
              obtain ⟨s1, s2⟩ := min_spec ns p
              have : z = minI p ns := Int.le_antisymm (hle _ s1) (s2 _ hz)
              rw [this]
              exact Post.ret R h (.int _)
            · exact h.elim
          · exact h.elim
        | _ => exact h.elim
  | max =>
    cases ra with
    | nil => exact h.elim
    | cons r1 r2 =>
      cases r2 with
      | cons r3 r4 =>
        cases r4 with
        | cons _ _ => cases r1 <;> cases r3 <;> exact h.elim
        | nil =>
          cases r1 <;> cases r3 <;> try exact h.elim
          exact .inl ⟨_, _, rfl, Post.ret R h (.int _)⟩
      | nil =>
        cases r1 with
        | @ref k hk =>
          simp only at h
          split at h
          · rename_i xs e
            split at h
            · rename_i p ns en
              obtain ⟨ws, e1, e2⟩ := R.lst e
              have ew := ints_some en e2
              subst ew
              refine .inr ⟨m k, p :: ns, rfl, SqL.of e1, by simp, fun z hz hle => ?_⟩
              obtain ⟨s1, s2⟩ := max_spec ns p
              have : z = maxI p ns := Int.le_antisymm (s2 _ hz) (hle _ s1)
              rw [this]
              exact Post.ret R h (.int _)
            · exact h.elim
          · exact h.elim
        | _ => exact h.elim
  | int =>
    cases ra with
    | nil => exact h.elim
    | cons r1 r2 =>
      cases r2 with
      | cons _ _ => cases r1 <;> exact h.elim
      | nil =>
        cases r1 with
        | int i => exact .inl ⟨i, rfl, Post.ret R h (.int _)⟩
        | bl b => exact .inr ⟨b, rfl, Post.ret R h (.int _)⟩
        | _ => exact h.elim
  | isi ty => exact (hf ty rfl).elim
end G

set_option maxHeartbeats 4000000
namespace G
open PySem L2
variable {K : PySem.W.Frag} {m m' m2 : Nat → Addr} {n n' : Nat} {H H' H2 : Hp} {lh lh' lh2 : LH} {X : Cx}

theorem refV {k : Nat} {v : V} (h : RepV K m n H (.ref k) v) : v = .ref (m k) ∧ k < n := by cases h with | ref hk => exact ⟨rfl, hk⟩

/-! ### isinstance -/
def tyName : Ty → String
  | .int => "int" | .bool => "bool" | .str => "str" | .tuple => "tuple" | .list => "list" | .dict => "dict"
theorem kit_non (ty : Ty) : kitB "NoneType" (tyName ty) = some false := by cases ty <;> decide +kernel
theorem kit_bool (ty : Ty) : kitB "bool" (tyName ty) = some (match ty with | .int => true | .bool => true | _ => false) := by cases ty <;> decide +kernel
theorem kit_int (ty : Ty) : kitB "int" (tyName ty) = some (match ty with | .int => true | _ => false) := by cases ty <;> decide +kernel
theorem kit_str (ty : Ty) : kitB "str" (tyName ty) = some (match ty with | .str => true | _ => false) := by cases ty <;> decide +kernel
theorem kit_tup (ty : Ty) : kitB "tuple" (tyName ty) = some (match ty with | .tuple => true | _ => false) := by cases ty <;> decide +kernel
theorem kit_lst (ty : Ty) : kitB "list" (tyName ty) = some (match ty with | .list => true | _ => false) := by cases ty <;> decide +kernel
theorem isTy_some (R : Rel K m lh H) {ty : Ty} {x : D} {vx : V} {b : Bool} {Q : VK} (h : isTy ty x lh = some b) (rx : RepV K m lh.length H x vx) (q : Q (.bl b) H) : rIsi K [vx, .ty (tyName ty)] H Q := by
  have fin : ∀ (t : String) (c : Bool), TyX K H vx (.type t) → kitB t (tyName ty) = some c → c = b → rIsi K [vx, .ty (tyName ty)] H Q := by
    intro t c h1 h2 e
    subst e
    exact ⟨vx, .ty (tyName ty), .type t, .type (tyName ty), c, rfl, .ty _, h1, kit_ty h2, q⟩
  cases rx with
  | non => exact fin _ _ (.base .non) (kit_non ty) (by cases h; rfl)
  | bl c => exact fin _ _ (.base (.bl c)) (kit_bool ty) (by cases h; rfl)
  | int i => exact fin _ _ (.base (.int i)) (kit_int ty) (by cases h; rfl)
  | str s => exact fin _ _ (.base (.str s)) (kit_str ty) (by cases h; rfl)
  | @tup a vs ds h1 h2 =>
    refine fin _ _ ?_ (kit_tup ty) (by cases h; rfl)
    rcases h1 with ⟨o, e, _⟩ | ⟨o, its, n, e, ec, _⟩
    · exact .fTuple e
    · exact .kTuple e ec
  | @ref k hk =>
    unfold isTy at h
    simp only at h
    split at h
    · rename_i xs e
      obtain ⟨vs, e1, e2⟩ := R.obj k _ e
      exact fin _ _ (.base (.lst e1)) (kit_lst ty) (by cases h; rfl)
    · rename_i kvs e
      exact (R.obj k _ e).elim
    · cases h
  | scr _ => cases h

/-! ### methods -/
def tyG (K : PySem.W.Frag) (T : String) (x : V) (H : Hp) : Prop :=
  (T = "list" ∧ ∃ a xs, x = .ref a ∧ SqL K H a xs) ∨ (T = "tuple" ∧ ∃ a xs, x = .ref a ∧ SqD K H a xs)
theorem tyG_is {pins : List (Addr × Obj)} {σ : L2.St} {s : Shared} {T : String} {x : V} {v : Value} (I : Inv X pins σ H s) (r : RelV x v) (ty : tyG X.K T x H) :
    s.TypeIs v T ∧ ∀ a, v = .ref a → ∃ ob, s.heap.get? a = some ob ∧ ob.dict = none := by
  rcases ty with ⟨rfl, a, xs, rfl, hq⟩ | ⟨rfl, a, xs, rfl, hq⟩
  · exact tyV_is I r (.inl ⟨rfl, xs, hq⟩)
  · cases r
    rcases hq with ⟨o, e, h1, h2⟩ | ⟨o, its, n, e, h1, h2, _⟩
    · obtain ⟨e', _⟩ := (show ObjOk X.prog X.w H s.heap a (.frz o (.tup xs)) from I.hok a _ e)
      exact ⟨⟨o, e', h1⟩, fun b q => by cases q; exact ⟨o, e', h2⟩⟩
    · have e' := I.kIn a o e
      exact ⟨⟨o, e', h1⟩, fun b q => by cases q; exact ⟨o, e', h2⟩⟩
def Ch (X : Cx) (name : Str) (x : V) (H : Hp) (r : V → List V → Hp → VK → Prop) : Prop :=
  ∃ T id, PlainAttrs T ∧ Slot T name id ∧ typeOf (.builtin id) = pure (.type "method_descriptor") ∧ MtR X id r ∧ tyG X.K T x H
def tMG (X : Cx) (name : Str) (to : TE) (t : TA) : TE := fun σ H Q => to σ H fun x H1 => ∃ r, Ch X name x H1 r ∧ t σ H1 fun xs H2 => r x xs H2 Q
theorem pe_bmG {o e : PySem.Expr} {es : List PySem.Expr} {to : TE} {t : TA} {name : Str} {apos cpos : Pos} (ho : PE X o to) (ha : PA X (e :: es) t)
    (hbase : attributeBase o name X.env (eval o X.env) = eval o X.env)
    (hfew : ((backTo cpos (starEach (e :: es) X.env)).all (fun x => !x.1) && (backToKw cpos (keywordEach [] X.env)).all (fun x => x.1.isSome)
      && decide ((e :: es).length + ([] : List Keyword).length + (if ([] : List Keyword).isEmpty then 0 else 1) < 30)) = true)
    (hline : (apos.endLine == cpos.line) = true) (hs : starEach (e :: es) X.env = (false, eval e X.env) :: starEach es X.env) (hplain : (backTo cpos (starEach es X.env)).any (·.1) = false) :
    PE X (.Call (.Attribute o name apos) (e :: es) [] cpos) (tMG X name to t) := by
  refine ⟨fun pins s σ H Q I h => ?_⟩
  refine wpAny_Call_method_late hbase hfew hline rfl (thn (ho.run pins s σ H _ I h) fun v s1 hr => ?_)
  obtain ⟨x, H1, I1, r1, r, ⟨T, id, pa, slot, hty, hm, ty⟩, q1⟩ := hr
  obtain ⟨g1, g2⟩ := tyG_is I1 r1 ty
  refine ⟨T, id, pa, slot, hty, g1, g2, ?_⟩
  have hA := ha.run cpos pins s1 σ H1 _ I1 q1
  rw [hs] at hA ⊢
  refine Calls.callWith_builtin (by show (false || (backTo cpos (starEach es X.env)).any (·.1)) = false; rw [hplain] <;> rfl) (Calls.evalArgs_plain (thn hA fun us s2 hr2 => ?_))
  obtain ⟨vs, H2, I2, r2, q2⟩ := hr2
  exact hm pins s2 σ H2 x vs v us Q I2 r1 r2 q2
def tMG0 (X : Cx) (name : Str) (to : TE) : TE := fun σ H Q => to σ H fun x H1 => ∃ r, Ch X name x H1 r ∧ r x [] H1 Q
theorem pe_bmG0 {o : PySem.Expr} {to : TE} {name : Str} {apos cpos : Pos} (ho : PE X o to) (hbase : attributeBase o name X.env (eval o X.env) = eval o X.env) (hline : (apos.endLine == cpos.line) = true) :
    PE X (.Call (.Attribute o name apos) [] [] cpos) (tMG0 X name to) := by
  refine ⟨fun pins s σ H Q I h => ?_⟩
  refine wpAny_Call_method0_late hbase hline (thn (ho.run pins s σ H _ I h) fun v s1 hr => ?_)
  obtain ⟨x, H1, I1, r1, r, ⟨T, id, pa, slot, hty, hm, ty⟩, q1⟩ := hr
  obtain ⟨g1, g2⟩ := tyG_is I1 r1 ty
  exact ⟨T, id, pa, slot, hty, g1, g2, Calls.callWith_builtin rfl (PySem.evalArgs_none (hm pins s1 σ H1 x [] v [] Q I1 r1 .nil q1))⟩

def rCntD (K : PySem.W.Frag) (tup : Bool) : V → List V → Hp → VK → Prop := fun x xs H Q => ∃ (a : Addr) (y : V) (d : PyData) (ds : List PyData), x = .ref a ∧ xs = [y] ∧ Dp K H (.ref a) (if tup then .tuple ds else .list ds) ∧ Dp K H y d ∧
  PyData.canLayAll0 ds = true ∧ d.canLay0 = true ∧ d.depth ≤ 64 ∧ Q (.int (ds.countP fun y => PyData.eqv y d : Nat)) H
theorem plainAll_of : ∀ ds : List PyData, PyData.canLayAll0 ds = true → PyData.plainAll ds = true
  | [], _ => rfl
  | d :: ds, h => by
    simp only [PyData.canLayAll0, Bool.and_eq_true] at h
    simp only [PyData.plainAll, Bool.and_eq_true]
    exact ⟨PyData.plain_of_canLay0 d h.1, plainAll_of ds h.2⟩
theorem mt_cntL (hu : X.A.units + 70 < cLine) : MtR X "list.count" (rCntD X.K false) := by
  intro pins s σ H x xs v us Q I rx rxs h
  obtain ⟨a, y, d, ds, rfl, rfl, hl, hy, c1, c2, c3, q⟩ := h
  cases rx
  obtain ⟨u, rfl, ru⟩ := Vals.one rxs
  obtain ⟨bs, e2⟩ := Dp.reads I d y u hy ru
  have hl' : Dp X.K H (.ref a) (.list ds) := hl
  cases hl' with
  | lst hs ha =>
    obtain ⟨its, rv, pl, hz⟩ := I.list hs
    obtain ⟨as, e1⟩ := Dp.readsAll I ds _ its ha rv
    exact PySem.SeqAt.count_list_data pl.isList e1 e2 (plainAll_of ds c1) (PyData.plain_of_canLay0 d c2) (by omega) ⟨.int _, H, I.tok _, ⟨_, rfl⟩, q⟩
theorem mt_cntT (hu : X.A.units + 70 < cLine) : MtR X "tuple.count" (rCntD X.K true) := by
  intro pins s σ H x xs v us Q I rx rxs h
  obtain ⟨a, y, d, ds, rfl, rfl, hl, hy, c1, c2, c3, q⟩ := h
  cases rx
  obtain ⟨u, rfl, ru⟩ := Vals.one rxs
  obtain ⟨bs, e2⟩ := Dp.reads I d y u hy ru
  have hl' : Dp X.K H (.ref a) (.tuple ds) := hl
  cases hl' with
  | tup hs ha =>
    obtain ⟨its, rv, pl, hz⟩ := I.tuple hs
    obtain ⟨as, e1⟩ := Dp.readsAll I ds _ its ha rv
    exact PySem.SeqAt.count_tuple_data pl e1 e2 (plainAll_of ds c1) (PyData.plain_of_canLay0 d c2) (by omega) ⟨.int _, H, I.tok _, ⟨_, rfl⟩, q⟩

def rInsert : V → List V → Hp → VK → Prop := fun x vs H Q => ∃ (l : Addr) (xs : List V) (i : Int) (y : V), x = .ref l ∧ vs = [.int i, y] ∧ H l = some (.lst xs) ∧ xs.length < sizeLine ∧ 0 ≤ i ∧ i < 2 ^ 63 ∧
    Q .non (upd H l (.lst (xs.take i.toNat ++ [y] ++ xs.drop i.toNat)))

def mtName : Mt → Str
  | .append => "append" | .extend => "extend" | .insert => "insert" | .count => "count" | .index => "index" | .pop0 => "pop" | .get1 => "get" | .get2 => "get"
theorem Post.put {Q : VK} {k : Nat} {xs ys : List D} {ws : List V} {d : D} {v : V} (R : Rel K m lh H) (h : (T.ret (d, lh.set k (.lst ys))).All (Post K m lh H Q)) (hk : lget lh k = some xs) (r : RepVs K m lh.length H ys ws) (rv : RepV K m lh.length H d v) :
    Q v (upd H (m k) (.lst ws)) := by
  obtain ⟨R2, S2⟩ := R.put hk r
  exact (show Post K m lh H Q (d, lh.set k (.lst ys)) from h) m _ _ S2 R2 (S2.repV R rv)

/-- the method's rule by the receiver -/
theorem mt_ch (hu : X.A.units + 70 < cLine) {mt : Mt} {o : D} {x : V} (hm : mtOk mt o = true) {lh1 : LH} {m1 : Nat → Addr} {H1 : Hp} (R1 : Rel X.K m1 lh1 H1) (rx : RepV X.K m1 lh1.length H1 o x) :
    ∃ r, Ch X (mtName mt) x H1 r ∧ ∀ (m : Nat → Addr) (lh : LH) (H : Hp) (as : List D) (vs : List V) (Q : VK), Rel X.K m lh H → RepV X.K m lh.length H o x → RepVs X.K m lh.length H as vs → (mtOp mt o as lh).All (Post X.K m lh H Q) → r x vs H Q := by
  cases rx with
  | @ref k hk =>
    obtain ⟨ws, e1⟩ := R1.some_ hk
    have tyL : tyG X.K "list" (.ref (m1 k)) H1 := .inl ⟨rfl, _, ws, rfl, SqL.of e1⟩
    cases mt with
    | append =>
      refine ⟨_, ⟨_, _, PySem.F.plainAttrs_list, PySem.F.slot_list_append, PySem.F.type_list_append, mt_append, tyL⟩, fun m lh H as vs Q R rx ra h => ?_⟩
      rw [(refV rx).1]
      unfold mtOp at h
      cases ra with
      | nil => exact h.elim
      | cons r1 r2 =>
        cases r2 with
        | cons _ _ => exact h.elim
        | nil =>
          simp only at h
          split at h
          · rename_i xs e
            split at h
            · rename_i hl
              obtain ⟨us, a1, a2⟩ := R.lst e
              rw [line_eq, a2.length] at hl
              exact ⟨m k, us, _, rfl, rfl, a1, hl, Post.put R h e (a2.snoc r1) .non⟩
            · exact h.elim
          · exact h.elim
    | extend =>
      refine ⟨_, ⟨_, _, PySem.F.plainAttrs_list, PySem.F.slot_list_extend, PySem.F.type_list_extend, mt_extend, tyL⟩, fun m lh H as vs Q R rx ra h => ?_⟩
      rw [(refV rx).1]
      unfold mtOp at h
      cases ra with
      | nil => exact h.elim
      | cons r1 r2 =>
        cases r2 with
        | cons _ _ => cases r1 <;> exact h.elim
        | nil =>
          cases r1 with
          | @ref l hl =>
            simp only at h
            split at h
            · rename_i xs ys e e'
              split at h
              · rename_i hz
                obtain ⟨us, a1, a2⟩ := R.lst e
                obtain ⟨zs, b1, b2⟩ := R.lst e'
                rw [line_eq, a2.length, b2.length] at hz
                exact ⟨m k, m l, us, zs, rfl, rfl, a1, b1, hz, Post.put R h e (a2.append b2) .non⟩
              · exact h.elim
            · exact h.elim
          | _ => exact h.elim
    | insert =>
      refine ⟨rInsert, ⟨_, _, PySem.F.plainAttrs_list, PySem.F.slot_list_insert, PySem.F.type_list_insert, mt_insert, tyL⟩, fun m lh H as vs Q R rx ra h => ?_⟩
      rw [(refV rx).1]
      unfold mtOp at h
      cases ra with
      | nil => exact h.elim
      | cons r1 r2 =>
        cases r2 with
        | nil => cases r1 <;> exact h.elim
        | cons r3 r4 =>
          cases r4 with
          | cons _ _ => cases r1 <;> exact h.elim
          | nil =>
            cases r1 with
            | int i =>
              simp only at h
              split at h
              · rename_i xs e
                split at h
                · rename_i hc
                  obtain ⟨hc, h3⟩ := Bool.and_eq_true_iff.mp hc
                  obtain ⟨h1, h2⟩ := Bool.and_eq_true_iff.mp hc
                  obtain ⟨us, a1, a2⟩ := R.lst e
                  have h3 := of_decide_eq_true h3
                  rw [line_eq, a2.length] at h3
                  exact ⟨m k, us, i, _, rfl, rfl, a1, h3, of_decide_eq_true h1, of_decide_eq_true h2, Post.put R h e (((a2.take _).snoc r3).append (a2.drop _)) .non⟩
                · exact h.elim
              · exact h.elim
            | _ => exact h.elim
    | count =>
      refine ⟨_, ⟨_, _, PySem.F.plainAttrs_list, PySem.F.slot_list_count, PySem.F.type_list_count, mt_cntL hu, tyL⟩, fun m lh H as vs Q R rx ra h => ?_⟩
      have ek := (refV rx).1
      unfold mtOp at h
      cases ra with
      | nil => exact h.elim
      | cons r1 r2 =>
        cases r2 with
        | cons _ _ => exact h.elim
        | nil =>
          simp only at h
          split at h
          · rename_i ds d e e'
            obtain ⟨a1, a2, a3⟩ := snap_dp R 60 _ _ _ e rx
            obtain ⟨b1, b2, b3⟩ := snap_dp R 60 _ _ _ e' r1
            exact ⟨m1 k, _, d, ds, rfl, rfl, a1, b1, by simpa [PyData.canLay0] using a3, b3, by omega, Post.ret R h (.int _)⟩
          · rename_i ds d e e'
            unfold snap at e
            simp only at e
            split at e
            · split at e <;> cases e
            · cases e
          · exact h.elim
    | index =>
      refine ⟨_, ⟨_, _, PySem.F.plainAttrs_list, PySem.F.slot_list_index, PySem.F.type_list_index, mt_indexD (by omega), tyL⟩, fun m lh H as vs Q R rx ra h => ?_⟩
      unfold mtOp at h
      cases ra with
      | nil => exact h.elim
      | cons r1 r2 =>
        cases r2 with
        | cons _ _ => exact h.elim
        | nil =>
          simp only at h
          split at h
          · rename_i ds d e e'
            split at h
            · rename_i j ej
              obtain ⟨a1, a2⟩ := snap_shaped R e rx (by omega)
              obtain ⟨b1, b2⟩ := snap_shaped R e' r1 (by omega)
              obtain ⟨g1, g2, g3⟩ := List.findIdx?_eq_some_iff_getElem.mp ej
              refine ⟨m1 k, _, d, ds, j, ds[j], rfl, rfl, a1, b1, a2, b2, List.getElem?_eq_getElem g1, g2, fun i z hi hz => ?_, Post.ret R h (.int _)⟩
              have hlt : i < ds.length := Nat.lt_trans hi g1
              rw [List.getElem?_eq_getElem hlt] at hz
              cases hz
              have := g3 i hi
              simpa using this
            · exact h.elim
          · exact h.elim
    | pop0 =>
      refine ⟨_, ⟨_, _, PySem.F.plainAttrs_list, PySem.F.slot_list_pop, PySem.F.type_list_pop, mt_pop, tyL⟩, fun m lh H as vs Q R rx ra h => ?_⟩
      rw [(refV rx).1]
      unfold mtOp at h
      cases ra with
      | cons _ _ => exact h.elim
      | nil =>
        simp only at h
        split at h
        · rename_i xs e
          split at h
          · rename_i y ey
            obtain ⟨us, a1, a2⟩ := R.lst e
            obtain ⟨w, g1, g2⟩ := a2.get ey
            rw [a2.length] at g1
            have ed : RepVs X.K m lh.length H xs.dropLast us.dropLast := by
              rw [List.dropLast_eq_take, List.dropLast_eq_take, a2.length]
              exact a2.take _
            exact ⟨m k, us, w, rfl, rfl, a1, g1, Post.put R h e ed g2⟩
          · exact h.elim
        · exact h.elim
    | get1 => exact absurd hm (by simp [mtOk])
    | get2 => exact absurd hm (by simp [mtOk])
  | @tup a vs ds h1 h2 =>
    cases mt with
    | count =>
      refine ⟨_, ⟨_, _, PySem.F.plainAttrs_tuple, PySem.F.slot_tuple_count, PySem.F.type_tuple_count, mt_cntT hu, .inr ⟨rfl, a, vs, rfl, h1⟩⟩, fun m lh H as vs Q R rx ra h => ?_⟩
      unfold mtOp at h
      cases ra with
      | nil => exact h.elim
      | cons r1 r2 =>
        cases r2 with
        | cons _ _ => exact h.elim
        | nil =>
          simp only at h
          split at h
          · rename_i es d e e'
            unfold snap at e
            simp only at e
            split at e <;> cases e
          · rename_i es d e e'
            obtain ⟨a1, a2, a3⟩ := snap_dp R 60 _ _ _ e rx
            obtain ⟨b1, b2, b3⟩ := snap_dp R 60 _ _ _ e' r1
            exact ⟨a, _, d, es, rfl, rfl, a1, b1, by simpa [PyData.canLay0] using a3, b3, by omega, Post.ret R h (.int _)⟩
          · exact h.elim
    | _ => exact absurd hm (by simp [mtOk])
  | _ => cases mt <;> exact absurd hm (by simp [mtOk])

/-! ### subscripts -/
theorem atI_rep {xs : List D} {ws : List V} {j : Int} {d : D} (r : RepVs K m n H xs ws) (h : L2.atI xs j = some d) : ∃ v, L2.atI ws j = some v ∧ RepV K m n H d v := by
  unfold L2.atI at h ⊢
  rw [r.length] at h
  cases e : L2.ixN ws.length j with
  | none => rw [e] at h; cases h
  | some i =>
    rw [e] at h
    obtain ⟨v, h1, h2⟩ := r.get (show xs[i]? = some d from h)
    exact ⟨v, h1, h2⟩
theorem ad_ix {Q : VK} {x i : D} {vx vi : V} (R : Rel K m lh H) (rx : RepV K m lh.length H x vx) (ri : RepV K m lh.length H i vi) (h : (idxOp x i lh).All (Post K m lh H Q)) : rIx K vx vi H Q := by
  unfold idxOp at h
  cases ri with
  | int j =>
    have seq : ∀ xs, seqOf lh x = some xs → (match L2.atI xs j with
        | some d => T.ret (d, lh)
        | none => T.bad).All (Post K m lh H Q) → rIx K vx (.int j) H Q := by
      intro xs e h
      obtain ⟨a, ws, rfl, e2, e3⟩ := R.sq e rx
      split at h
      · rename_i d ed
        obtain ⟨v, g1, g2⟩ := atI_rep e2 ed
        rcases e3 with ⟨_, e3⟩ | ⟨k, _, _, _, e3⟩
        · exact .inr (.inl ⟨a, ws, j, v, rfl, rfl, e3.sqT, g1, Post.ret R h g2⟩)
        · exact .inl ⟨a, ws, j, v, rfl, rfl, SqL.of e3, g1, Post.ret R h g2⟩
      · exact h.elim
    cases x with
    | str s =>
      cases rx
      simp only at h
      split at h
      · rename_i hl
        rw [line_eq] at hl
        split at h
        · rename_i c ec
          exact .inr (.inr ⟨s, j, c, rfl, rfl, hl, ec, Post.ret R h (.str _)⟩)
        · exact h.elim
      · exact h.elim
    | _ =>
      simp only at h
      split at h
      · rename_i xs e
        exact seq xs e h
      · exact h.elim
  | _ => exact h.elim

theorem cutD_rep {xs : List D} {ws : List V} (r : RepVs K m n H xs ws) (lo hi : Option Int) : RepVs K m n H (cutD xs lo hi) (cutV ws lo hi) := by
  unfold cutD cutV
  rw [r.length]
  exact (r.drop _).take _
def rSlG (K : PySem.W.Frag) : V → Option Int → Option Int → Hp → VK → Prop := fun x lo hi H Q => rSlF K x lo hi H Q ∨ rSlL K x lo hi H Q ∨ rSlS x lo hi H Q
theorem sl_G : SlR X (rSlG X.K) := SlR.or sl_tupF (SlR.or sl_list sl_str)
theorem cutD_whole {xs : List D} {lo hi : Option Int} (h : HT.sIx xs.length 0 lo = 0 ∧ HT.sIx xs.length xs.length hi = xs.length) : cutD xs lo hi = xs := by
  unfold cutD
  rw [h.1, h.2, List.drop_zero, Nat.sub_zero, List.take_length]
theorem ad_sl {Q : VK} {x : D} {vx : V} {lo hi : Option Int} (R : Rel K m lh H) (rx : RepV K m lh.length H x vx) (h : (slcOp x lo hi lh).All (Post K m lh H Q)) : rSlG K vx lo hi H Q := by
  unfold slcOp at h
  cases rx with
  | @tup a vs ds h1 h2 =>
    refine .inl ⟨a, vs, rfl, h1.sqT, fun hw => ?_, fun _ => Post.tup R h (cutD_rep h2 lo hi)⟩
    rw [← h2.length] at hw
    have h' : (T.ret (D.tup (cutD ds lo hi), lh)).All (Post K m lh H Q) := h
    rw [cutD_whole hw] at h'
    exact Post.ret R h' (.tup h1 h2)
  | str z =>
    simp only at h
    split at h
    · rename_i hl
      rw [line_eq] at hl
      exact .inr (.inr ⟨z, rfl, hl, Post.ret R h (.str _)⟩)
    · exact h.elim
  | @ref k hk =>
    simp only at h
    split at h
    · rename_i xs e
      obtain ⟨vs, e1, e2⟩ := R.lst e
      exact .inr (.inl ⟨m k, vs, rfl, SqL.of e1, Post.new R h (cutD_rep e2 lo hi)⟩)
    · exact h.elim
  | _ => exact h.elim
theorem ad_rev {Q : VK} {x : D} {vx : V} (R : Rel K m lh H) (rx : RepV K m lh.length H x vx) (h : (revOp x lh).All (Post K m lh H Q)) : ∃ a xs, vx = .ref a ∧ SqL K H a xs ∧ ∀ p, H p = none → Q (.ref p) (upd H p (.lst xs.reverse)) := by
  unfold revOp at h
  cases rx with
  | @ref k hk =>
    simp only at h
    split at h
    · rename_i xs e
      obtain ⟨vs, e1, e2⟩ := R.lst e
      exact ⟨m k, vs, rfl, SqL.of e1, Post.new R h e2.reverse⟩
    · exact h.elim
  | _ => exact h.elim

/-! ### x op= y -/
def rA (K : PySem.W.Frag) : Bop → R2
  | .add => fun x y H Q => rI0 (fun i j => .int (i + j)) x y H Q ∨ (∃ i j, x = .str i ∧ y = .str j ∧ i.length + j.length ≤ sizeLine ∧ Q (.str (i ++ j)) H) ∨ rCatF K x y H Q ∨ rExt2 x y H Q
  | .sub => rI0 fun i j => .int (i - j)
  | .mul => rI CMul fun i j => .int (i * j)
  | .fdiv => rI CDiv fun i j => .int (i / j)
  | .mod => rI (fun _ j => 0 < j) fun i j => .int (i % j)
  | .pow => fun _ _ _ _ => False
theorem op_A : ∀ op : Bop, OpR X (inplaceOp (bopOf op)) (rA X.K op)
  | .add => OpR.or iop_add (OpR.or iop_add_str (OpR.or iop_catF iop_ext))
  | .sub => iop_sub
  | .mul => iop_mul
  | .fdiv => iop_fdiv
  | .mod => iop_mod
  | .pow => fun _ _ _ _ _ _ _ _ _ _ _ _ h => h.elim
theorem ad_A (op : Bop) : Ad2 K (opA op) (rA K op) := by
  intro m lh H x y vx vy Q R rx ry h
  unfold opA at h
  cases op with
  | add =>
    cases rx with
    | int i =>
      cases ry with
      | int j => exact .inl ⟨i, j, rfl, rfl, Post.ret R h (.int _)⟩
      | _ => exact h.elim
    | str i =>
      cases ry with
      | str j =>
        simp only at h
        split at h
        · rename_i hl
          exact .inr (.inl ⟨i, j, rfl, rfl, by rw [line_eq] at hl; exact hl, Post.ret R h (.str _)⟩)
        · exact h.elim
      | _ => exact h.elim
    | @tup a vs ds h1 h2 =>
      cases ry with
      | @tup b ws es k1 k2 =>
        simp only at h
        split at h
        · rename_i hl
          rw [line_eq, h2.length, k2.length] at hl
          refine .inr (.inr (.inl ⟨a, b, vs, ws, rfl, rfl, h1.sqT, k1.sqT, hl, fun e => ?_, fun e1 e2 => ?_, fun e1 e2 => ?_⟩))
          · subst e
            cases h2
            exact Post.ret R h (.tup k1 k2)
          · subst e2
            cases k2
            rw [List.append_nil] at h
            exact Post.ret R h (.tup h1 h2)
          · exact Post.tup R h (h2.append k2)
        · exact h.elim
      | _ => exact h.elim
    | @ref k hk =>
      cases ry with
      | @ref l hl =>
        simp only at h
        split at h
        · rename_i xs ys e1 e2
          split at h
          · rename_i hz
            obtain ⟨vs, a1, a2⟩ := R.lst e1
            obtain ⟨ws, b1, b2⟩ := R.lst e2
            rw [line_eq, a2.length, b2.length] at hz
            exact .inr (.inr (.inr ⟨m k, m l, vs, ws, rfl, rfl, a1, b1, hz, Post.put R h e1 (a2.append b2) (.ref hk)⟩))
          · exact h.elim
        · exact h.elim
      | _ => exact h.elim
    | non => cases ry <;> exact h.elim
    | bl b => cases ry <;> exact h.elim
    | scr _ => cases ry <;> exact h.elim
  | sub =>
    cases rx <;> cases ry <;> try exact h.elim
    exact ⟨_, _, rfl, rfl, Post.ret R h (.int _)⟩
  | mul =>
    cases rx <;> cases ry <;> try exact h.elim
    simp only at h
    split at h
    · rename_i hc
      exact ⟨_, _, rfl, rfl, cmul_of hc, Post.ret R h (.int _)⟩
    · exact h.elim
  | fdiv =>
    cases rx <;> cases ry <;> try exact h.elim
    simp only at h
    split at h
    · rename_i hc
      obtain ⟨h1, h2⟩ := Bool.and_eq_true_iff.mp hc
      exact ⟨_, _, rfl, rfl, ⟨of_decide_eq_true h1, of_decide_eq_true h2⟩, Post.ret R h (.int _)⟩
    · exact h.elim
  | mod =>
    cases rx <;> cases ry <;> try exact h.elim
    simp only at h
    split at h
    · rename_i hc
      exact ⟨_, _, rfl, rfl, of_decide_eq_true hc, Post.ret R h (.int _)⟩
    · exact h.elim
  | pow => exact h.elim
end G

set_option maxHeartbeats 4000000
namespace G
open PySem L2

/-! ### enumerate(tuple) -/
theorem enum_newT (t : Addr) (its : Array Value) (n : Nat) (dd : Option Addr) (sl : Array (Option Value)) :
    Meets (Builtin.«enumerate.__new__» ⟨[.type "enumerate", .ref t], []⟩) (fun _ R s => s.heap.get? t = some { cls := .type "tuple", dict := dd, data := .seq its n, slots := sl } ∧
      R (.ok (.ret (.ref (s.heap.push { cls := .type "tuple_iterator", data := .fields #[.ref t, .int 0 0] }).objs.size)))
        { s with heap := (s.heap.push { cls := .type "tuple_iterator", data := .fields #[.ref t, .int 0 0] }).push { cls := .type "enumerate", data := .fields #[.none, .bool false, .ref s.heap.objs.size, rawInt 0, .none, .none] } }) :=
  .of_wp fun prog w A R s h => by
    obtain ⟨hp, g, d, tk, os⟩ := s
    obtain ⟨hl, h⟩ := h
    have hT : hp.IsTuple t its := ⟨_, hl, rfl, _, rfl⟩
    have hsub := sub_enumerate
    wp_walk using AutoSeq1.wpAny_loadPart' hl
    refine wpAny_stack_any fun st => wpAny_pure ?_
    split
    · rename_i c _ _ _ _ _
      cases (c == Value.type "enumerate")
      · wp_walk using AutoSeq1.wpAny_loadPart' hl, wpAny_pyIter_tuple hT
        exact ⟨_, rfl, h⟩
      · wp_walk using AutoSeq1.wpAny_loadPart' hl, wpAny_pyIter_tuple hT
        exact ⟨_, rfl, h⟩
    · wp_walk using AutoSeq1.wpAny_loadPart' hl, wpAny_pyIter_tuple hT
      exact ⟨_, rfl, h⟩

section
variable {prog : Program} {w : World} {A : Around} {E : Value → Shared → Prop} {s : Shared}
theorem call_enumT {t : Addr} {its : Array Value} {Q : Value → Shared → Prop} (hL : s.heap.IsTuple t its)
    (h : ∀ h', IsEnum h' (s.heap.objs.size + 1) s.heap.objs.size 0 .none → h'.IsTupleIter s.heap.objs.size t 0 → h'.IsTuple t its →
      (∀ b o, s.heap.get? b = some o → h'.get? b = some o) → Q (.ref (s.heap.objs.size + 1)) { s with heap := h' }) :
    wpAny (model prog w) A (call (.type "enumerate") [.ref t]) Q E s := by
  obtain ⟨⟨c, dct, dt, sl⟩, hl, hc, n, hd⟩ := id hL
  simp only at hc hd
  subst hc hd
  refine callType_new F.called_enumerate (by decide) (F.typeCall_enumerate_1 _) (F.newCall_enumerate_1 _) (fun obj => F.args_object_init_2 obj _) F.entry_enumerate_new
    (enum_newT t its n dct sl) ⟨hl, ?_⟩
  have hz : (s.heap.push { cls := .type "tuple_iterator", data := .fields #[.ref t, .int 0 0] }).objs.size = s.heap.objs.size + 1 := Heap.size_push ..
  show _ ∧ _
  rw [hz]
  have he : IsEnum ((s.heap.push { cls := .type "tuple_iterator", data := .fields #[.ref t, .int 0 0] }).push
      { cls := .type "enumerate", data := .fields #[.none, .bool false, .ref s.heap.objs.size, rawInt 0, .none, .none] }) (s.heap.objs.size + 1) s.heap.objs.size 0 .none := by
    have q := Heap.get?_push_size (s.heap.push { cls := .type "tuple_iterator", data := .fields #[.ref t, .int 0 0] })
      (o := { cls := .type "enumerate", data := .fields #[.none, .bool false, .ref s.heap.objs.size, rawInt 0, .none, .none] }) rfl
    rw [hz] at q; exact q
  refine ⟨⟨_, he, rfl⟩, h _ he ⟨_, Heap.get?_push_of_some _ (Heap.get?_push_size _ rfl), rfl, rfl⟩ ((hL.push _).push _) fun b o x => Heap.get?_push_of_some _ (Heap.get?_push_of_some _ x)⟩
end

section
variable {prog : Program} {w : World} {A : Around} {E : Value → Shared → Prop} {s : Shared}
theorem enum_endT {e it t : Addr} {i : Nat} {its : Array Value} {old : Value} {Q : Option Value → Shared → Prop} (hh : A.handled = none) (he : IsEnum s.heap e it i old) (hit : s.heap.IsTupleIter it t i) (ht : s.heap.IsTuple t its) (hx : its[i]? = none)
    (hQ : ∀ h', Heap.ExtBut it s.heap h' → Q none { s with heap := h' }) : wpAny (model prog w) A (pyNext (.ref e)) Q E s := by
  have D : Draws prog w A.in1 it [it, t] i (fun _ _ => False) (fun j h => j = i ∧ h.IsTupleIter it t i ∧ h.IsTuple t its) := {
    live := fun j h st => by obtain ⟨o, ho, _⟩ := st.2.1; exact ⟨o, ho⟩
    frame := fun j h h' st hk => ⟨st.1, st.2.1.at fun o e => hk it (by simp) o e, st.2.2.at fun o e => hk t (by simp) o e⟩
    item := fun j s' Q E hj st => absurd st.1 (Nat.ne_of_lt hj)
    done := fun s' Q E st hE => wpAny_nextOf_tuple_end hh st.2.1 st.2.2 hx hE }
  exact wpAny_pyNext_enum_endD D he ⟨rfl, hit, ht⟩ hQ
end

def IteT (K : PySem.W.Frag) (a : Addr) : L2.It :=
  ⟨fun i H => ∃ (xs : List V) (x : V), SqT K H a xs ∧ xs[i]? = some x, fun i H v H' => ∃ T x, v = .ref T ∧ H T = none ∧ H' = upd H T (.tup [.int (i : Nat), x]) ∧ ∀ xs, SqT K H a xs → xs[i]? = some x, fun i H => ∃ xs : List V, SqT K H a xs ∧ xs.length ≤ i⟩
theorem turn_enumT {P : Program} {w : World} {K : PySem.W.Frag} {elts : List PySem.Expr} {kk : Nat} {tpos : Pos} (a e it : Addr) (items : Array Value) (hai : a ≠ it) (hae : a ≠ e) :
    Turn P w K (.Tuple elts kk tpos) (IteT K a) [e, it] e (fun i h => (∃ old, IsEnum h e it ((i : Nat) : Int) old) ∧ h.IsTupleIter it a i ∧ e ≠ it) where
  mem := by simp
  obj := fun i h st b hb => by
    obtain ⟨⟨old, he⟩, ⟨o, ho, hc, hd⟩, _⟩ := st
    rcases (by simpa using hb : b = e ∨ b = it) with z | z
    · subst z; exact ⟨_, he, fun v q => nomatch q⟩
    · subst z; exact ⟨o, ho, fun v q => by rw [hd] at q; cases q⟩
  keep := fun i h h' st k => let ⟨⟨old, he⟩, hi, hne⟩ := st; ⟨⟨old, k e (by simp) _ he⟩, hi.at fun o q => k it (by simp) o q, hne⟩
  item := by
    intro X hP hw hK hc i pins s σ H E I hf st hg
    subst hP hw hK
    obtain ⟨⟨old, he⟩, hit, hne⟩ := st
    obtain ⟨xs, x, hq, hx⟩ := hg
    obtain ⟨us, rv, p, hz⟩ := I.tuple hq
    obtain ⟨u, hu, ru⟩ := rv.get hx
    have hel : e < s.heap.objs.size := Heap.lt_size he
    have hil : it < s.heap.objs.size := by obtain ⟨_, q, _⟩ := hit; exact Heap.lt_size q
    have hi : i < us.toArray.size := by
      obtain ⟨hh, _⟩ := List.getElem?_eq_some_iff.mp hu
      simpa using hh
    have hef : e ∉ [it, a] := by simp only [List.mem_cons, List.not_mem_nil, or_false, not_or]; exact ⟨hne, fun z => hae z.symm⟩
    refine wpAny_pyNext_enum_itemD (Draws.tuple (prog := X.prog) (w := X.w) (A := X.A.in1) (I.ok.hd hc) it a hai us.toArray) he ⟨hit, p⟩ hi hne hef fun y h' tk hy ho st' hT hsz hk => ?_
    have ey : y = u := by
      have q : us[i]? = some y := by simpa using hy
      rw [hu] at q
      exact (Option.some.inj q).symm
    subst ey
    refine ⟨_, rfl, wpAny_letOwnedTupleGo_enum (s := { s with heap := h', toks := tk + 1 }) ho fun h'' he' sb => ?_⟩
    have hT2 : h''.get? s.heap.objs.size = some { cls := .type "tuple", data := .seq #[.int i tk, y] } := (sb.2 _ (Nat.ne_of_gt hel)).trans hT
    have made : ObjOk X.prog X.w (upd H s.heap.objs.size (.tup [.int (i : Nat), x])) h'' s.heap.objs.size (.tup [.int (i : Nat), x]) :=
      ⟨by show 2 ≤ sizeLine; decide, [.int i tk, y], .cons ⟨_, rfl⟩ (.cons ru .nil), ⟨_, hT2, rfl, _, rfl⟩⟩
    have I1 : Inv X pins σ (upd H s.heap.objs.size (.tup [.int (i : Nat), x])) { s with heap := h'', toks := tk + 1 } :=
      I.turnedNew (t' := tk + 1) (ch := [e, it]) (fun b ob hb q => (sb.2 b (fun z => hb (by simp [z]))).trans (hk b ob (fun z => hb (by simp [z])) (fun z => hb (by simp [z])) q)) hf (Nat.le_refl _) made
    refine ⟨.ref s.heap.objs.size, _, I1, rfl, ⟨_, x, rfl, I.hok.fresh (Nat.le_refl _), rfl, fun ys hy => by rw [I.tuple_inj hy hq]; exact hx⟩, ⟨⟨y, ?_⟩, st'.1.at fun o q => (sb.2 it (Ne.symm hne)).trans q, hne⟩, fun b hb => ?_⟩
    · have e1 : ((i + 1 : Nat) : Int) = (i : Int) + 1 := by omega
      rw [e1]; exact he'
    · have hb' : b < s.heap.objs.size := by
        rcases (by simpa using hb : b = e ∨ b = it) with z | z
        · rw [z]; exact hel
        · rw [z]; exact hil
      rw [upd_ne (Nat.ne_of_lt hb')]
      exact (hf b hb).1
  done := by
    intro X hP hw hK hc i pins s σ H E I hf st hg
    subst hP hw hK
    obtain ⟨⟨old, he⟩, hit, hne⟩ := st
    obtain ⟨xs, hq, hx⟩ := hg
    obtain ⟨us, rv, p, hz⟩ := I.tuple hq
    obtain ⟨f0, f1, f2, f3, f4, f5⟩ := hf it (by simp)
    have hl := rv.length
    exact enum_endT (I.ok.hd hc) he hit p (by simp; omega) fun h' eb => ⟨rfl, I.turned (t' := s.toks) (fun b o hb q => eb b o hb q) f0 f1 f3 f4 f5⟩
  self := fun A i s Q E st h => let ⟨⟨_, he⟩, _⟩ := st; wpAny_pyIter_enum he h

def iEnumG (K : PySem.W.Frag) (ta : TA) : TI := fun σ H R => ta σ H fun vs H1 => ∃ a xs, vs = [.ref a] ∧ ((SqL K H1 a xs ∧ R (Ite K a) H1) ∨ (SqT K H1 a xs ∧ R (IteT K a) H1))
theorem pi_enumG {X : Cx} {e : PySem.Expr} {ta : TA} {p pos tpos : Pos} {elts : List PySem.Expr} {kk : Nat} (hg : Gl X "enumerate") (hm : X.mg "enumerate" = none) (ha : PA X [e] ta) (hs : starEach [e] X.env = [(false, eval e X.env)]) :
    PI X (.Tuple elts kk tpos) (.Call (.Name "enumerate" p) [e] [] pos) (iEnumG X.K ta) := by
  refine ⟨fun pins s σ H R I h => ?_⟩
  refine PyProof.Rows.Call_ (ld_blt I hg hm PyProof.Rows.boot_enumerate (PyProof.Rows.callWith_type1 (thn (ha.run pos pins s σ H _ I h) fun us s1 hr => ?_) hs rfl))
  obtain ⟨vs, H1, I1, r1, a, xs, rfl, q1⟩ := hr
  rw [Vals.ref1 r1]
  have near : ∀ b, b ∈ [s1.heap.objs.size + 1, s1.heap.objs.size] → s1.heap.objs.size ≤ b := fun b hb => by
    rcases (by simpa using hb : b = s1.heap.objs.size + 1 ∨ b = s1.heap.objs.size) with z | z <;> omega
  rcases q1 with ⟨hq, q⟩ | ⟨hq, q⟩
  · obtain ⟨us, rv, p', hz⟩ := I1.list hq
    refine call_enumerate_list p'.isList fun h' he hit hsz hk => wpAny_pyIter_enum he ?_
    have I2 : Inv X pins σ H1 { s1 with heap := h' } := I1.kept (t' := s1.toks) hk
    exact ⟨s1.heap.objs.size + 1, [s1.heap.objs.size + 1, s1.heap.objs.size], _, _, H1, rfl, I2, turn_enum a (s1.heap.objs.size + 1) s1.heap.objs.size, ⟨⟨.none, he⟩, hit, Nat.succ_ne_self _⟩, fun b hb => I1.fpOk (near b hb) (I1.hok.fresh (near b hb)), q⟩
  · obtain ⟨us, rv, p', hz⟩ := I1.tuple hq
    have hlt : a < s1.heap.objs.size := by obtain ⟨_, z, _⟩ := p'; exact Heap.lt_size z
    refine call_enumT (show s1.heap.IsTuple a us.toArray from p') fun h' he hit hT hk => wpAny_pyIter_enum he ?_
    have I2 : Inv X pins σ H1 { s1 with heap := h' } := I1.kept (t' := s1.toks) hk
    exact ⟨s1.heap.objs.size + 1, [s1.heap.objs.size + 1, s1.heap.objs.size], _, _, H1, rfl, I2, turn_enumT a (s1.heap.objs.size + 1) s1.heap.objs.size us.toArray (Nat.ne_of_lt hlt) (Nat.ne_of_lt (Nat.lt_succ_of_lt hlt)), ⟨⟨.none, he⟩, hit, Nat.succ_ne_self _⟩, fun b hb => I1.fpOk (near b hb) (I1.hok.fresh (near b hb)), q⟩
end G

set_option maxHeartbeats 4000000
namespace G
open PySem L2
variable {K : PySem.W.Frag} {m m' m2 : Nat → Addr} {n n' : Nat} {H H' H2 : Hp} {lh lh' lh2 : LH} {X : Cx} {σ : L2.St} {ls : LS}

abbrev TrE := LS → LH → T (D × LH)
abbrev TrT := LS → LH → T (Bool × LH)
abbrev TrA := LS → LH → T (List D × LH)

/-! ### one after the other -/
/-- a run's rest goes on from where the first part came to -/
theorem tE_seq {t : TrE} {P : D × LH → Prop} {Q : VK} (R : Rel K m lh H) (S : RelS K m lh.length H ls σ) (h : (t ls lh).All P)
    (w : ∀ r m' H' v, P r → Step m lh H m' r.2 H' → Rel K m' r.2 H' → RelS K m' r.2.length H' ls σ → RepV K m' r.2.length H' r.1 v → Q v H') : tE K t σ H Q :=
  ⟨m, ls, lh, R, S, h.mono fun r p m' H' v S' R' rv => w r m' H' v p S' R' (S'.relS R S) rv⟩
theorem tT_seq {t : TrT} {P : Bool × LH → Prop} {Q : Bool → Hp → Prop} (R : Rel K m lh H) (S : RelS K m lh.length H ls σ) (h : (t ls lh).All P)
    (w : ∀ r m' H', P r → Step m lh H m' r.2 H' → Rel K m' r.2 H' → RelS K m' r.2.length H' ls σ → Q r.1 H') : tT K t σ H Q :=
  ⟨m, ls, lh, R, S, h.mono fun r p m' H' S' R' => w r m' H' p S' R' (S'.relS R S)⟩
theorem tA_seq {t : TrA} {P : List D × LH → Prop} {Q : List V → Hp → Prop} (R : Rel K m lh H) (S : RelS K m lh.length H ls σ) (h : (t ls lh).All P)
    (w : ∀ r m' H' vs, P r → Step m lh H m' r.2 H' → Rel K m' r.2 H' → RelS K m' r.2.length H' ls σ → RepVs K m' r.2.length H' r.1 vs → Q vs H') : tA K t σ H Q :=
  ⟨m, ls, lh, R, S, h.mono fun r p m' H' v S' R' rv => w r m' H' v p S' R' (S'.relS R S) rv⟩

theorem all_step {Q : VK} {t : T (D × LH)} (S : Step m lh H m' lh' H') (R : Rel K m' lh' H') (h : t.All (Post K m lh H Q)) : t.All (Post K m' lh' H' Q) := h.mono fun _ => Post.step S R
theorem allB_step {Q : Bool → Hp → Prop} {t : T (Bool × LH)} (S : Step m lh H m' lh' H') (R : Rel K m' lh' H') (h : t.All (PostB K m lh H Q)) : t.All (PostB K m' lh' H' Q) :=
  h.mono fun r q m2 H2 S2 R2 => q m2 H2 (S.trans R S2) R2
theorem allA_step {Q : List V → Hp → Prop} {t : T (List D × LH)} (S : Step m lh H m' lh' H') (R : Rel K m' lh' H') (h : t.All (PostA K m lh H Q)) : t.All (PostA K m' lh' H' Q) :=
  h.mono fun r q m2 H2 v S2 R2 rv => q m2 H2 v (S.trans R S2) R2 rv
theorem allS_step {D : Ends} {t : T R3} (S : Step m lh H m' lh' H') (R : Rel K m' lh' H') (h : t.All (PostS K m lh H D)) : t.All (PostS K m' lh' H' D) :=
  h.mono fun r q m2 H2 σ2 S2 R2 rs => q m2 H2 σ2 (S.trans R S2) R2 rs

/-! ### expressions, a case each -/
theorem cConst {e : PySem.Expr} {d : D} {v : V} (h : PE X e (tC v)) (r : ∀ m n H, RepV X.K m n H d v) : PE X e (tE X.K fun _ lh => .ret (d, lh)) :=
  h.weak fun σ H Q ⟨m, ls, lh, R, S, q⟩ => Post.ret R q (r _ _ _)
theorem cVar {i : Nat} {e : PySem.Expr} (h : PE X e (tVar i)) : PE X e (tE X.K fun ls lh => match ls[i]? with
    | some (some d) => .ret (d, lh)
    | _ => .bad) := h.weak fun σ H Q ⟨m, ls, lh, R, S, q⟩ => by
  simp only at q
  split at q
  · rename_i d e
    obtain ⟨v, e1, e2⟩ := S.at_ i d e
    exact ⟨v, e1, Post.ret R q e2⟩
  · exact q.elim
section
variable {pa pb pc : PySem.Expr} {ta tb tc : TrE} {pos : Pos}
theorem cBin (op : Bop) (ha : PE X pa (tE X.K ta)) (hb : PE X pb (tE X.K tb)) : PE X (.BinOp pa (bopOf op) pb pos) (tE X.K fun ls lh => (ta ls lh).bind fun r => (tb ls r.2).bind fun q => opB op r.1 q.1 q.2) :=
  (pe_op (op_B op) ha hb).weak fun σ H Q ⟨m, ls, lh, R, S, q⟩ => by
  refine tE_seq R S (T.all_bind.mp q) fun r m1 H1 v p S1 R1 RS1 rv => ?_
  refine tE_seq R1 RS1 (T.all_bind.mp p) fun r2 m2 H2 v2 p2 S2 R2 RS2 rv2 => ?_
  exact ad_B op m2 r2.2 H2 r.1 r2.1 v v2 Q R2 (S2.repV R1 rv) rv2 (all_step (S1.trans R1 S2) R2 p2)
theorem cNeg (ha : PE X pa (tE X.K ta)) : PE X (.UnaryOp .USub pa pos) (tE X.K fun ls lh => (ta ls lh).bind fun r => match r.1 with
    | .int i => .ret (.int (-i), r.2)
    | _ => .bad) :=
  (pe_un un_neg ha).weak fun σ H Q ⟨m, ls, lh, R, S, q⟩ => by
  refine tE_seq R S (T.all_bind.mp q) fun r m1 H1 v p S1 R1 RS1 rv => ?_
  obtain ⟨d, l1⟩ := r
  have p := all_step S1 R1 p
  cases rv with
  | int i => exact ⟨i, rfl, Post.ret R1 p (.int _)⟩
  | _ => exact p.elim
theorem cCmp (op : Cop) (hu : X.A.units + 66 < cLine) (ha : PE X pa (tE X.K ta)) (hb : PE X pb (tE X.K tb)) (hm : behindInMarks (copOf op) pb = false) : PE X (.Compare pa [copOf op] [pb] pos) (tE X.K fun ls lh => (ta ls lh).bind fun r => (tb ls r.2).bind fun q => match opC op r.1 q.1 q.2 with
    | some c => .ret (.bl c, q.2)
    | none => .bad) :=
  (pe_cmpR (op_C hu op) ha hb hm).weak fun σ H Q ⟨m, ls, lh, R, S, q⟩ => by
  refine tE_seq R S (T.all_bind.mp q) fun r m1 H1 v p S1 R1 RS1 rv => ?_
  refine tE_seq R1 RS1 (T.all_bind.mp p) fun r2 m2 H2 v2 p2 S2 R2 RS2 rv2 => ?_
  have p2 := all_step (S1.trans R1 S2) R2 p2
  split at p2
  · rename_i c ec
    exact ad_C op R2 (S2.repV R1 rv) rv2 ec (Post.ret R2 p2 (.bl _))
  · exact p2.elim
theorem tCmp (op : Cop) (hu : X.A.units + 66 < cLine) (ha : PE X pa (tE X.K ta)) (hb : PE X pb (tE X.K tb)) (hm : behindInMarks (copOf op) pb = false) : PT X (.Compare pa [copOf op] [pb] pos) (tT X.K fun ls lh => (ta ls lh).bind fun r => (tb ls r.2).bind fun q => match opC op r.1 q.1 q.2 with
    | some c => .ret (c, q.2)
    | none => .bad) :=
  (pt_cmpR (op_C hu op) ha hb hm).weak fun σ H Q ⟨m, ls, lh, R, S, q⟩ => by
  refine tE_seq R S (T.all_bind.mp q) fun r m1 H1 v p S1 R1 RS1 rv => ?_
  refine tE_seq R1 RS1 (T.all_bind.mp p) fun r2 m2 H2 v2 p2 S2 R2 RS2 rv2 => ?_
  have p2 := allB_step (S1.trans R1 S2) R2 p2
  split at p2
  · rename_i c ec
    exact ad_C op R2 (S2.repV R1 rv) rv2 ec ⟨c, rfl, (show PostB X.K m2 r2.2 H2 Q (c, r2.2) from p2) m2 H2 .refl R2⟩
  · exact p2.elim
/-- and, or as values -/
theorem cAnd {t' : TE} {rest : List PySem.Expr} (ha : PE X pa (tE X.K ta)) (hb : PE X (.BoolOp .And (pb :: rest) pos) (tE X.K tb)) : PE X (.BoolOp .And (pa :: pb :: rest) pos) (tE X.K fun ls lh => (ta ls lh).bind fun r => match r.1 with
    | .bl true => tb ls r.2
    | .bl false => .ret (.bl false, r.2)
    | _ => .bad) :=
  (pe_and ha hb).weak fun σ H Q ⟨m, ls, lh, R, S, q⟩ => by
  refine tE_seq R S (T.all_bind.mp q) fun r m1 H1 v p S1 R1 RS1 rv => ?_
  obtain ⟨d, l1⟩ := r
  have p := all_step S1 R1 p
  cases rv with
  | bl c =>
    refine ⟨c, rfl, ?_⟩
    cases c with
    | true => exact iteT ⟨m1, ls, l1, R1, RS1, p⟩
    | false => exact iteF (Post.ret R1 p (.bl _))
  | _ => exact p.elim
theorem cOr {rest : List PySem.Expr} (ha : PE X pa (tE X.K ta)) (hb : PE X (.BoolOp .Or (pb :: rest) pos) (tE X.K tb)) : PE X (.BoolOp .Or (pa :: pb :: rest) pos) (tE X.K fun ls lh => (ta ls lh).bind fun r => match r.1 with
    | .bl true => .ret (.bl true, r.2)
    | .bl false => tb ls r.2
    | _ => .bad) :=
  (pe_or ha hb).weak fun σ H Q ⟨m, ls, lh, R, S, q⟩ => by
  refine tE_seq R S (T.all_bind.mp q) fun r m1 H1 v p S1 R1 RS1 rv => ?_
  obtain ⟨d, l1⟩ := r
  have p := all_step S1 R1 p
  cases rv with
  | bl c =>
    refine ⟨c, rfl, ?_⟩
    cases c with
    | true => exact iteT (Post.ret R1 p (.bl _))
    | false => exact iteF ⟨m1, ls, l1, R1, RS1, p⟩
  | _ => exact p.elim
theorem cNot (ha : PE X pa (tE X.K ta)) : PE X (.UnaryOp .Not pa pos) (tE X.K fun ls lh => (ta ls lh).bind fun r => match r.1 with
    | .bl c => .ret (.bl (!c), r.2)
    | _ => .bad) :=
  (pe_not ha).weak fun σ H Q ⟨m, ls, lh, R, S, q⟩ => by
  refine tE_seq R S (T.all_bind.mp q) fun r m1 H1 v p S1 R1 RS1 rv => ?_
  obtain ⟨d, l1⟩ := r
  have p := all_step S1 R1 p
  cases rv with
  | bl c => exact ⟨c, rfl, Post.ret R1 p (.bl _)⟩
  | _ => exact p.elim
theorem cIte {tt : TrT} (hc : PT X pc (tT X.K tt)) (ha : PE X pa (tE X.K ta)) (hb : PE X pb (tE X.K tb)) : PE X (.IfExp pc pa pb pos) (tE X.K fun ls lh => (tt ls lh).bind fun r => if r.1 then ta ls r.2 else tb ls r.2) :=
  (pe_ifExp hc ha hb).weak fun σ H Q ⟨m, ls, lh, R, S, q⟩ => by
  refine tT_seq R S (T.all_bind.mp q) fun r m1 H1 p S1 R1 RS1 => ?_
  obtain ⟨c, l1⟩ := r
  have p := all_step S1 R1 p
  cases c with
  | true => exact iteT ⟨m1, ls, l1, R1, RS1, p⟩
  | false => exact iteF ⟨m1, ls, l1, R1, RS1, p⟩
theorem cTup {es : List PySem.Expr} {x1 : Nat} {t : TrA} (h : PA X es (tA X.K t)) : PE X (.Tuple es x1 pos) (tE X.K fun ls lh => (t ls lh).bind fun r => if r.1.length ≤ line then .ret (.tup r.1, r.2) else .bad) :=
  (pe_tupF h).weak fun σ H Q ⟨m, ls, lh, R, S, q⟩ => by
  refine tA_seq R S (T.all_bind.mp q) fun r m1 H1 vs p S1 R1 RS1 rv => ?_
  have p := all_step S1 R1 p
  split at p
  · rename_i hl
    rw [line_eq, rv.length] at hl
    exact ⟨hl, Post.tup R1 p rv⟩
  · exact p.elim
theorem cLst {es : List PySem.Expr} {t : TrA} (h : PA X es (tA X.K t)) : PE X (.List es pos) (tE X.K fun ls lh => (t ls lh).bind fun r => if r.1.length ≤ line then G.new (.lst r.1) r.2 else .bad) :=
  (pe_lst h).weak fun σ H Q ⟨m, ls, lh, R, S, q⟩ => by
  refine tA_seq R S (T.all_bind.mp q) fun r m1 H1 vs p S1 R1 RS1 rv => ?_
  have p := all_step S1 R1 p
  split at p
  · rename_i hl
    rw [line_eq, rv.length] at hl
    exact ⟨hl, Post.new R1 p rv⟩
  · exact p.elim
theorem cFn {t : TrA} (f : Fn) (hf : ∀ ty, f ≠ .isi ty) {e : PySem.Expr} (h : PE X e (tCB (rF X.K f) (tA X.K t))) : PE X e (tE X.K fun ls lh => (t ls lh).bind fun r => fnOp f r.1 r.2) :=
  h.weak fun σ H Q ⟨m, ls, lh, R, S, q⟩ => by
  refine tA_seq R S (T.all_bind.mp q) fun r m1 H1 vs p S1 R1 RS1 rv => ?_
  exact ad_F f hf R1 rv (all_step S1 R1 p)
theorem cIsi {t : TrE} (ty : Ty) {e : PySem.Expr} (h : PE X e (tCB (rIsi X.K) (tCons (tE X.K t) (tCons (tC (.ty (tyName ty))) tNil)))) : PE X e (tE X.K fun ls lh => ((t ls lh).bind fun r => .ret ([r.1], r.2)).bind fun r => fnOp (.isi ty) r.1 r.2) :=
  h.weak fun σ H Q ⟨m, ls, lh, R, S, q⟩ => by
  refine tE_seq R S (T.all_bind.mp (T.all_bind.mp q)) fun r m1 H1 v p S1 R1 RS1 rv => ?_
  have p : (fnOp (.isi ty) [r.1] r.2).All (Post X.K m lh H Q) := p
  have p := all_step S1 R1 p
  unfold fnOp at p
  simp only at p
  split at p
  · rename_i b eb
    exact isTy_some R1 eb rv (Post.ret R1 p (.bl _))
  · exact p.elim
theorem cMt (mt : Mt) (hu : X.A.units + 70 < cLine) {t : TrA} {e : PySem.Expr} (h : PE X e (tMG X (mtName mt) (tE X.K ta) (tA X.K t))) : PE X e (tE X.K fun ls lh => (ta ls lh).bind fun q => if mtOk mt q.1 then (t ls q.2).bind fun r => mtOp mt q.1 r.1 r.2 else .bad) :=
  h.weak fun σ H Q ⟨m, ls, lh, R, S, q⟩ => by
  refine tE_seq R S (T.all_bind.mp q) fun r m1 H1 v p S1 R1 RS1 rv => ?_
  split at p
  · rename_i hm
    obtain ⟨rr, c1, c2⟩ := mt_ch hu hm R1 rv
    refine ⟨rr, c1, tA_seq R1 RS1 (T.all_bind.mp p) fun r2 m2 H2 vs p2 S2 R2 RS2 rv2 => ?_⟩
    exact c2 m2 r2.2 H2 r2.1 vs Q R2 (S2.repV R1 rv) rv2 (all_step (S1.trans R1 S2) R2 p2)
  · exact p.elim
theorem cMt0 (mt : Mt) (hu : X.A.units + 70 < cLine) {e : PySem.Expr} (h : PE X e (tMG0 X (mtName mt) (tE X.K ta))) : PE X e (tE X.K fun ls lh => (ta ls lh).bind fun q => if mtOk mt q.1 then (T.ret ([], q.2) : T (List D × LH)).bind fun r => mtOp mt q.1 r.1 r.2 else .bad) :=
  h.weak fun σ H Q ⟨m, ls, lh, R, S, q⟩ => by
  refine tE_seq R S (T.all_bind.mp q) fun r m1 H1 v p S1 R1 RS1 rv => ?_
  split at p
  · rename_i hm
    obtain ⟨rr, c1, c2⟩ := mt_ch hu hm R1 rv
    exact ⟨rr, c1, c2 m1 r.2 H1 [] [] Q R1 rv .nil (all_step S1 R1 p)⟩
  · exact p.elim
theorem cIdx (ha : PE X pa (tE X.K ta)) (hb : PE X pb (tE X.K tb)) (hp : PlainIx pb) : PE X (.Subscript pa pb pos) (tE X.K fun ls lh => (ta ls lh).bind fun r => (tb ls r.2).bind fun q => idxOp r.1 q.1 q.2) :=
  (pe_ix ix_seq ha hb hp).weak fun σ H Q ⟨m, ls, lh, R, S, q⟩ => by
  refine tE_seq R S (T.all_bind.mp q) fun r m1 H1 v p S1 R1 RS1 rv => ?_
  refine tE_seq R1 RS1 (T.all_bind.mp p) fun r2 m2 H2 v2 p2 S2 R2 RS2 rv2 => ?_
  exact ad_ix R2 (S2.repV R1 rv) rv2 (all_step (S1.trans R1 S2) R2 p2)
/-- a slice's part -/
def PostO (K : PySem.W.Frag) (m : Nat → Addr) (lh : LH) (H : Hp) (Q : Option Int → Hp → Prop) (r : Option Int × LH) : Prop := ∀ m' H', Step m lh H m' r.2 H' → Rel K m' r.2 H' → Q r.1 H'
def tO (K : PySem.W.Frag) (t : LS → LH → T (Option Int × LH)) : TO := fun σ H Q => ∃ m ls lh, Rel K m lh H ∧ RelS K m lh.length H ls σ ∧ (t ls lh).All (PostO K m lh H Q)
theorem tO_seq {t : LS → LH → T (Option Int × LH)} {P : Option Int × LH → Prop} {Q : Option Int → Hp → Prop} (R : Rel K m lh H) (S : RelS K m lh.length H ls σ) (h : (t ls lh).All P)
    (w : ∀ r m' H', P r → Step m lh H m' r.2 H' → Rel K m' r.2 H' → RelS K m' r.2.length H' ls σ → Q r.1 H') : tO K t σ H Q :=
  ⟨m, ls, lh, R, S, h.mono fun r p m' H' S' R' => w r m' H' p S' R' (S'.relS R S)⟩
theorem _root_.L2.PO.weak {e : Option PySem.Expr} {t t' : TO} (h : PO X e t) (w : ∀ σ H Q, t' σ H Q → t σ H Q) : PO X e t' := ⟨fun pins s σ H Q I q => h.run pins s σ H Q I (w σ H Q q)⟩
theorem cNoPart : PO X none (tO X.K fun _ lh => .ret (none, lh)) :=
  PO.weak po_none fun σ H Q ⟨m, ls, lh, R, S, q⟩ => (show PostO X.K m lh H Q (none, lh) from q) m H .refl R
theorem cPart (ha : PE X pa (tE X.K ta)) : PO X (some pa) (tO X.K fun ls lh => (ta ls lh).bind fun r => match r.1 with
    | .int i => .ret (some i, r.2)
    | _ => .bad) :=
  PO.weak (po_some ha) fun σ H Q ⟨m, ls, lh, R, S, q⟩ => by
  refine tE_seq R S (T.all_bind.mp q) fun r m1 H1 v p S1 R1 RS1 rv => ?_
  obtain ⟨d, l1⟩ := r
  cases rv with
  | int i => exact ⟨i, rfl, (show PostO X.K m lh H Q (some i, l1) from p) m1 H1 S1 R1⟩
  | _ => exact p.elim
theorem cSlc {lo hi : Option PySem.Expr} {p2 : Pos} {tl th : LS → LH → T (Option Int × LH)} (ha : PE X pa (tE X.K ta)) (hl : PO X lo (tO X.K tl)) (hh : PO X hi (tO X.K th)) :
    PE X (.Subscript pa (.Slice lo hi none p2) pos) (tE X.K fun ls lh => (ta ls lh).bind fun r => (tl ls r.2).bind fun p => (th ls p.2).bind fun q => slcOp r.1 p.1 q.1 q.2) :=
  (pe_slice sl_G ha hl hh).weak fun σ H Q ⟨m, ls, lh, R, S, q⟩ => by
  refine tE_seq R S (T.all_bind.mp q) fun r m1 H1 v p S1 R1 RS1 rv => ?_
  refine tO_seq R1 RS1 (T.all_bind.mp p) fun r2 m2 H2 p2 S2 R2 RS2 => ?_
  refine tO_seq R2 RS2 (T.all_bind.mp p2) fun r3 m3 H3 p3 S3 R3 RS3 => ?_
  have S13 := (S1.trans R1 S2).trans R2 S3
  exact ad_sl R3 (S3.repV R2 (S2.repV R1 rv)) (all_step S13 R3 p3)
theorem cRev {k : Nat} {p1 p2 p3 : Pos} (ha : PE X pa (tE X.K ta)) : PE X (.Subscript pa (.Slice none none (some (.UnaryOp .USub (.Constant (.int 1) k p1) p2)) p3) pos) (tE X.K fun ls lh => (ta ls lh).bind fun r => revOp r.1 r.2) :=
  (pe_revL ha).weak fun σ H Q ⟨m, ls, lh, R, S, q⟩ => by
  refine tE_seq R S (T.all_bind.mp q) fun r m1 H1 v p S1 R1 RS1 rv => ?_
  exact ad_rev R1 rv (all_step S1 R1 p)
end

/-! ### arguments -/
theorem aNil : PA X [] (tA X.K fun _ lh => .ret ([], lh)) :=
  pa_nil.weak fun σ H Q ⟨m, ls, lh, R, S, q⟩ => (show PostA X.K m lh H Q ([], lh) from q) m H [] .refl R .nil
theorem aCons {pe : PySem.Expr} {pes : List PySem.Expr} {te : TrE} {t : TrA} (ha : PE X pe (tE X.K te)) (hr : PA X pes (tA X.K t)) (hs : starEach (pe :: pes) X.env = (false, eval pe X.env) :: starEach pes X.env) :
    PA X (pe :: pes) (tA X.K fun ls lh => (te ls lh).bind fun r => (t ls r.2).bind fun q => .ret (r.1 :: q.1, q.2)) :=
  (pa_cons ha hr hs).weak fun σ H Q ⟨m, ls, lh, R, S, q⟩ => by
  refine tE_seq R S (T.all_bind.mp q) fun r m1 H1 v p S1 R1 RS1 rv => ?_
  refine tA_seq R1 RS1 (T.all_bind.mp p) fun r2 m2 H2 vs p2 S2 R2 RS2 rv2 => ?_
  exact (show PostA X.K m lh H Q (r.1 :: r2.1, r2.2) from p2) m2 H2 (v :: vs) (S1.trans R1 S2) R2 (.cons (S2.repV R1 rv) rv2)

/-! ### tests -/
section
variable {pa pb : PySem.Expr} {ta tb : TrT} {pos : Pos} {rest : List PySem.Expr}
theorem _root_.L2.PW.weak {e : PySem.Expr} {t t' : TT} (h : PW X e t) (w : ∀ σ H Q, t' σ H Q → t σ H Q) : PW X e t' := ⟨fun whole pins s σ H Q I q => h.run whole pins s σ H Q I (w σ H Q q)⟩
theorem wAnd (ha : PT X pa (tT X.K ta)) (hb : PW X (.BoolOp .And (pb :: rest) pos) (tT X.K tb)) : PW X (.BoolOp .And (pa :: pb :: rest) pos) (tT X.K fun ls lh => (ta ls lh).bind fun r => if r.1 then tb ls r.2 else .ret (false, r.2)) :=
  PW.weak (pw_and ha hb) fun σ H Q ⟨m, ls, lh, R, S, q⟩ => by
  refine tT_seq R S (T.all_bind.mp q) fun r m1 H1 p S1 R1 RS1 => ?_
  obtain ⟨c, l1⟩ := r
  have p := allB_step S1 R1 p
  cases c with
  | true => exact iteT ⟨m1, ls, l1, R1, RS1, p⟩
  | false => exact iteF ((show PostB X.K m1 l1 H1 Q (false, l1) from p) m1 H1 .refl R1)
theorem wOr (ha : PT X pa (tT X.K ta)) (hb : PW X (.BoolOp .Or (pb :: rest) pos) (tT X.K tb)) : PW X (.BoolOp .Or (pa :: pb :: rest) pos) (tT X.K fun ls lh => (ta ls lh).bind fun r => if r.1 then .ret (true, r.2) else tb ls r.2) :=
  PW.weak (pw_or ha hb) fun σ H Q ⟨m, ls, lh, R, S, q⟩ => by
  refine tT_seq R S (T.all_bind.mp q) fun r m1 H1 p S1 R1 RS1 => ?_
  obtain ⟨c, l1⟩ := r
  have p := allB_step S1 R1 p
  cases c with
  | true => exact iteT ((show PostB X.K m1 l1 H1 Q (true, l1) from p) m1 H1 .refl R1)
  | false => exact iteF ⟨m1, ls, l1, R1, RS1, p⟩
theorem tNot (ha : PT X pa (tT X.K ta)) : PT X (.UnaryOp .Not pa pos) (tT X.K fun ls lh => (ta ls lh).bind fun r => .ret (!r.1, r.2)) :=
  (pt_not ha).weak fun σ H Q ⟨m, ls, lh, R, S, q⟩ => by
  refine tT_seq R S (T.all_bind.mp q) fun r m1 H1 p S1 R1 RS1 => ?_
  exact (show PostB X.K m lh H Q (!r.1, r.2) from p) m1 H1 S1 R1
/-- any expression by its value's truth -/
theorem tTru {te : TrE} (h : PE X pa (tE X.K te)) (he : ∀ whole, isTrue pa X.env whole = (do let v ← whole; standAt pa.pos; holding [v] (truthy v))) :
    PT X pa (tT X.K fun ls lh => (te ls lh).bind fun q => match truth q.1 q.2 with
      | some b => .ret (b, q.2)
      | none => .bad) :=
  (pt_truth h he).weak fun σ H Q ⟨m, ls, lh, R, S, q⟩ => by
  refine tE_seq R S (T.all_bind.mp q) fun r m1 H1 v p S1 R1 RS1 rv => ?_
  split at p
  · rename_i b eb
    exact ⟨b, truth_some R1 eb rv, (show PostB X.K m lh H Q (b, r.2) from p) m1 H1 S1 R1⟩
  · exact p.elim
end
end G

set_option maxHeartbeats 4000000
namespace G
open PySem L2
variable {K : PySem.W.Frag} {m m' m2 : Nat → Addr} {n n' : Nat} {H H' H2 : Hp} {lh lh' lh2 : LH} {X : Cx} {σ : L2.St} {ls : LS}

/-! ### what is walked -/
/-- a pair that an iterator hands out may be any tuple -/
def RepW (K : PySem.W.Frag) (m : Nat → Addr) (n : Nat) (H : Hp) (str : Bool) (d : D) (x : V) : Prop :=
  RepV K m n H d x ∨ (str = false ∧ ∃ ds a vs, d = .tup ds ∧ x = .ref a ∧ SqT K H a vs ∧ RepVs K m n H ds vs)
def WkOk (K : PySem.W.Frag) (m : Nat → Addr) (lh : LH) (H : Hp) (str : Bool) (w : Wk) (J : L2.It) : Prop :=
  ∀ m' lh' H' i, Step m lh H m' lh' H' → Rel K m' lh' H' → (w.nxt i lh' = some none → J.stop i H') ∧
    ∀ d, w.nxt i lh' = some (some d) → J.go i H' ∧ ∀ x H2, J.yld i H' x H2 → Rel K m' lh' H2 ∧ Step m' lh' H' m' lh' H2 ∧ RepW K m' lh'.length H2 str d x
theorem WkOk.step {str : Bool} {w : Wk} {J : L2.It} (h : WkOk K m lh H str w J) (S : Step m lh H m' lh' H') (R : Rel K m' lh' H') : WkOk K m' lh' H' str w J :=
  fun m2 lh2 H2 i S2 R2 => h m2 lh2 H2 i (S.trans R S2) R2
abbrev TrI := LS → LH → T (Wk × LH)
def PostI (K : PySem.W.Frag) (m : Nat → Addr) (lh : LH) (H : Hp) (str : Bool) (Q : L2.It → Hp → Prop) (r : Wk × LH) : Prop :=
  ∀ m' H' J, Step m lh H m' r.2 H' → Rel K m' r.2 H' → WkOk K m' r.2 H' str r.1 J → Q J H'
def tI (K : PySem.W.Frag) (str : Bool) (t : TrI) : TI := fun σ H Q => ∃ m ls lh, Rel K m lh H ∧ RelS K m lh.length H ls σ ∧ (t ls lh).All (PostI K m lh H str Q)
theorem _root_.L2.PI.weak {tg e : PySem.Expr} {t t' : TI} (h : PI X tg e t) (w : ∀ σ H Q, t' σ H Q → t σ H Q) : PI X tg e t' := ⟨fun pins s σ H Q I q => h.run pins s σ H Q I (w σ H Q q)⟩

theorem Rel.lstAt (R : Rel K m lh H) {k : Nat} {xs : List D} (h : lget lh k = some xs) : ∃ vs, SqL K H (m k) vs ∧ RepVs K m lh.length H xs vs ∧ ∀ ws, SqL K H (m k) ws → True := by
  obtain ⟨vs, e1, e2⟩ := R.lst h
  exact ⟨vs, SqL.of e1, e2, fun _ _ => trivial⟩

theorem wk_lst {str : Bool} (k : Nat) (hk : k < lh.length) : WkOk K m lh H str (.lst k) (Itl K (m k)) := by
  intro m' lh' H' i S R
  have ek : m' k = m k := S.ext k hk
  have get : ∀ xs, lget lh' k = some xs → ∃ vs, SqL K H' (m k) vs ∧ RepVs K m' lh'.length H' xs vs := fun xs e => by
    obtain ⟨vs, e1, e2⟩ := R.lst e
    rw [ek] at e1
    exact ⟨vs, SqL.of e1, e2⟩
  refine ⟨fun h => ?_, fun d h => ?_⟩
  · obtain ⟨xs, e, h⟩ := map_some h
    obtain ⟨vs, e1, e2⟩ := get xs e
    refine ⟨vs, e1, ?_⟩
    rw [← e2.length]
    exact List.getElem?_eq_none_iff.mp h
  · obtain ⟨xs, e, h⟩ := map_some h
    obtain ⟨vs, e1, e2⟩ := get xs e
    obtain ⟨v, g1, g2⟩ := e2.get h
    refine ⟨⟨vs, v, e1, g1⟩, fun x H2 y => ?_⟩
    obtain ⟨rfl, y⟩ := y
    have := y vs e1
    rw [g1] at this
    cases this
    exact ⟨R, .refl, .inl g2⟩
theorem wk_tup {str : Bool} {a : Addr} {ds : List D} {vs : List V} (R0 : Rel K m lh H) (h1 : SqD K H a vs) (h2 : RepVs K m lh.length H ds vs) : WkOk K m lh H str (.tup ds) (Itt K a) := by
  intro m' lh' H' i S R
  have e1 := (S.sqD R0 h1).sqT
  have e2 := S.repVs R0 h2
  refine ⟨fun h => ?_, fun d h => ?_⟩
  · refine ⟨vs, e1, ?_⟩
    rw [← e2.length]
    exact List.getElem?_eq_none_iff.mp (Option.some.inj h)
  · obtain ⟨v, g1, g2⟩ := e2.get (Option.some.inj h)
    refine ⟨⟨vs, v, e1, g1⟩, fun x H2 y => ?_⟩
    obtain ⟨rfl, y⟩ := y
    have := y vs e1
    rw [g1] at this
    cases this
    exact ⟨R, .refl, .inl g2⟩
theorem wk_str {str : Bool} (s : Str) : WkOk K m lh H str (.str s) (Its s) := by
  intro m' lh' H' i S R
  refine ⟨fun h => ?_, fun d h => ?_⟩
  · have h' := Option.some.inj h
    cases e : s.cps.toList[i]? with
    | none =>
      have := List.getElem?_eq_none_iff.mp e
      show s.cps.size ≤ i
      simpa using this
    | some c => rw [e] at h'; cases h'
  · have h' := Option.some.inj h
    cases e : s.cps.toList[i]? with
    | none => rw [e] at h'; cases h'
    | some c =>
      rw [e] at h'
      cases h'
      have hl := (List.getElem?_eq_some_iff.mp e).1
      refine ⟨by show i < s.cps.size; simpa using hl, fun x H2 y => ?_⟩
      obtain ⟨rfl, c', e', rfl⟩ := y
      have : s.cps[i]? = some c := by rw [← Array.getElem?_toList]; exact e
      rw [this] at e'
      cases e'
      exact ⟨R, .refl, .inl (.str _)⟩
theorem wk_rng {str : Bool} (lo : Int) (n : Nat) : WkOk K m lh H str (.rng lo n 1) (Itr lo n) := by
  intro m' lh' H' i S R
  refine ⟨fun h => ?_, fun d h => ?_⟩
  · have h' := Option.some.inj h
    by_cases hi : i < n
    · rw [if_pos hi] at h'; cases h'
    · exact Nat.le_of_not_lt hi
  · have h' := Option.some.inj h
    by_cases hi : i < n
    · rw [if_pos hi] at h'
      cases h'
      refine ⟨hi, fun x H2 y => ?_⟩
      obtain ⟨rfl, rfl⟩ := y
      rw [Int.mul_one]
      exact ⟨R, .refl, .inl (.int _)⟩
    · rw [if_neg hi] at h'; cases h'
theorem wk_rngC {str : Bool} (lo c : Int) (n : Nat) : WkOk K m lh H str (.rng lo n c) (Itc lo c n) := by
  intro m' lh' H' i S R
  refine ⟨fun h => ?_, fun d h => ?_⟩
  · have h' := Option.some.inj h
    by_cases hi : i < n
    · rw [if_pos hi] at h'; cases h'
    · exact Nat.le_of_not_lt hi
  · have h' := Option.some.inj h
    by_cases hi : i < n
    · rw [if_pos hi] at h'
      cases h'
      refine ⟨hi, fun x H2 y => ?_⟩
      obtain ⟨rfl, rfl⟩ := y
      exact ⟨R, .refl, .inl (.int _)⟩
    · rw [if_neg hi] at h'; cases h'
/-- a pair on the fly -/
theorem pair_rep (R : Rel K m lh H) {T : Addr} {x y : D} {vx vy : V} (hT : H T = none) (rx : RepV K m lh.length H x vx) (ry : RepV K m lh.length H y vy) :
    Rel K m lh (upd H T (.tup [vx, vy])) ∧ Step m lh H m lh (upd H T (.tup [vx, vy])) ∧ RepW K m lh.length (upd H T (.tup [vx, vy])) false (.tup [x, y]) (.ref T) := by
  obtain ⟨R2, S2⟩ := R.any (w := .tup [vx, vy]) hT
  exact ⟨R2, S2, .inr ⟨rfl, [x, y], T, [vx, vy], rfl, rfl, SqT.of upd_same, .cons (S2.repV R rx) (.cons (S2.repV R ry) .nil)⟩⟩
theorem wk_enumL (k : Nat) (hk : k < lh.length) : WkOk K m lh H false (.enum (.ref k)) (Ite K (m k)) := by
  intro m' lh' H' i S R
  have ek : m' k = m k := S.ext k hk
  refine ⟨fun h => ?_, fun d h => ?_⟩
  · unfold Wk.nxt at h
    simp only at h
    split at h
    · rename_i xs e
      obtain ⟨vs, e1, e2⟩ := R.lst (show lget lh' k = some xs from e)
      rw [ek] at e1
      refine ⟨vs, SqL.of e1, ?_⟩
      rw [← e2.length]
      cases g : xs[i]? with
      | none => exact List.getElem?_eq_none_iff.mp g
      | some z => rw [g] at h; cases h
    · cases h
  · unfold Wk.nxt at h
    simp only at h
    split at h
    · rename_i xs e
      obtain ⟨vs, e1, e2⟩ := R.lst (show lget lh' k = some xs from e)
      rw [ek] at e1
      cases g : xs[i]? with
      | none => rw [g] at h; cases h
      | some z =>
        rw [g] at h
        cases h
        obtain ⟨v, g1, g2⟩ := e2.get g
        refine ⟨⟨vs, v, SqL.of e1, g1⟩, fun x H2 y => ?_⟩
        obtain ⟨T, v', rfl, hT, rfl, y⟩ := y
        have := y vs (SqL.of e1)
        rw [g1] at this
        cases this
        exact pair_rep R hT (.int _) g2
    · cases h
theorem wk_enumT {a : Addr} {ds : List D} {vs : List V} (R0 : Rel K m lh H) (h1 : SqD K H a vs) (h2 : RepVs K m lh.length H ds vs) : WkOk K m lh H false (.enum (.tup ds)) (IteT K a) := by
  intro m' lh' H' i S R
  have e1 := (S.sqD R0 h1).sqT
  have e2 := S.repVs R0 h2
  refine ⟨fun h => ?_, fun d h => ?_⟩
  · have h' : ds[i]?.map (fun x => D.tup [.int i, x]) = none := Option.some.inj h
    refine ⟨vs, e1, ?_⟩
    rw [← e2.length]
    cases g : ds[i]? with
    | none => exact List.getElem?_eq_none_iff.mp g
    | some z => rw [g] at h'; cases h'
  · have h' : ds[i]?.map (fun x => D.tup [.int i, x]) = some d := Option.some.inj h
    cases g : ds[i]? with
    | none => rw [g] at h'; cases h'
    | some z =>
      rw [g] at h'
      cases h'
      obtain ⟨v, g1, g2⟩ := e2.get g
      refine ⟨⟨vs, v, e1, g1⟩, fun x H2 y => ?_⟩
      obtain ⟨T, v', rfl, hT, rfl, y⟩ := y
      have := y vs e1
      rw [g1] at this
      cases this
      exact pair_rep R hT (.int _) g2
theorem wk_zipL (k l : Nat) (hk : k < lh.length) (hl : l < lh.length) : WkOk K m lh H false (.zip (.ref k) (.ref l)) (Itz K (m k) (m l)) := by
  intro m' lh' H' i S R
  have ek : m' k = m k := S.ext k hk
  have el : m' l = m l := S.ext l hl
  have get : ∀ r, (Wk.zip (.ref k) (.ref l)).nxt i lh' = some r → ∃ xs ys vs ws, SqL K H' (m k) vs ∧ SqL K H' (m l) ws ∧ RepVs K m' lh'.length H' xs vs ∧ RepVs K m' lh'.length H' ys ws ∧
      (match xs[i]?, ys[i]? with | some x, some y => some (D.tup [x, y]) | _, _ => none) = r := by
    intro r h
    unfold Wk.nxt at h
    simp only at h
    split at h
    · rename_i xs ys e e'
      obtain ⟨vs, a1, a2⟩ := R.lst (show lget lh' k = some xs from e)
      obtain ⟨ws, b1, b2⟩ := R.lst (show lget lh' l = some ys from e')
      rw [ek] at a1
      rw [el] at b1
      refine ⟨xs, ys, vs, ws, SqL.of a1, SqL.of b1, a2, b2, ?_⟩
      revert h
      cases xs[i]? <;> cases ys[i]? <;> intro h <;> exact Option.some.inj h
    · cases h
  refine ⟨fun h => ?_, fun d h => ?_⟩
  · obtain ⟨xs, ys, vs, ws, a1, b1, a2, b2, e⟩ := get _ h
    refine ⟨vs, ws, a1, b1, ?_⟩
    rw [← a2.length, ← b2.length]
    cases g : xs[i]? with
    | none => exact .inl (List.getElem?_eq_none_iff.mp g)
    | some x =>
      cases g' : ys[i]? with
      | none => exact .inr (List.getElem?_eq_none_iff.mp g')
      | some y => rw [g, g'] at e; cases e
  · obtain ⟨xs, ys, vs, ws, a1, b1, a2, b2, e⟩ := get _ h
    cases g : xs[i]? with
    | none => rw [g] at e; cases e
    | some x =>
      cases g' : ys[i]? with
      | none => rw [g, g'] at e; cases e
      | some y =>
        rw [g, g'] at e
        cases e
        obtain ⟨v, g1, g2⟩ := a2.get g
        obtain ⟨v2, g3, g4⟩ := b2.get g'
        refine ⟨⟨vs, ws, v, v2, a1, b1, g1, g3⟩, fun z H2 yy => ?_⟩
        obtain ⟨T, x', y', rfl, hT, rfl, f1, f2⟩ := yy
        have q1 := f1 vs a1
        have q2 := f2 ws b1
        rw [g1] at q1
        rw [g3] at q2
        cases q1
        cases q2
        exact pair_rep R hT g2 g4
theorem wk_zipT {a b : Addr} {xs ys : List D} {vs ws : List V} (R0 : Rel K m lh H) (h1 : SqD K H a vs) (h2 : RepVs K m lh.length H xs vs) (h3 : SqD K H b ws) (h4 : RepVs K m lh.length H ys ws) : WkOk K m lh H false (.zip (.tup xs) (.tup ys)) (RZ.ItzT K a b) := by
  intro m' lh' H' i S R
  have a1 := (S.sqD R0 h1).sqT
  have a2 := S.repVs R0 h2
  have b1 := (S.sqD R0 h3).sqT
  have b2 := S.repVs R0 h4
  have get : ∀ r, (Wk.zip (.tup xs) (.tup ys)).nxt i lh' = some r → (match xs[i]?, ys[i]? with | some x, some y => some (D.tup [x, y]) | _, _ => none) = r := by
    intro r h
    have h' : (match xs[i]?, ys[i]? with | some x, some y => some (some (D.tup [x, y])) | _, _ => some none) = some r := h
    revert h'
    cases xs[i]? <;> cases ys[i]? <;> intro h' <;> exact Option.some.inj h'
  refine ⟨fun h => ?_, fun d h => ?_⟩
  · have e := get _ h
    refine ⟨vs, ws, a1, b1, ?_⟩
    rw [← a2.length, ← b2.length]
    cases g : xs[i]? with
    | none => exact .inl (List.getElem?_eq_none_iff.mp g)
    | some x =>
      cases g' : ys[i]? with
      | none => exact .inr (List.getElem?_eq_none_iff.mp g')
      | some y => rw [g, g'] at e; cases e
  · have e := get _ h
    cases g : xs[i]? with
    | none => rw [g] at e; cases e
    | some x =>
      cases g' : ys[i]? with
      | none => rw [g, g'] at e; cases e
      | some y =>
        rw [g, g'] at e
        cases e
        obtain ⟨v, g1, g2⟩ := a2.get g
        obtain ⟨v2, g3, g4⟩ := b2.get g'
        refine ⟨⟨vs, ws, v, v2, a1, b1, g1, g3⟩, fun z H2 yy => ?_⟩
        obtain ⟨T, x', y', rfl, hT, rfl, f1, f2⟩ := yy
        have q1 := f1 vs a1
        have q2 := f2 ws b1
        rw [g1] at q1
        rw [g3] at q2
        cases q1
        cases q2
        exact pair_rep R hT g2 g4

def iValG (K : PySem.W.Frag) (te : TE) : TI := fun σ H Q => te σ H fun x H1 => (∃ a, x = .ref a ∧ (((∃ xs, SqL K H1 a xs) ∧ Q (Itl K a) H1) ∨ ((∃ xs, SqT K H1 a xs) ∧ Q (Itt K a) H1))) ∨ ∃ s, x = .str s ∧ Q (Its s) H1
theorem pi_valG {tg e : PySem.Expr} {te : TE} (he : PE X e te) : PI X tg e (iValG X.K te) := by
  refine ⟨fun pins s σ H Q I h => thn (he.run pins s σ H _ I h) fun v s1 hr => ?_⟩
  obtain ⟨x, H1, I1, r1, q1⟩ := hr
  have near : ∀ b, b ∈ [s1.heap.objs.size] → FpOk X pins H1 b := fun b hb => by
    obtain rfl : b = s1.heap.objs.size := by simpa using hb
    exact I1.fpOk (Nat.le_refl _) (I1.hok.fresh (Nat.le_refl _))
  rcases q1 with ⟨a, rfl, ⟨⟨xs, hq⟩, q⟩ | ⟨⟨xs, hq⟩, q⟩⟩ | ⟨z, rfl, q⟩
  · cases r1
    obtain ⟨us, rv, p, _⟩ := I1.list hq
    exact wpAny_pyIter_list p.isList ⟨s1.heap.objs.size, [s1.heap.objs.size], _, _, H1, rfl, I1.kept (t' := s1.toks) fun b o e => Heap.get?_push_of_some _ e, turn_list a _, ⟨_, Heap.get?_push_size _ rfl, rfl, rfl⟩, near, q⟩
  · cases r1
    obtain ⟨us, rv, p, _⟩ := I1.tuple hq
    exact wpAny_pyIter_tuple (show s1.heap.IsTuple a us.toArray from p) ⟨s1.heap.objs.size, [s1.heap.objs.size], _, _, H1, rfl, I1.kept (t' := s1.toks) fun b o e => Heap.get?_push_of_some _ e, turn_tuple a _, ⟨_, Heap.get?_push_size _ rfl, rfl, rfl⟩, near, q⟩
  · obtain ⟨t, rfl⟩ := r1
    cases ha : z.cps.all (· < 128)
    · exact wpAny_pyIter_wide ha (pi_one (tk := s1.toks) I1 _ (turn_str _ z t "str_iterator" (.inr rfl)) ⟨_, Heap.get?_push_size _ rfl, rfl, rfl⟩ q)
    · exact wpAny_pyIter_ascii ha (pi_one (tk := s1.toks) I1 _ (turn_str _ z t "str_ascii_iterator" (.inl rfl)) ⟨_, Heap.get?_push_size _ rfl, rfl, rfl⟩ q)

section
variable {tg pa pb : PySem.Expr} {ta tb : TrE}
theorem iVal {str : Bool} (ha : PE X pa (tE X.K ta)) : PI X tg pa (tI X.K str fun ls lh => (ta ls lh).bind fun r => match r.1 with
    | .tup xs => .ret (.tup xs, r.2)
    | .str s => .ret (.str s, r.2)
    | .ref k => (match lget r.2 k with
      | some _ => .ret (.lst k, r.2)
      | none => .bad)
    | _ => .bad) :=
  (pi_valG ha).weak fun σ H Q ⟨m, ls, lh, R, S, q⟩ => by
  refine tE_seq R S (T.all_bind.mp q) fun r m1 H1 v p S1 R1 RS1 rv => ?_
  obtain ⟨d, l1⟩ := r
  cases rv with
  | @tup a vs ds h1 h2 => exact .inl ⟨a, rfl, .inr ⟨⟨vs, h1.sqT⟩, (show PostI X.K m lh H str Q (.tup ds, l1) from p) m1 H1 _ S1 R1 (wk_tup R1 h1 h2)⟩⟩
  | str s => exact .inr ⟨s, rfl, (show PostI X.K m lh H str Q (.str s, l1) from p) m1 H1 _ S1 R1 (wk_str s)⟩
  | @ref k hk =>
    simp only at p
    split at p
    · rename_i xs e
      obtain ⟨vs, e1, _⟩ := R1.lst e
      exact .inl ⟨m1 k, rfl, .inl ⟨⟨vs, SqL.of e1⟩, (show PostI X.K m lh H str Q (.lst k, l1) from p) m1 H1 _ S1 R1 (wk_lst k hk)⟩⟩
    · exact p.elim
  | _ => exact p.elim
theorem iRng1 {str : Bool} {p pos : Pos} (hg : Gl X "range") (hm : X.mg "range" = none) (ha : PE X pa (tE X.K ta)) (hs : starEach [pa] X.env = [(false, eval pa X.env)]) : PI X tg (.Call (.Name "range" p) [pa] [] pos) (tI X.K str fun ls lh => (ta ls lh).bind fun r => match r.1 with
    | .int j => if rngOk j then .ret (.rng 0 j.toNat 1, r.2) else .bad
    | _ => .bad) :=
  (pi_range1 hg hm (pa_cons ha pa_nil hs) hs).weak fun σ H Q ⟨m, ls, lh, R, S, q⟩ => by
  refine tE_seq R S (T.all_bind.mp q) fun r m1 H1 v p S1 R1 RS1 rv => ?_
  obtain ⟨d, l1⟩ := r
  cases rv with
  | int j =>
    simp only at p
    split at p
    · rename_i hj
      obtain ⟨h1, h2⟩ := Bool.and_eq_true_iff.mp hj
      exact ⟨j, rfl, of_decide_eq_true h1, of_decide_eq_true h2, (show PostI X.K m lh H str Q (.rng 0 j.toNat 1, l1) from p) m1 H1 _ S1 R1 (wk_rng 0 j.toNat)⟩
    · exact p.elim
  | _ => exact p.elim
theorem iRng2 {str : Bool} {p pos : Pos} (hg : Gl X "range") (hm : X.mg "range" = none) (ha : PE X pa (tE X.K ta)) (hb : PE X pb (tE X.K tb)) (hs : starEach [pa, pb] X.env = [(false, eval pa X.env), (false, eval pb X.env)]) (hs2 : starEach [pb] X.env = [(false, eval pb X.env)]) :
    PI X tg (.Call (.Name "range" p) [pa, pb] [] pos) (tI X.K str fun ls lh => (ta ls lh).bind fun r => (tb ls r.2).bind fun q => match r.1, q.1 with
    | .int i, .int j => if rngOk i && rngOk j then .ret (.rng i (j - i).toNat 1, q.2) else .bad
    | _, _ => .bad) :=
  (pi_range2 hg hm (pa_cons ha (pa_cons hb pa_nil hs2) (by rw [hs, hs2])) hs hs2).weak fun σ H Q ⟨m, ls, lh, R, S, q⟩ => by
  refine tE_seq R S (T.all_bind.mp q) fun r m1 H1 v p S1 R1 RS1 rv => ?_
  refine tE_seq R1 RS1 (T.all_bind.mp p) fun r2 m2 H2 v2 p2 S2 R2 RS2 rv2 => ?_
  obtain ⟨d, l1⟩ := r
  obtain ⟨d2, l2⟩ := r2
  cases rv with
  | int i =>
    cases rv2 with
    | int j =>
      simp only at p2
      split at p2
      · rename_i hj
        obtain ⟨h1, h2⟩ := Bool.and_eq_true_iff.mp hj
        obtain ⟨h3, h4⟩ := Bool.and_eq_true_iff.mp h1
        obtain ⟨h5, h6⟩ := Bool.and_eq_true_iff.mp h2
        exact ⟨i, j, rfl, ⟨of_decide_eq_true h3, of_decide_eq_true h4, of_decide_eq_true h5, of_decide_eq_true h6⟩, (show PostI X.K m lh H str Q (.rng i (j - i).toNat 1, l2) from p2) m2 H2 _ (S1.trans R1 S2) R2 (wk_rng i _)⟩
      · exact p2.elim
    | _ => exact p2.elim
  | _ => exact p2.elim
theorem iRng3 {str : Bool} {pc : PySem.Expr} {c : Int} {p pos : Pos} (hg : Gl X "range") (hm : X.mg "range" = none) (ha : PE X pa (tE X.K ta)) (hb : PE X pb (tE X.K tb)) (hc : PE X pc (tE X.K fun _ lh => .ret (.int c, lh)))
    (hs : starEach [pa, pb, pc] X.env = (false, eval pa X.env) :: starEach [pb, pc] X.env) (hs2 : starEach [pb, pc] X.env = (false, eval pb X.env) :: starEach [pc] X.env) (hs3 : starEach [pc] X.env = [(false, eval pc X.env)]) (hpl : (backTo pos (starEach [pb, pc] X.env)).any (·.1) = false) :
    PI X tg (.Call (.Name "range" p) [pa, pb, pc] [] pos) (tI X.K str fun ls lh => (ta ls lh).bind fun r => (tb ls r.2).bind fun q => match r.1, q.1 with
    | .int i, .int j => if rngOk i && rngOk j && (decide (c = -1)) then .ret (.rng i (i - j).toNat (-1), q.2) else .bad
    | _, _ => .bad) :=
  (pi_range3 hg hm (pa_cons ha (pa_cons hb (pa_cons hc pa_nil hs3) hs2) hs) hs hpl).weak fun σ H Q ⟨m, ls, lh, R, S, q⟩ => by
  refine tE_seq R S (T.all_bind.mp q) fun r m1 H1 v p S1 R1 RS1 rv => ?_
  refine tE_seq R1 RS1 (T.all_bind.mp p) fun r2 m2 H2 v2 p2 S2 R2 RS2 rv2 => ?_
  refine tE_seq (P := fun r => r = (.int c, r2.2)) R2 RS2 rfl fun r3 m3 H3 v3 e3 S3 R3 RS3 rv3 => ?_
  subst e3
  obtain ⟨d, l1⟩ := r
  obtain ⟨d2, l2⟩ := r2
  cases rv3
  cases rv with
  | int i =>
    cases rv2 with
    | int j =>
      simp only at p2
      split at p2
      · rename_i hj
        obtain ⟨hj, h7⟩ := Bool.and_eq_true_iff.mp hj
        obtain ⟨h1, h2⟩ := Bool.and_eq_true_iff.mp hj
        obtain ⟨h3, h4⟩ := Bool.and_eq_true_iff.mp h1
        obtain ⟨h5, h6⟩ := Bool.and_eq_true_iff.mp h2
        have h7 := of_decide_eq_true h7
        subst h7
        exact ⟨i, j, -1, (i - j).toNat, rfl, .neg (of_decide_eq_true h3) (of_decide_eq_true h4) (of_decide_eq_true h5) (of_decide_eq_true h6),
          (show PostI X.K m lh H str Q (.rng i (i - j).toNat (-1), l2) from p2) m3 H3 _ ((S1.trans R1 S2).trans R2 S3) R3 (wk_rngC i (-1) _)⟩
      · exact p2.elim
    | _ => exact p2.elim
  | _ => exact p2.elim
theorem iEnum_ {p pos tpos : Pos} {elts : List PySem.Expr} {kk : Nat} (hg : Gl X "enumerate") (hm : X.mg "enumerate" = none) (ha : PE X pa (tE X.K ta)) (hs : starEach [pa] X.env = [(false, eval pa X.env)]) :
    PI X (.Tuple elts kk tpos) (.Call (.Name "enumerate" p) [pa] [] pos) (tI X.K false fun ls lh => (ta ls lh).bind fun r => match seqOf r.2 r.1 with
    | some _ => .ret (.enum r.1, r.2)
    | none => .bad) :=
  (pi_enumG hg hm (pa_cons ha pa_nil hs) hs).weak fun σ H Q ⟨m, ls, lh, R, S, q⟩ => by
  refine tE_seq R S (T.all_bind.mp q) fun r m1 H1 v p S1 R1 RS1 rv => ?_
  obtain ⟨d, l1⟩ := r
  split at p
  · rename_i xs e
    have p : PostI X.K m lh H false Q (.enum d, l1) := p
    obtain ⟨a, vs, rfl, e2, e3⟩ := R1.sq e rv
    rcases e3 with ⟨rfl, e3⟩ | ⟨k, rfl, rfl, e4, e3⟩
    · exact ⟨a, vs, rfl, .inr ⟨e3.sqT, p m1 H1 _ S1 R1 (wk_enumT R1 e3 e2)⟩⟩
    · exact ⟨m1 k, vs, rfl, .inl ⟨SqL.of e3, p m1 H1 _ S1 R1 (wk_enumL k (lget_some e4).2)⟩⟩
  · exact p.elim
theorem iZip_ {p pos tpos : Pos} {elts : List PySem.Expr} {kk : Nat} (hg : Gl X "zip") (hm : X.mg "zip" = none) (ha : PE X pa (tE X.K ta)) (hb : PE X pb (tE X.K tb)) (hs : starEach [pa, pb] X.env = (false, eval pa X.env) :: starEach [pb] X.env) (hs2 : starEach [pb] X.env = [(false, eval pb X.env)]) (hpl : (backTo pos (starEach [pb] X.env)).any (·.1) = false) :
    PI X (.Tuple elts kk tpos) (.Call (.Name "zip" p) [pa, pb] [] pos) (tI X.K false fun ls lh => (ta ls lh).bind fun r => (tb ls r.2).bind fun q => match r.1, q.1 with
    | .tup _, .tup _ => .ret (.zip r.1 q.1, q.2)
    | .ref k, .ref l => (match lget q.2 k, lget q.2 l with
      | some _, some _ => .ret (.zip r.1 q.1, q.2)
      | _, _ => .bad)
    | _, _ => .bad) :=
  (RZ.pi_zipA hg hm (pa_cons ha (pa_cons hb pa_nil hs2) hs) hs hpl).weak fun σ H Q ⟨m, ls, lh, R, S, q⟩ => by
  refine tE_seq R S (T.all_bind.mp q) fun r m1 H1 v p S1 R1 RS1 rv => ?_
  refine tE_seq R1 RS1 (T.all_bind.mp p) fun r2 m2 H2 v2 p2 S2 R2 RS2 rv2 => ?_
  obtain ⟨d, l1⟩ := r
  obtain ⟨d2, l2⟩ := r2
  have S12 := S1.trans R1 S2
  have rv := S2.repV R1 rv
  cases rv with
  | @tup a vs ds h1 h2 =>
    cases rv2 with
    | @tup b ws es h3 h4 => exact ⟨a, b, vs, ws, rfl, .inr ⟨h1.sqT, h3.sqT, (show PostI X.K m lh H false Q (.zip (.tup ds) (.tup es), l2) from p2) m2 H2 _ S12 R2 (wk_zipT R2 h1 h2 h3 h4)⟩⟩
    | _ => exact p2.elim
  | @ref k hk =>
    cases rv2 with
    | @ref l hl =>
      simp only at p2
      split at p2
      · rename_i xs ys e e'
        obtain ⟨vs, a1, _⟩ := R2.lst e
        obtain ⟨ws, b1, _⟩ := R2.lst e'
        exact ⟨m2 k, m2 l, vs, ws, rfl, .inl ⟨SqL.of a1, SqL.of b1, (show PostI X.K m lh H false Q (.zip (.ref k) (.ref l), l2) from p2) m2 H2 _ S12 R2 (wk_zipL k l hk hl)⟩⟩
      · exact p2.elim
    | _ => exact p2.elim
  | _ => cases rv2 <;> exact p2.elim
end
end G

set_option maxHeartbeats 4000000
namespace G
open PySem L2
variable {K : PySem.W.Frag} {m m' m2 : Nat → Addr} {n n' : Nat} {H H' H2 : Hp} {lh lh' lh2 : LH} {X : Cx} {σ : L2.St} {ls : LS}

/-! ### targets -/
abbrev TrG := D → LS → LH → T (LS × LH)
abbrev TrGs := List D → LS → LH → T (LS × LH)
def PostG (K : PySem.W.Frag) (m : Nat → Addr) (lh : LH) (H : Hp) (Q : L2.St → Hp → Prop) (r : LS × LH) : Prop :=
  ∀ m' H' σ', Step m lh H m' r.2 H' → Rel K m' r.2 H' → RelS K m' r.2.length H' r.1 σ' → Q σ' H'
def tG (K : PySem.W.Frag) (str : Bool) (t : TrG) : TG := fun v σ H Q => ∃ m ls lh d, Rel K m lh H ∧ RelS K m lh.length H ls σ ∧ RepW K m lh.length H str d v ∧ (t d ls lh).All (PostG K m lh H Q)
def tGs (K : PySem.W.Frag) (t : TrGs) : TGs := fun vs σ H Q => ∃ m ls lh ds, Rel K m lh H ∧ RelS K m lh.length H ls σ ∧ RepVs K m lh.length H ds vs ∧ (t ds ls lh).All (PostG K m lh H Q)
theorem _root_.L2.PG.weak {e : PySem.Expr} {t t' : TG} (h : PG X e t) (w : ∀ v σ H Q, t' v σ H Q → t v σ H Q) : PG X e t' := ⟨fun pins s σ H v u Q I r q => h.run pins s σ H v u Q I r (w v σ H Q q)⟩
theorem _root_.L2.PGs.weak {e : List PySem.Expr} {t t' : TGs} (h : PGs X e t) (w : ∀ v σ H Q, t' v σ H Q → t v σ H Q) : PGs X e t' := ⟨fun pins s σ H v u Q I r q => h.run pins s σ H v u Q I r (w v σ H Q q)⟩
theorem allG_step {Q : L2.St → Hp → Prop} {t : T (LS × LH)} (S : Step m lh H m' lh' H') (R : Rel K m' lh' H') (h : t.All (PostG K m lh H Q)) : t.All (PostG K m' lh' H' Q) :=
  h.mono fun r q m2 H2 σ2 S2 R2 rs => q m2 H2 σ2 (S.trans R S2) R2 rs

theorem RepW.strong {d : D} {v : V} (h : RepW K m n H true d v) : RepV K m n H d v := by
  rcases h with h | ⟨h, _⟩
  · exact h
  · cases h
theorem gNameG {i : Nat} {e : PySem.Expr} (h : PG X e (gName i)) : PG X e (tG X.K true fun d ls lh => .ret (ls.set i (some d), lh)) :=
  h.weak fun v σ H Q ⟨m, ls, lh, d, R, S, rv, q⟩ => (show PostG X.K m lh H Q (ls.set i (some d), lh) from q) m H _ .refl R (S.set rv.strong i)
theorem gTupG {es : List PySem.Expr} {k nn : Nat} {pos : Pos} {ts : TrGs} (hc : X.calm = true) (h : PGs X es (tGs X.K ts)) (hn : (assignEach es X.env).length = nn) (hst : (assignEach es X.env).findIdx? (·.1) = none) :
    PG X (.Tuple es k pos) (tG X.K false fun d ls lh => match d with
      | .tup xs => if xs.length = nn then ts xs ls lh else .bad
      | _ => .bad) :=
  (pg_tup hc h hn hst).weak fun v σ H Q ⟨m, ls, lh, d, R, S, rv, q⟩ => by
  have fin : ∀ ds a vs, d = .tup ds → v = .ref a → SqT X.K H a vs → RepVs X.K m lh.length H ds vs → gTup X.K nn (tGs X.K ts) v σ H Q := by
    intro ds a vs e1 e2 h1 h2
    subst e1 e2
    simp only at q
    split at q
    · rename_i hl
      exact ⟨a, vs, rfl, h1, by rw [← h2.length]; exact hl, m, ls, lh, ds, R, S, h2, q⟩
    · exact q.elim
  rcases rv with rv | ⟨_, ds, a, vs, e1, e2, h1, h2⟩
  · cases rv with
    | @tup a vs ds h1 h2 => exact fin ds a vs rfl rfl h1.sqT h2
    | _ => exact q.elim
  · exact fin ds a vs e1 e2 h1 h2
theorem gsNil : PGs X [] (tGs X.K fun ds ls lh => match ds with
    | [] => .ret (ls, lh)
    | _ :: _ => .bad) :=
  pgs_nil.weak fun vs σ H Q ⟨m, ls, lh, ds, R, S, rv, q⟩ => by
  cases rv with
  | nil => exact ⟨rfl, (show PostG X.K m lh H Q (ls, lh) from q) m H σ .refl R S⟩
  | cons _ _ => exact q.elim
theorem gsCons {str : Bool} {e : PySem.Expr} {es : List PySem.Expr} {t : TrG} {ts : TrGs} (h : PGs X (e :: es) (gCons (tG X.K str t) (tGs X.K ts))) : PGs X (e :: es) (tGs X.K fun ds ls lh => match ds with
    | d :: ds => (t d ls lh).bind fun r => ts ds r.1 r.2
    | [] => .bad) :=
  h.weak fun vs σ H Q ⟨m, ls, lh, ds, R, S, rv, q⟩ => by
  cases rv with
  | nil => exact q.elim
  | @cons d v ds vs r1 r2 =>
    refine ⟨v, vs, rfl, m, ls, lh, d, R, S, .inl r1, (T.all_bind.mp q).mono fun r p m1 H1 σ1 S1 R1 RS1 => ?_⟩
    exact ⟨m1, r.1, r.2, ds, R1, RS1, S1.repVs R r2, allG_step S1 R1 p⟩
theorem gSubG {o i : PySem.Expr} {to ti : TrE} {pos : Pos} (h : PG X (.Subscript o i pos) (gSub (tE X.K to) (tE X.K ti) rSetL)) : PG X (.Subscript o i pos) (tG X.K true fun d ls lh => (to ls lh).bind fun r => (ti ls r.2).bind fun q => match r.1, q.1 with
    | .ref k, .int j => (match lget q.2 k with
      | some xs => (match L2.ixN xs.length j with
        | some n => .ret (ls, q.2.set k (.lst (xs.set n d)))
        | none => .bad)
      | none => .bad)
    | _, _ => .bad) :=
  h.weak fun v σ H Q ⟨m, ls, lh, d, R, S, rv, q⟩ => by
  refine tE_seq R S (T.all_bind.mp q) fun r m1 H1 v1 p S1 R1 RS1 rv1 => ?_
  refine tE_seq R1 RS1 (T.all_bind.mp p) fun r2 m2 H2 v2 p2 S2 R2 RS2 rv2 => ?_
  obtain ⟨d1, l1⟩ := r
  obtain ⟨d2, l2⟩ := r2
  have S12 := S1.trans R1 S2
  have rv1 := S2.repV R1 rv1
  have rvd := S12.repV R rv.strong
  cases rv1 with
  | @ref k hk =>
    cases rv2 with
    | int j =>
      simp only at p2
      split at p2
      · rename_i xs e
        split at p2
        · rename_i nn en
          obtain ⟨vs, a1, a2⟩ := R2.lst e
          obtain ⟨R3, S3⟩ := R2.put e (a2.set rvd nn)
          rw [a2.length] at en
          exact ⟨m2 k, vs, j, nn, rfl, rfl, a1, en, (show PostG X.K m lh H Q (ls, l2.set k (.lst (xs.set nn d))) from p2) m2 _ σ (S12.trans R2 S3) R3 (S3.relS R2 RS2)⟩
        · exact p2.elim
      · exact p2.elim
    | _ => exact p2.elim
  | _ => cases rv2 <;> exact p2.elim

/-! ### statements -/
abbrev TrS := LS → LH → T R3
theorem tS_of {t : TrS} {D : Ends} (R : Rel K m lh H) (S : RelS K m lh.length H ls σ) (h : (t ls lh).All (PostS K m lh H D)) : tS K t D σ H := ⟨m, ls, lh, R, S, h⟩
section
variable {pa pb : PySem.Expr} {ta tb : TrE} {pos : Pos}
theorem sAsg {str : Bool} {st : PySem.Stmt} {g : TrG} (h : PS X st (tAsg (tE X.K ta) (tG X.K str g))) : PS X st (tS X.K fun ls lh => (ta ls lh).bind fun r => (g r.1 ls r.2).bind fun q => .ret (.nx, q.1, q.2)) :=
  h.weak fun D σ H ⟨m, ls, lh, R, S, q⟩ => by
  refine tE_seq R S (T.all_bind.mp q) fun r m1 H1 v p S1 R1 RS1 rv => ?_
  refine ⟨m1, ls, r.2, r.1, R1, RS1, .inl rv, (T.all_bind.mp p).mono fun r2 p2 m2 H2 σ2 S2 R2 RS2 => ?_⟩
  exact (show PostS X.K m lh H D (.nx, r2.1, r2.2) from p2) m2 H2 σ2 (S1.trans R1 S2) R2 RS2
theorem sPar {i j : Nat} {st : PySem.Stmt} (h : PS X st (tPar i j (tCons (tE X.K ta) (tCons (tE X.K tb) tNil)))) : PS X st (tS X.K fun ls lh => (ta ls lh).bind fun r => (tb ls r.2).bind fun q => .ret (.nx, (ls.set i (some r.1)).set j (some q.1), q.2)) :=
  h.weak fun D σ H ⟨m, ls, lh, R, S, q⟩ => by
  refine tE_seq R S (T.all_bind.mp q) fun r m1 H1 v p S1 R1 RS1 rv => ?_
  refine tE_seq R1 RS1 (T.all_bind.mp p) fun r2 m2 H2 v2 p2 S2 R2 RS2 rv2 => ?_
  exact ⟨v, v2, rfl, (show PostS X.K m lh H D (.nx, (ls.set i (some r.1)).set j (some r2.1), r2.2) from p2) m2 H2 _ (S1.trans R1 S2) R2 ((RS2.set (S2.repV R1 rv) i).set rv2 j)⟩
theorem sAug {i : Nat} (op : Bop) {st : PySem.Stmt} (h : PS X st (tAug i (tE X.K ta) (rA X.K op))) : PS X st (tS X.K fun ls lh => match ls[i]? with
    | some (some x) => (ta ls lh).bind fun r => (opA op x r.1 r.2).bind fun q => .ret (.nx, ls.set i (some q.1), q.2)
    | _ => .bad) :=
  h.weak fun D σ H ⟨m, ls, lh, R, S, q⟩ => by
  simp only at q
  split at q
  · rename_i x e
    obtain ⟨vx, e1, rx⟩ := S.at_ i x e
    refine ⟨vx, e1, tE_seq R S (T.all_bind.mp q) fun r m1 H1 v p S1 R1 RS1 rv => ?_⟩
    refine ad_A op m1 r.2 H1 x r.1 vx v _ R1 (S1.repV R rx) rv ((T.all_bind.mp p).mono fun r2 p2 m2 H2 v2 S2 R2 rv2 => ?_)
    exact (show PostS X.K m lh H D (.nx, ls.set i (some r2.1), r2.2) from p2) m2 H2 _ (S1.trans R1 S2) R2 ((S2.relS R1 RS1).set rv2 i)
  · exact q.elim
theorem sExpr (h : PS X (.Expr pa pos) (tDrop (tE X.K ta))) : PS X (.Expr pa pos) (tS X.K fun ls lh => (ta ls lh).bind fun r => .ret (.nx, ls, r.2)) :=
  h.weak fun D σ H ⟨m, ls, lh, R, S, q⟩ => tE_seq R S (T.all_bind.mp q) fun r m1 H1 v p S1 R1 RS1 rv => (show PostS X.K m lh H D (.nx, ls, r.2) from p) m1 H1 σ S1 R1 RS1
theorem sRet (ha : PE X pa (tE X.K ta)) : PS X (.Return (some pa) pos) (tS X.K fun ls lh => (ta ls lh).bind fun r => .ret (.ret r.1, ls, r.2)) :=
  (ps_ret ha).weak fun D σ H ⟨m, ls, lh, R, S, q⟩ => tE_seq R S (T.all_bind.mp q) fun r m1 H1 v p S1 R1 RS1 rv => (show PostS X.K m lh H D (.ret r.1, ls, r.2) from p) m1 H1 σ S1 R1 RS1 v rv
theorem sRetN : PS X (.Return none pos) (tS X.K fun ls lh => .ret (.ret .non, ls, lh)) :=
  ps_retN.weak fun D σ H ⟨m, ls, lh, R, S, q⟩ => (show PostS X.K m lh H D (.ret .non, ls, lh) from q) m H σ .refl R S .non .non
theorem sBrk : PS X (.Break pos) (tS X.K fun ls lh => .ret (.brk, ls, lh)) :=
  ps_break.weak fun D σ H ⟨m, ls, lh, R, S, q⟩ => (show PostS X.K m lh H D (.brk, ls, lh) from q) m H σ .refl R S
theorem sCont : PS X (.Continue pos) (tS X.K fun ls lh => .ret (.cont, ls, lh)) :=
  ps_continue.weak fun D σ H ⟨m, ls, lh, R, S, q⟩ => (show PostS X.K m lh H D (.cont, ls, lh) from q) m H σ .refl R S
theorem sPass : PS X (.Pass pos) (tS X.K fun ls lh => .ret (.nx, ls, lh)) :=
  ps_pass.weak fun D σ H ⟨m, ls, lh, R, S, q⟩ => (show PostS X.K m lh H D (.nx, ls, lh) from q) m H σ .refl R S
theorem ssNil : PSs X [] (tS X.K fun ls lh => .ret (.nx, ls, lh)) :=
  pss_nil.weak fun D σ H ⟨m, ls, lh, R, S, q⟩ => (show PostS X.K m lh H D (.nx, ls, lh) from q) m H σ .refl R S
theorem ssCons {st : PySem.Stmt} {r : List PySem.Stmt} {t u : TrS} (h1 : PS X st (tS X.K t)) (h2 : PSs X r (tS X.K u)) : PSs X (st :: r) (tS X.K fun ls lh => (t ls lh).bind fun q => match q.1 with
    | .nx => u q.2.1 q.2.2
    | fl => .ret (fl, q.2.1, q.2.2)) :=
  (pss_cons h1 h2).weak fun D σ H ⟨m, ls, lh, R, S, q⟩ => by
  refine ⟨m, ls, lh, R, S, (T.all_bind.mp q).mono fun r p m1 H1 σ1 S1 R1 RS1 => ?_⟩
  obtain ⟨fl, ls1, l1⟩ := r
  cases fl with
  | nx => exact ⟨m1, ls1, l1, R1, RS1, allS_step S1 R1 p⟩
  | brk => exact (show PostS X.K m lh H D (.brk, ls1, l1) from p) m1 H1 σ1 S1 R1 RS1
  | cont => exact (show PostS X.K m lh H D (.cont, ls1, l1) from p) m1 H1 σ1 S1 R1 RS1
  | ret d => exact (show PostS X.K m lh H D (.ret d, ls1, l1) from p) m1 H1 σ1 S1 R1 RS1
theorem sIf {pc : PySem.Expr} {a b : List PySem.Stmt} {tt : TrT} {t u : TrS} (hc : PT X pc (tT X.K tt)) (h1 : PSs X a (tS X.K t)) (h2 : PSs X b (tS X.K u)) : PS X (.If pc a b pos) (tS X.K fun ls lh => (tt ls lh).bind fun r => if r.1 then t ls r.2 else u ls r.2) :=
  (ps_if hc h1 h2).weak fun D σ H ⟨m, ls, lh, R, S, q⟩ => by
  refine tT_seq R S (T.all_bind.mp q) fun r m1 H1 p S1 R1 RS1 => ?_
  obtain ⟨c, l1⟩ := r
  have p := allS_step S1 R1 p
  cases c with
  | true => exact iteT ⟨m1, ls, l1, R1, RS1, p⟩
  | false => exact iteF ⟨m1, ls, l1, R1, RS1, p⟩
end

/-! ### loops -/
theorem sFor {str : Bool} {tg it : PySem.Expr} {body : List PySem.Stmt} {pos : Pos} {ti : TrI} {g : TrG} {tb : TrS} (h : PS X (.For tg it body [] pos) (tFor (tI X.K str ti) (tG X.K str g) (tS X.K tb))) :
    PS X (.For tg it body [] pos) (tS X.K fun ls lh => (ti ls lh).bind fun r => forL r.1 (fun d ls lh => (g d ls lh).bind fun q => tb q.1 q.2) (r.1.fuel r.2) 0 ls r.2) :=
  h.weak fun D σ H ⟨m, ls, lh, R, S, q⟩ => by
  refine ⟨m, ls, lh, R, S, (T.all_bind.mp q).mono fun r p m1 H1 J S1 R1 hJ => ?_⟩
  refine ⟨fun i f σ' H' => ∃ m' ls' lh', Step m lh H m' lh' H' ∧ Rel X.K m' lh' H' ∧ RelS X.K m' lh'.length H' ls' σ' ∧ WkOk X.K m' lh' H' str r.1 J ∧ (forL r.1 (fun d ls lh => (g d ls lh).bind fun q => tb q.1 q.2) f i ls' lh').All (PostS X.K m lh H D),
    ⟨r.1.fuel r.2, m1, ls, r.2, S1, R1, S1.relS R S, hJ, p⟩, fun i f σ' H' hw => ?_⟩
  obtain ⟨m', ls', lh', S', R', RS', hJ', p'⟩ := hw
  cases f with
  | zero => exact p'.elim
  | succ f =>
    unfold forL at p'
    obtain ⟨j1, j2⟩ := hJ' m' lh' H' i .refl R'
    split at p'
    · exact p'.elim
    · rename_i e
      exact .inl ⟨j1 e, (show PostS X.K m lh H D (.nx, ls', lh') from p') m' H' σ' S' R' RS'⟩
    · rename_i d e
      obtain ⟨g1, g2⟩ := j2 d e
      refine .inr ⟨g1, fun σ'' H'' => ∃ m'' ls'' lh'', Step m lh H m'' lh'' H'' ∧ Rel X.K m'' lh'' H'' ∧ RelS X.K m'' lh''.length H'' ls'' σ'' ∧ WkOk X.K m'' lh'' H'' str r.1 J ∧
        (forL r.1 (fun d ls lh => (g d ls lh).bind fun q => tb q.1 q.2) f (i + 1) ls'' lh'').All (PostS X.K m lh H D), fun σ'' H'' hn => ⟨f, Nat.lt_succ_self f, hn⟩, fun x H2 hy => ?_⟩
      obtain ⟨R2, S2, rw2⟩ := g2 x H2 hy
      refine ⟨m', ls', lh', d, R2, S2.relS R' RS', rw2, (T.all_bind.mp (T.all_bind.mp p')).mono fun r3 p3 m3 H3 σ3 S3 R3 RS3 => ?_⟩
      have S13 := (S'.trans R' S2).trans R2 S3
      refine ⟨m3, r3.1, r3.2, R3, RS3, p3.mono fun r4 p4 m4 H4 σ4 S4 R4 RS4 => ?_⟩
      obtain ⟨fl, ls4, l4⟩ := r4
      have S14 := S13.trans R3 S4
      have hJ4 : WkOk X.K m4 l4 H4 str r.1 J := hJ'.step ((S2.trans R2 S3).trans R3 S4) R4
      cases fl with
      | nx => exact ⟨m4, ls4, l4, S14, R4, RS4, hJ4, p4⟩
      | cont => exact ⟨m4, ls4, l4, S14, R4, RS4, hJ4, p4⟩
      | brk => exact (show PostS X.K m lh H D (.nx, ls4, l4) from p4) m4 H4 σ4 S14 R4 RS4
      | ret v => exact (show PostS X.K m lh H D (.ret v, ls4, l4) from p4) m4 H4 σ4 S14 R4 RS4
theorem sWhile {c : PySem.Expr} {body : List PySem.Stmt} {pos : Pos} {tt : TrT} {tb : TrS} {fuel : Nat} (h : PS X (.While c body [] pos) (tWhile (tT X.K tt) (tS X.K tb))) : PS X (.While c body [] pos) (tS X.K fun ls lh => whileL tt tb fuel ls lh) :=
  h.weak fun D σ H ⟨m, ls, lh, R, S, q⟩ => by
  refine ⟨fun f σ' H' => ∃ m' ls' lh', Step m lh H m' lh' H' ∧ Rel X.K m' lh' H' ∧ RelS X.K m' lh'.length H' ls' σ' ∧ (whileL tt tb f ls' lh').All (PostS X.K m lh H D), ⟨fuel, m, ls, lh, .refl, R, S, q⟩, fun f σ' H' hw => ?_⟩
  obtain ⟨m', ls', lh', S', R', RS', p'⟩ := hw
  cases f with
  | zero => exact (show False from p').elim
  | succ f =>
    unfold whileL at p'
    refine tT_seq R' RS' (T.all_bind.mp p') fun r m1 H1 p S1 R1 RS1 => ?_
    obtain ⟨b, l1⟩ := r
    have S01 := S'.trans R' S1
    cases b with
    | false => exact iteF ((show PostS X.K m lh H D (.nx, ls', l1) from p) m1 H1 σ' S01 R1 RS1)
    | true =>
      refine iteT ⟨fun σ'' H'' => ∃ m'' ls'' lh'', Step m lh H m'' lh'' H'' ∧ Rel X.K m'' lh'' H'' ∧ RelS X.K m'' lh''.length H'' ls'' σ'' ∧ (whileL tt tb f ls'' lh'').All (PostS X.K m lh H D), fun σ'' H'' hn => ⟨f, Nat.lt_succ_self f, hn⟩, ?_⟩
      refine ⟨m1, ls', l1, R1, RS1, (T.all_bind.mp p).mono fun r4 p4 m4 H4 σ4 S4 R4 RS4 => ?_⟩
      obtain ⟨fl, ls4, l4⟩ := r4
      have S14 := S01.trans R1 S4
      cases fl with
      | nx => exact ⟨m4, ls4, l4, S14, R4, RS4, p4⟩
      | cont => exact ⟨m4, ls4, l4, S14, R4, RS4, p4⟩
      | brk => exact (show PostS X.K m lh H D (.nx, ls4, l4) from p4) m4 H4 σ4 S14 R4 RS4
      | ret v => exact (show PostS X.K m lh H D (.ret v, ls4, l4) from p4) m4 H4 σ4 S14 R4 RS4

/-! ### comprehensions -/
theorem wipe_out {σ : L2.St} {i : Nat} {v : Option V} : ∀ {vs : List Nat}, i ∈ vs → L2.wipe (σ.set i v) vs = L2.wipe σ vs := by
  have one : ∀ ws : List Nat, (L2.wipe (σ.set i v) ws).set i none = (L2.wipe σ ws).set i none := by
    intro ws
    induction ws with
    | nil => unfold L2.wipe; rw [List.set_set]
    | cons w ws ih =>
      unfold L2.wipe
      by_cases hw : w = i
      · subst hw; rw [List.set_set, List.set_set]; exact ih
      · rw [List.set_comm _ _ hw, List.set_comm _ _ hw, ih]
  intro vs
  induction vs with
  | nil => intro h; cases h
  | cons w ws ih =>
    intro h
    unfold L2.wipe
    by_cases hi : i ∈ ws
    · rw [ih hi]
    · have e : i = w := by
        rcases List.mem_cons.mp h with e | h
        · exact e
        · exact absurd h hi
      subst e
      exact one ws
theorem wipe_idem {σ : L2.St} : ∀ {vs : List Nat} {ws : List Nat}, (∀ i, i ∈ ws → i ∈ vs) → L2.wipe (L2.wipe σ ws) vs = L2.wipe σ vs
  | vs, [], _ => rfl
  | vs, w :: ws, h => by
    rw [show L2.wipe σ (w :: ws) = (L2.wipe σ ws).set w none from rfl, wipe_out (h w List.mem_cons_self)]
    exact wipe_idem fun i hi => h i (List.mem_cons_of_mem _ hi)
mutual
/-- a target of names: its reading; the names' slots -/
def gOf (K : PySem.W.Frag) : Tg → TG
  | .name i => gName i
  | .tup ts => gTup K ts.len (gsOf K ts)
  | .sub _ _ => fun _ _ _ _ => False
def gsOf (K : PySem.W.Frag) : Tgs → TGs
  | .nil => gNil
  | .cons t ts => gCons (gOf K t) (gsOf K ts)
end
mutual
def Tg.slots : Tg → List Nat
  | .name i => [i]
  | .tup ts => ts.slots
  | .sub _ _ => []
def Tgs.slots : Tgs → List Nat
  | .nil => []
  | .cons t ts => t.slots ++ ts.slots
end
def Tg.isName : Tg → Bool
  | .name _ => true
  | _ => false
mutual
theorem gOf_ok {vs : List Nat} : ∀ (tg : Tg) (d : D) (v : V) (ls ls' : LS) (σ : L2.St) (Q : L2.St → Hp → Prop), bindT tg d ls = some ls' → RelS K m n H ls σ → RepW K m n H tg.isName d v → (∀ i, i ∈ tg.slots → i ∈ vs) →
    (∀ σ', RelS K m n H ls' σ' → L2.wipe σ' vs = L2.wipe σ vs → Q σ' H) → gOf K tg v σ H Q
  | .name i, d, v, ls, ls', σ, Q, h, S, rv, hs, q => by
    unfold bindT at h
    cases h
    show Q (σ.set i (some v)) H
    exact q _ (S.set rv.strong i) (wipe_out (hs i (by unfold Tg.slots; simp)))
  | .tup ts, d, v, ls, ls', σ, Q, h, S, rv, hs, q => by
    have fin : ∀ ds a ws, d = .tup ds → v = .ref a → SqT K H a ws → RepVs K m n H ds ws → gTup K ts.len (gsOf K ts) v σ H Q := by
      intro ds a ws e1 e2 h1 h2
      subst e1 e2
      unfold bindT at h
      simp only at h
      split at h
      · rename_i hl
        exact ⟨a, ws, rfl, h1, by rw [← h2.length]; exact hl, gsOf_ok ts ds ws ls ls' σ Q h S h2 (fun i hi => hs i (by unfold Tg.slots; exact hi)) q⟩
      · cases h
    unfold gOf
    rcases rv with rv | ⟨_, ds, a, ws, e1, e2, h1, h2⟩
    · cases rv with
      | @tup a ws ds h1 h2 => exact fin ds a ws rfl rfl h1.sqT h2
      | _ => unfold bindT at h; simp only at h; cases h
    · exact fin ds a ws e1 e2 h1 h2
  | .sub _ _, d, v, ls, ls', σ, Q, h, S, rv, hs, q => by unfold bindT at h; cases h
theorem gsOf_ok {vs : List Nat} : ∀ (ts : Tgs) (ds : List D) (ws : List V) (ls ls' : LS) (σ : L2.St) (Q : L2.St → Hp → Prop), bindTs ts ds ls = some ls' → RelS K m n H ls σ → RepVs K m n H ds ws → (∀ i, i ∈ ts.slots → i ∈ vs) →
    (∀ σ', RelS K m n H ls' σ' → L2.wipe σ' vs = L2.wipe σ vs → Q σ' H) → gsOf K ts ws σ H Q
  | .nil, ds, ws, ls, ls', σ, Q, h, S, rv, hs, q => by
    unfold bindTs at h
    cases rv with
    | nil => cases h; exact ⟨rfl, q σ S rfl⟩
    | cons _ _ => cases h
  | .cons t ts, ds, ws, ls, ls', σ, Q, h, S, rv, hs, q => by
    unfold bindTs at h
    cases rv with
    | nil => cases h
    | @cons d v ds vs' r1 r2 =>
      simp only at h
      split at h
      · rename_i ls1 e1
        refine ⟨v, vs', rfl, gOf_ok t d v ls ls1 σ _ e1 S (.inl r1) (fun i hi => hs i (by unfold Tgs.slots; exact List.mem_append_left _ hi)) fun σ1 S1 w1 => ?_⟩
        exact gsOf_ok ts ds vs' ls1 ls' σ1 Q h S1 r2 (fun i hi => hs i (by unfold Tgs.slots; exact List.mem_append_right _ hi)) fun σ2 S2 w2 => q σ2 S2 (w2.trans w1)
      · cases h
end

/-- a list outside is rewritten -/
theorem Rel.outside (R : Rel K m lh H) {D' : Addr} {ws us : List V} (hD : H D' = some (.lst ws)) (ho : ∀ k, k < lh.length → m k ≠ D') :
    Rel K m lh (upd H D' (.lst us)) ∧ (∀ {d v}, RepV K m lh.length H d v → RepV K m lh.length (upd H D' (.lst us)) d v) ∧ (∀ {d v}, RepVs K m lh.length H d v → RepVs K m lh.length (upd H D' (.lst us)) d v) := by
  have hd : ∀ a vs, SqD K H a vs → SqD K (upd H D' (.lst us)) a vs := fun a vs h => by
    rcases h with ⟨o, e, h2⟩ | h
    · exact .inl ⟨o, by rw [upd_ne (fun z => by rw [z, hD] at e; cases e)]; exact e, h2⟩
    · exact .inr h
  have hf : ∀ a vs, SqF K H a vs → SqF K (upd H D' (.lst us)) a vs := fun a vs h => by
    rcases h with ⟨o, e⟩ | h
    · exact .inl ⟨o, by rw [upd_ne (fun z => by rw [z, hD] at e; cases e)]; exact e⟩
    · exact .inr h
  have c1 : ∀ {d v}, RepV K m lh.length H d v → RepV K m lh.length (upd H D' (.lst us)) d v := fun h => h.to (fun _ _ => rfl) (Nat.le_refl _) hd hf
  have c2 : ∀ {d v}, RepVs K m lh.length H d v → RepVs K m lh.length (upd H D' (.lst us)) d v := fun h => h.to (fun _ _ => rfl) (Nat.le_refl _) hd hf
  refine ⟨⟨fun i u e => ?_, R.inj⟩, c1, c2⟩
  have hil : i < lh.length := (List.getElem?_eq_some_iff.mp e).1
  have hne := ho i hil
  have q := R.obj i u e
  cases u with
  | lst ds => obtain ⟨vs, h1, h2⟩ := q; exact ⟨vs, by rw [upd_ne hne]; exact h1, c2 h2⟩
  | dct kvs => exact q.elim
  | st a => obtain ⟨i', j, c, ha, h1, h2⟩ := q; exact ⟨i', j, c, ha, by rw [upd_ne hne]; exact h1, h2⟩
  | opq => obtain ⟨ns, h1⟩ := q; exact ⟨ns, by rw [upd_ne hne]; exact h1⟩
theorem RelS.outside {D' : Addr} {ws us : List V} (S : RelS K m lh.length H ls σ) (R : Rel K m lh H) (hD : H D' = some (.lst ws)) (ho : ∀ k, k < lh.length → m k ≠ D') : RelS K m lh.length (upd H D' (.lst us)) ls σ :=
  ⟨S.len, fun i d e => let ⟨v, e1, r⟩ := S.at_ i d e; ⟨v, e1, (R.outside (us := us) hD ho).2.1 r⟩⟩
theorem Step.outside (S : Step m lh H m' lh' H') {D' : Addr} {w : HO} (hD : H D' = none) : Step m lh H m' lh' (upd H' D' w) :=
  ⟨S.ext, S.len, S.fresh, fun b o h hx => by rw [upd_ne (fun e => by rw [e, hD] at h; cases h)]; exact S.frame b o h hx⟩
/-- a list outside gets a place -/
theorem Rel.adopt (R : Rel K m lh H) {D' : Addr} {ds : List D} {ws : List V} (hD : H D' = some (.lst ws)) (ho : ∀ k, k < lh.length → m k ≠ D') (r : RepVs K m lh.length H ds ws) : Rel K (extM m lh.length D') (lh ++ [.lst ds]) H := by
  have hl : (lh ++ [LO.lst ds]).length = lh.length + 1 := by simp
  have old : ∀ k, k < lh.length → extM m lh.length D' k = m k := fun k hk => by unfold extM; rw [if_neg (Nat.ne_of_lt hk)]
  have new_ : extM m lh.length D' lh.length = D' := by unfold extM; rw [if_pos rfl]
  have c2 : ∀ {d v}, RepVs K m lh.length H d v → RepVs K (extM m lh.length D') (lh ++ [LO.lst ds]).length H d v := fun h => h.to old (by omega) (fun _ _ x => x) (fun _ _ x => x)
  refine ⟨fun k u e => ?_, fun i j hi hj e => ?_⟩
  · by_cases hk : k < lh.length
    · rw [List.getElem?_append_left hk] at e
      have q := R.obj k u e
      rw [old k hk]
      cases u with
      | lst ds' => obtain ⟨vs, h1, h2⟩ := q; exact ⟨vs, h1, c2 h2⟩
      | dct kvs => exact q.elim
      | st a => obtain ⟨i, j, c, ha, h1, h2⟩ := q; exact ⟨i, j, c, by omega, by rw [old a ha]; exact h1, h2⟩
      | opq => exact q
    · have hk2 : k < (lh ++ [LO.lst ds]).length := (List.getElem?_eq_some_iff.mp e).1
      have ek : k = lh.length := by omega
      subst ek
      rw [List.getElem?_append_right (Nat.le_refl _)] at e
      simp only [Nat.sub_self, List.getElem?_cons_zero, Option.some.injEq] at e
      subst e
      rw [new_]
      exact ⟨ws, hD, c2 r⟩
  · rw [hl] at hi hj
    by_cases h1 : i < lh.length
    · by_cases h2 : j < lh.length
      · rw [old i h1, old j h2] at e; exact R.inj i j h1 h2 e
      · have ej : j = lh.length := by omega
        subst ej
        rw [old i h1, new_] at e
        exact (ho i h1 e).elim
    · have ei : i = lh.length := by omega
      subst ei
      rw [new_] at e
      by_cases h2 : j < lh.length
      · rw [old j h2] at e; exact (ho j h2 e.symm).elim
      · omega
theorem Step.none_of (S : Step m lh H m' lh' H') (R' : Rel K m' lh' H') {D' : Addr} (h : H' D' = none) : H D' = none := by
  cases e : H D' with
  | none => rfl
  | some o =>
    exfalso
    by_cases hx : ∃ k, k < lh.length ∧ m k = D'
    · obtain ⟨k, hk, e2⟩ := hx
      obtain ⟨vs, e3⟩ := R'.some_ (Nat.lt_of_lt_of_le hk S.len)
      rw [S.ext k hk, e2, h] at e3
      cases e3
    · rw [S.frame _ o e fun k hk e2 => hx ⟨k, hk, e2⟩] at h; cases h
/-- what is outside stays outside, and stays -/
theorem Step.out (S : Step m lh H m' lh' H') {D' : Addr} {w : HO} (hD : H D' = some w) (ho : ∀ k, k < lh.length → m k ≠ D') : H' D' = some w ∧ ∀ k, k < lh'.length → m' k ≠ D' := by
  refine ⟨S.frame _ _ hD ho, fun k hk e => ?_⟩
  by_cases h : k < lh.length
  · rw [S.ext k h] at e; exact ho k h e
  · have q := S.fresh k (Nat.le_of_not_lt h) hk
    rw [e, hD] at q; cases q

theorem compB_some {tg : Tg} {own : List (Str × Nat)} {tc : TrT} {te : TrE} {d : D} {ls' : LS} (e : bindT tg d (wipeD ls own) = some ls') :
    compB tg own tc te ls d lh = (tc ls' lh).bind fun b => if b.1 then (te ls' b.2).bind fun x => .ret (some x.1, x.2) else .ret (none, b.2) := by
  unfold compB
  rw [e]
theorem compB_none {tg : Tg} {own : List (Str × Nat)} {tc : TrT} {te : TrE} {d : D} (e : bindT tg d (wipeD ls own) = none) : compB tg own tc te ls d lh = .bad := by
  unfold compB
  rw [e]
theorem comp_core {tg : Tg} {ti : TrI} {tc : TrT} {te : TrE} {own : List (Str × Nat)} {Q : VK} (hs : ∀ i, i ∈ tg.slots → i ∈ own.map (·.2))
    (R : Rel K m lh H) (S : RelS K m lh.length H ls σ)
    (q : ((ti ls lh).bind fun r => (compL r.1 (compB tg own tc te ls) (r.1.fuel r.2) 0 [] r.2).bind fun z => G.new (.lst z.1) z.2).All (Post K m lh H Q)) :
    tLc (tI K tg.isName ti) (gOf K tg) (tT K tc) (tE K te) (own.map (·.2)) σ H Q := by
  refine ⟨m, ls, lh, R, S, (T.all_bind.mp q).mono fun r p m1 H1 J S1 R1 hJ D' hD => ?_⟩
  have p := T.all_bind.mp p
  have RS1 := S1.relS R S
  refine ⟨fun i f H' => ∃ m' lh' acc vs, Step m1 r.2 H1 m' lh' H' ∧ Rel K m' lh' H' ∧ RelS K m' lh'.length H' ls σ ∧ H' D' = some (.lst vs) ∧ (∀ k, k < lh'.length → m' k ≠ D') ∧ RepVs K m' lh'.length H' acc.reverse vs ∧
    (compL r.1 (compB tg own tc te ls) f i acc lh').All fun z => (G.new (.lst z.1) z.2).All (Post K m lh H Q), ⟨r.1.fuel r.2, ?_⟩, fun i f H' hw => ?_⟩
  · obtain ⟨R2, S2⟩ := R1.any (w := .lst []) hD
    exact ⟨m1, r.2, [], [], S2, R2, S2.relS R1 RS1, upd_same, (fun k hk e => by obtain ⟨vs, q⟩ := R1.some_ hk; rw [e, hD] at q; cases q), .nil, p⟩
  · obtain ⟨m', lh', acc, vs, S', R', RS', hD', ho, ra, p'⟩ := hw
    cases f with
    | zero => exact p'.elim
    | succ f =>
      unfold compL at p'
      obtain ⟨j1, j2⟩ := hJ m' lh' H' i S' R'
      split at p'
      · exact p'.elim
      · rename_i e
        refine .inl ⟨j1 e, ?_⟩
        have p2 : Post K m lh H Q (.ref lh'.length, lh' ++ [.lst acc.reverse]) := p'
        have R3 := R'.adopt hD' ho ra
        have e2 : extM m' lh'.length D' lh'.length = D' := by unfold extM; rw [if_pos rfl]
        have S0 := S1.trans R1 S'
        have hDn := S1.none_of R1 hD
        have S3 : Step m lh H (extM m' lh'.length D') (lh' ++ [.lst acc.reverse]) H' := by
          refine ⟨fun k hk => ?_, by rw [List.length_append]; exact Nat.le_trans S0.len (Nat.le_add_right _ _), fun k h1 h2 => ?_, S0.frame⟩
          · unfold extM; rw [if_neg (Nat.ne_of_lt (Nat.lt_of_lt_of_le hk S0.len))]; exact S0.ext k hk
          · by_cases hk : k < lh'.length
            · unfold extM; rw [if_neg (Nat.ne_of_lt hk)]; exact S0.fresh k h1 hk
            · have ek : k = lh'.length := by rw [List.length_append, List.length_singleton] at h2; omega
              rw [ek, e2]; exact hDn
        have := p2 _ H' (.ref (extM m' lh'.length D' lh'.length)) S3 R3 (.ref (by simp))
        rw [e2] at this
        exact this
      · rename_i d e
        obtain ⟨g1, g2⟩ := j2 d e
        refine .inr ⟨g1, fun H'' => ∃ m'' lh'' acc' vs', Step m1 r.2 H1 m'' lh'' H'' ∧ Rel K m'' lh'' H'' ∧ RelS K m'' lh''.length H'' ls σ ∧ H'' D' = some (.lst vs') ∧ (∀ k, k < lh''.length → m'' k ≠ D') ∧ RepVs K m'' lh''.length H'' acc'.reverse vs' ∧
          (compL r.1 (compB tg own tc te ls) f (i + 1) acc' lh'').All fun z => (G.new (.lst z.1) z.2).All (Post K m lh H Q), fun H'' hn => ⟨f, Nat.lt_succ_self f, hn⟩, fun x H2 hy => ?_⟩
        obtain ⟨R2, S2, rw2⟩ := g2 x H2 hy
        have p3 := T.all_bind.mp p'
        cases eb : bindT tg d (wipeD ls own) with
        | none =>
          rw [compB_none eb] at p3
          exact (show False from p3).elim
        | some ls' =>
          rw [compB_some eb] at p3
          have RS2 := S2.relS R' RS'
          obtain ⟨hD2, ho2⟩ := S2.out hD' ho
          refine gOf_ok tg d x _ ls' _ _ eb (RS2.wipe own) rw2 hs fun σ2 RSl w2 => ⟨w2.trans (wipe_idem fun i h => h), ?_⟩
          refine tT_seq R2 RSl (T.all_bind.mp p3) fun b m3 H3 p4 S3 R3 RS3 => ?_
          obtain ⟨c, l3⟩ := b
          obtain ⟨hD3, ho3⟩ := S3.out hD2 ho2
          have S03 := (S'.trans R' S2).trans R2 S3
          have ra3 := S3.repVs R2 (S2.repVs R' ra)
          have RSo := S3.relS R2 RS2
          cases c with
          | false => exact iteF ⟨m3, l3, acc, vs, S03, R3, RSo, hD3, ho3, ra3, p4⟩
          | true =>
            refine iteT (tE_seq R3 RS3 (T.all_bind.mp p4) fun x4 m4 H4 y p5 S4 R4 RS4 ry => ?_)
            obtain ⟨hD4, ho4⟩ := S4.out hD3 ho3
            have p5 : T.All _ (if acc.length < line then _ else T.bad) := p5
            split at p5
            · rename_i hlen
              rw [line_eq, ← List.length_reverse, ra.length] at hlen
              refine ⟨vs, hD4, hlen, ?_⟩
              obtain ⟨R5, c1, c2⟩ := R4.outside (us := vs ++ [y]) hD4 ho4
              have S04 := S03.trans R3 S4
              refine ⟨m4, x4.2, x4.1 :: acc, vs ++ [y], S04.outside hD, R5, (S4.relS R3 RSo).outside R4 hD4 ho4, upd_same, ho4, ?_, p5⟩
              · rw [List.reverse_cons]
                exact (c2 (S4.repVs R3 ra3)).snoc (c1 ry)
            · exact p5.elim
end G

set_option maxHeartbeats 4000000
namespace G
open PySem L2
variable {K : PySem.W.Frag} {m m' m2 : Nat → Addr} {n n' : Nat} {H H' H2 : Hp} {lh lh' lh2 : LH} {X : Cx} {σ : L2.St} {ls : LS}

/-! ### the look: own syntax against the text's -/
def visB (sc : Scope) (x : Str) : Bool := match sc.names.lookup x with
  | some .local => true
  | some .cell => true
  | some .free => true
  | _ => false
def glB (sc : Scope) (x : Str) : Bool := match sc.names.lookup x with
  | some .globalImplicit => true
  | _ => false
def locB (sc : Scope) (fnb : Str → Bool) (x : Str) : Bool := match sc.names.lookup x with
  | some .local => true
  | some .cell => fnb x
  | _ => false
def onlyLocB (sc : Scope) (x : Str) : Bool := match sc.names.lookup x with
  | some .local => true
  | _ => false
def cellB (scope : Scope) (x : Str) : Bool := scope.names.lookup x == some .cell
def funB (sc : Scope) : Bool := match sc.kind with
  | .function => true
  | _ => false
def plainB : PySem.Expr → Bool
  | .Starred _ _ => false
  | .Slice _ _ _ _ => false
  | .Set _ _ _ => false
  | _ => true
def noSuper : PySem.Expr → Bool
  | .Call (.Name id _) [] [] _ => id != ("super" : Str)
  | _ => true
def isComp : PySem.Expr → Bool
  | .ListComp _ _ _ _ => true
  | .SetComp _ _ _ _ => true
  | .DictComp _ _ _ _ _ => true
  | _ => false
/-- the name's store swaps with the list's making -/
def swB (sc : Scope) (e : PySem.Expr) (y : Str) (py : Pos) : Bool := match e with
  | .ListComp _ _ scope pos => onlyLocB sc y && py.line == pos.line && !(scope.names.any fun (n, k) => n == y && (k == .local || k == .cell))
  | _ => false

def okName (x : Str) : Bool := !(x == ("__debug__" : Str)) && !(x == ("__classdict__" : Str)) && x != "__name__"
def plainAll : List PySem.Expr → Bool
  | [] => true
  | e :: r => plainB e && plainAll r

/-- the target wants the whole value -/
def Tg.str : Tg → Bool
  | .tup _ => false
  | _ => true

mutual
def chkE (fs : List Df) (N : List Str) : E → Scope → (Str → Bool) → PySem.Expr → Bool
  | .int i, _, _, pe => (match pe with
    | .Constant (.int j) _ _ => i == j
    | _ => false)
  | .str i, _, _, pe => (match pe with
    | .Constant (.str j) _ _ => i == j
    | _ => false)
  | .bl i, _, _, pe => (match pe with
    | .Constant (.bool j) _ _ => i == j
    | _ => false)
  | .non, _, _, pe => (match pe with
    | .Constant .none _ _ => true
    | _ => false)
  | .var i, sc, _, pe => (match pe with
    | .Name x _ => N[i]? == some x && visB sc x && okName x
    | _ => false)
  | .glob _ _, _, _, _ => false
  | .bin op a b, sc, fnb, pe => (match pe with
    | .BinOp pa o pb _ => decide (o = bopOf op) && chkE fs N a sc fnb pa && chkE fs N b sc fnb pb
    | _ => false)
  | .neg a, sc, fnb, pe => (match pe with
    | .UnaryOp .USub pa _ => chkE fs N a sc fnb pa
    | _ => false)
  | .cmp op a b, sc, fnb, pe => (match pe with
    | .Compare pa [o] [pb] _ => decide (o = copOf op) && chkE fs N a sc fnb pa && chkE fs N b sc fnb pb && !behindInMarks o pb
    | _ => false)
  | .and_ a b, sc, fnb, pe => (match pe with
    | .BoolOp .And (pa :: pb :: rest) pos => chkE fs N a sc fnb pa && (match rest with
      | [] => chkE fs N b sc fnb pb
      | _ :: _ => chkE fs N b sc fnb (.BoolOp .And (pb :: rest) pos))
    | _ => false)
  | .or_ a b, sc, fnb, pe => (match pe with
    | .BoolOp .Or (pa :: pb :: rest) pos => chkE fs N a sc fnb pa && (match rest with
      | [] => chkE fs N b sc fnb pb
      | _ :: _ => chkE fs N b sc fnb (.BoolOp .Or (pb :: rest) pos))
    | _ => false)
  | .not_ a, sc, fnb, pe => (match pe with
    | .UnaryOp .Not pa _ => chkE fs N a sc fnb pa
    | _ => false)
  | .ite c a b, sc, fnb, pe => (match pe with
    | .IfExp pc pa pb _ => chkE fs N c sc fnb pc && chkE fs N a sc fnb pa && chkE fs N b sc fnb pb
    | _ => false)
  | .tup es, sc, fnb, pe => (match pe with
    | .Tuple pes _ _ => chkEs fs N es sc fnb pes
    | _ => false)
  | .lst es, sc, fnb, pe => (match pe with
    | .List pes _ => chkEs fs N es sc fnb pes
    | _ => false)
  | .call g es, sc, fnb, pe => (match pe with
    | .Call (.Name x _) pes [] _ => (match fs[g]? with
      | some f => f.name == x && glB sc x && okName x && decide (pes.length = f.ps.length) && chkEs fs N es sc fnb pes
      | none => false)
    | _ => false)
  | .fn f es, sc, fnb, pe => (match pe with
    | .Call (.Name x _) pes [] _ => x == (fnName f : Str) && glB sc x && okName x && (match f with
      | .isi ty => (match es, pes with
        | .cons e .nil, [pe, .Name y _] => chkE fs N e sc fnb pe && plainB pe && y == (tyName ty : Str) && glB sc y && okName y
        | _, _ => false)
      | _ => !pes.isEmpty && chkEs fs N es sc fnb pes)
    | _ => false)
  | .mt m o es, sc, fnb, pe => (match pe with
    | .Call (.Attribute po name apos) pes [] cpos => chkE fs N o sc fnb po && name == mtName m && noSuper po && apos.endLine == cpos.line && decide (pes.length < 30) && chkEs fs N es sc fnb pes
    | _ => false)
  | .idx a i, sc, fnb, pe => (match pe with
    | .Subscript pa pi _ => chkE fs N a sc fnb pa && chkE fs N i sc fnb pi && plainB pi
    | _ => false)
  | .slc a lo hi, sc, fnb, pe => (match pe with
    | .Subscript pa (.Slice plo phi none _) _ => chkE fs N a sc fnb pa && chkEo fs N lo sc fnb plo && chkEo fs N hi sc fnb phi
    | _ => false)
  | .rev a, sc, fnb, pe => (match pe with
    | .Subscript pa (.Slice none none (some (.UnaryOp .USub (.Constant (.int j) _ _) _)) _) _ => j == 1 && chkE fs N a sc fnb pa
    | _ => false)
  | .comp it tg c e own, sc, fnb, pe => (match pe with
    | .ListComp pelt [⟨ptg, piter, pifs, 0⟩] scope _ => chkI fs N it sc fnb tg.isName piter && plainB piter && blkC N sc scope own && chkCT N tg (relS scope sc) (cellB scope) ptg && (tg.slots.all fun i => (own.map (·.2)).contains i) &&
      chkEo fs N c (relS scope sc) (cellB scope) (match pifs with
        | [] => none
        | c :: _ => some c) && decide (pifs.length ≤ 1) && chkE fs N e (relS scope sc) (cellB scope) pelt && funB (relS scope sc)
    | _ => false)
def chkEo (fs : List Df) (N : List Str) : Eo → Scope → (Str → Bool) → Option PySem.Expr → Bool
  | .no, _, _, pe => (match pe with
    | none => true
    | some _ => false)
  | .yes e, sc, fnb, pe => (match pe with
    | some pe => chkE fs N e sc fnb pe
    | none => false)
def chkEs (fs : List Df) (N : List Str) : Es → Scope → (Str → Bool) → List PySem.Expr → Bool
  | .nil, _, _, pes => (match pes with
    | [] => true
    | _ :: _ => false)
  | .cons e es, sc, fnb, pes => (match pes with
    | pe :: pes => plainB pe && chkE fs N e sc fnb pe && chkEs fs N es sc fnb pes
    | [] => false)
/-- str: the target is a name -/
def chkI (fs : List Df) (N : List Str) : It → Scope → (Str → Bool) → Bool → PySem.Expr → Bool
  | .val e, sc, fnb, _, pe => chkE fs N e sc fnb pe
  | .rng1 a, sc, fnb, _, pe => (match pe with
    | .Call (.Name x _) [pa] [] _ => x == ("range" : Str) && glB sc x && plainB pa && chkE fs N a sc fnb pa
    | _ => false)
  | .rng2 a b, sc, fnb, _, pe => (match pe with
    | .Call (.Name x _) [pa, pb] [] _ => x == ("range" : Str) && glB sc x && plainB pa && plainB pb && chkE fs N a sc fnb pa && chkE fs N b sc fnb pb
    | _ => false)
  | .rng3 a b c, sc, fnb, _, pe => (match pe with
    | .Call (.Name x _) [pa, pb, .UnaryOp .USub (.Constant (.int j) _ _) _] [] _ => x == ("range" : Str) && glB sc x && plainB pa && plainB pb && chkE fs N a sc fnb pa && chkE fs N b sc fnb pb && decide (c = -j)
    | _ => false)
  | .enum a, sc, fnb, str, pe => (match pe with
    | .Call (.Name x _) [pa] [] _ => x == ("enumerate" : Str) && glB sc x && plainB pa && chkE fs N a sc fnb pa && !str
    | _ => false)
  | .zip a b, sc, fnb, str, pe => (match pe with
    | .Call (.Name x _) [pa, pb] [] _ => x == ("zip" : Str) && glB sc x && plainB pa && plainB pb && chkE fs N a sc fnb pa && chkE fs N b sc fnb pb && !str
    | _ => false)
/-- a comprehension's target -/
def chkCT (N : List Str) : Tg → Scope → (Str → Bool) → PySem.Expr → Bool
  | .name i, sc, fnb, pe => (match pe with
    | .Name x _ => N[i]? == some x && locB sc fnb x
    | _ => false)
  | .tup ts, sc, fnb, pe => (match pe with
    | .Tuple pes _ _ => chkCTs N ts sc fnb pes
    | _ => false)
  | .sub _ _, _, _, _ => false
def chkCTs (N : List Str) : Tgs → Scope → (Str → Bool) → List PySem.Expr → Bool
  | .nil, _, _, pes => (match pes with
    | [] => true
    | _ :: _ => false)
  | .cons t ts, sc, fnb, pes => (match pes with
    | pe :: pes => plainB pe && chkCT N t sc fnb pe && chkCTs N ts sc fnb pes
    | [] => false)
end
mutual
def chkT (fs : List Df) (N : List Str) : Tg → Scope → (Str → Bool) → PySem.Expr → Bool
  | .name i, sc, fnb, pe => (match pe with
    | .Name x _ => N[i]? == some x && locB sc fnb x
    | _ => false)
  | .tup ts, sc, fnb, pe => (match pe with
    | .Tuple pes _ _ => chkTs fs N ts sc fnb pes
    | _ => false)
  | .sub o i, sc, fnb, pe => (match pe with
    | .Subscript po pi _ => chkE fs N o sc fnb po && chkE fs N i sc fnb pi && plainB pi
    | _ => false)
def chkTs (fs : List Df) (N : List Str) : Tgs → Scope → (Str → Bool) → List PySem.Expr → Bool
  | .nil, _, _, pes => (match pes with
    | [] => true
    | _ :: _ => false)
  | .cons t ts, sc, fnb, pes => (match pes with
    | pe :: pes => plainB pe && chkT fs N t sc fnb pe && chkTs fs N ts sc fnb pes
    | [] => false)
end
mutual
def chkS (fs : List Df) (N : List Str) : S → Scope → (Str → Bool) → PySem.Stmt → Bool
  | .asg t e, sc, fnb, st => (match st with
    | .Assign [pt] pe pos => chkT fs N t sc fnb pt && chkE fs N e sc fnb pe && (match pt with
      | .Name y py => !isComp pe || (match e with
        | .comp _ _ _ _ _ => true
        | _ => false)
      | .Tuple _ _ _ => !isComp pe && (match pe with
        | .Tuple _ _ _ => false
        | _ => true)
      | _ => !isComp pe)
    | _ => false)
  | .par i j a b, sc, fnb, st => (match st with
    | .Assign [.Tuple [.Name x _, .Name y _] _ _] (.Tuple [pa, pb] _ _) _ => false
    | _ => false)
  | .aug i op e, sc, fnb, st => (match st with
    | .AugAssign (.Name x _) o pe _ => N[i]? == some x && locB sc fnb x && decide (o = bopOf op) && okName x && chkE fs N e sc fnb pe
    | _ => false)
  | .expr e, sc, fnb, st => (match st with
    | .Expr pe _ => chkE fs N e sc fnb pe && !isComp pe
    | _ => false)
  | .ret e, sc, fnb, st => (match st with
    | .Return (some pe) _ => chkE fs N e sc fnb pe
    | _ => false)
  | .retN, _, _, st => (match st with
    | .Return none _ => true
    | _ => false)
  | .if_ c a b, sc, fnb, st => (match st with
    | .If pc pa pb _ => chkE fs N c sc fnb pc && chkSs fs N a sc fnb pa && chkSs fs N b sc fnb pb
    | _ => false)
  | .for_ it t b, sc, fnb, st => (match st with
    | .For pt pit pb [] _ => chkI fs N it sc fnb t.str pit && plainB pit && chkT fs N t sc fnb pt && chkSs fs N b sc fnb pb
    | _ => false)
  | .while_ c b, sc, fnb, st => (match st with
    | .While pc pb [] _ => chkE fs N c sc fnb pc && chkSs fs N b sc fnb pb
    | _ => false)
  | .brk, _, _, st => (match st with
    | .Break _ => true
    | _ => false)
  | .cont, _, _, st => (match st with
    | .Continue _ => true
    | _ => false)
  | .pass, _, _, st => (match st with
    | .Pass _ => true
    | _ => false)
def chkSs (fs : List Df) (N : List Str) : Ss → Scope → (Str → Bool) → List PySem.Stmt → Bool
  | .nil, _, _, sts => (match sts with
    | [] => true
    | _ :: _ => false)
  | .cons s r, sc, fnb, sts => (match sts with
    | st :: sts => chkS fs N s sc fnb st && chkSs fs N r sc fnb sts
    | [] => false)
end
end G

set_option maxHeartbeats 4000000
namespace G
open PySem L2
variable {K : PySem.W.Frag} {m m' m2 : Nat → Addr} {n n' : Nat} {H H' H2 : Hp} {lh lh' lh2 : LH} {X : Cx} {σ : L2.St} {ls : LS}

theorem and2 {a b : Bool} (h : (a && b) = true) : a = true ∧ b = true := Bool.and_eq_true_iff.mp h
theorem star_of {pe : PySem.Expr} {es : List PySem.Expr} {env : Env} (h : plainB pe = true) : starEach (pe :: es) env = (false, eval pe env) :: starEach es env := by
  cases pe <;> first | rfl | (exact absurd h Bool.false_ne_true)
theorem assign_of {pe : PySem.Expr} {es : List PySem.Expr} {env : Env} (h : plainB pe = true) : assignEach (pe :: es) env = (false, assign pe env) :: assignEach es env := by
  cases pe <;> first | rfl | (exact absurd h Bool.false_ne_true)
theorem plainIx_of {pe : PySem.Expr} (h : plainB pe = true) : PlainIx pe := by
  intro o i
  cases pe <;> first | rfl | (exact absurd h Bool.false_ne_true)
theorem fold_of {pe : PySem.Expr} {env : Env} (h : plainB pe = true) : ∀ x, foldedSetIterable pe env x = pure x := by
  intro x
  cases pe <;> first | rfl | (exact absurd h Bool.false_ne_true)
theorem noStar : ∀ {es : List PySem.Expr} {env : Env} {pos : Pos}, plainAll es = true → (backTo pos (starEach es env)).any (·.1) = false
  | [], env, pos, _ => rfl
  | e :: r, env, pos, h => by
    obtain ⟨h1, h2⟩ := and2 h
    rw [star_of h1]
    show (false || (backTo pos (starEach r env)).any (·.1)) = false
    rw [noStar h2]
    rfl
theorem noStarAll : ∀ {es : List PySem.Expr} {env : Env} {pos : Pos}, plainAll es = true → (backTo pos (starEach es env)).all (fun x => !x.1) = true
  | [], env, pos, _ => rfl
  | e :: r, env, pos, h => by
    obtain ⟨h1, h2⟩ := and2 h
    rw [star_of h1]
    show (!false && (backTo pos (starEach r env)).all (fun x => !x.1)) = true
    rw [noStarAll h2]
    rfl
theorem base_of {po : PySem.Expr} {name : Str} {env : Env} (h : noSuper po = true) : attributeBase po name env (eval po env) = eval po env := by
  unfold attributeBase
  split
  · rename_i id p pos
    have h' : (id != ("super" : Str)) = true := h
    rw [h']
    simp only [Bool.true_or, if_true]
  · rfl
theorem notComp {e : PySem.Expr} {t : Option PySem.Expr} {l : Nat} {env : Env} (h : isComp e = false) : swapsWith e t l env = pure false := by
  cases e <;> first | rfl | (exact absurd h (by simp [isComp]))

/-! ### the context -/
def bltNames : List Str := ["len", "tuple", "list", "sum", "sorted", "any", "all", "abs", "min", "max", "int", "bool", "str", "dict", "isinstance", "range", "enumerate", "zip"]
/-- a def's promise: its run by the small machine -/
def spEv (K : PySem.W.Frag) (fs : List Df) (k g : Nat) (np : Nat) : Sp := fun vs H Q _ => ∃ m lh as, Rel K m lh H ∧ RepVs K m lh.length H as vs ∧ as.length = np ∧ (evCall fs k g as lh).All (Post K m lh H Q)
structure Good (fs : List Df) (k : Nat) (fnb : Str → Bool) (sc : Scope) (N : List Str) (X : Cx) : Prop where
  eN : X.N = N
  eS : X.env.scope = sc
  kind : sc.kind = .function
  calm : X.calm = true
  nd : N.Nodup
  xe : X.xe = fun _ _ => False
  room : Room k X.A
  fn : ∀ x, fnb x = true → X.fn x = true
  blt : ∀ x, x ∈ bltNames → X.mg x = none
  defs : ∀ g f, fs[g]? = some f → ∃ a fd, X.mg f.name = some (.ref a) ∧ FnOk X.prog X.w X.K X.mg X.base CX0 k a fd f.ps (spEv X.K fs k g f.ps.length) ∧ PySem.W.keepIn X.K (.ref a) = true ∧ Binds X.K fd f.ps []

section
variable {fs : List Df} {k : Nat} {fnb : Str → Bool} {sc : Scope} {N : List Str}
theorem Good.hu (g : Good fs k fnb sc N X) : X.A.units + 70 < cLine := by have := g.room.un; omega
theorem Good.vis (g : Good fs k fnb sc N X) {x : Str} (h : visB sc x = true) : Vis X.env.scope x := by
  rw [g.eS]
  unfold visB at h
  split at h
  · rename_i e; exact .inl e
  · rename_i e; exact .inr (.inl e)
  · rename_i e; exact .inr (.inr e)
  · cases h
theorem Good.gl (g : Good fs k fnb sc N X) {x : Str} (h : glB sc x = true) : Gl X x := by
  unfold glB at h
  split at h
  · rename_i e
    show X.env.scope.names.lookup x = some .globalImplicit
    rw [g.eS]; exact e
  · cases h
theorem Good.loc (g : Good fs k fnb sc N X) {x : Str} (h : locB sc fnb x = true) : Loc X.env.scope x ∧ (X.fn x = true ∨ X.env.scope.names.lookup x = some .local) := by
  rw [g.eS]
  unfold locB at h
  split at h
  · rename_i e; exact ⟨.inl e, .inr e⟩
  · rename_i e; exact ⟨.inr e, .inl (g.fn x h)⟩
  · cases h
theorem Good.ix (g : Good fs k fnb sc N X) {i : Nat} {x : Str} (h : (N[i]? == some x) = true) : X.N[i]? = some x := by
  rw [g.eN]; exact eq_of_beq h
theorem okName_of {x : Str} (h : okName x = true) : (x == ("__debug__" : Str)) = false ∧ (x == ("__classdict__" : Str)) = false ∧ x ≠ "__name__" := by
  unfold okName at h
  obtain ⟨h, h3⟩ := and2 h
  obtain ⟨h1, h2⟩ := and2 h
  exact ⟨by simpa using h1, by simpa using h2, by simpa using h3⟩
theorem Good.blk (g : Good fs k fnb sc N X) {scope : Scope} {s : Shared} {H : Hp} {C : Addr} {cl : List (Str × Addr)} {fp : List Addr} (hk : funB (relS scope sc) = true) :
    Good fs k (cellB scope) (relS scope sc) N (X.blk s H scope (compEnvC scope cl C X.env) fp) where
  eN := g.eN
  eS := by rw [← g.eS]; rfl
  kind := by
    unfold funB at hk
    split at hk
    · assumption
    · cases hk
  calm := g.calm
  nd := g.nd
  xe := rfl
  room := g.room
  fn := fun x h => h
  blt := g.blt
  defs := g.defs
end
theorem bltMem (f : Fn) : (fnName f : Str) ∈ bltNames := by cases f with
  | isi ty => cases ty <;> decide +kernel
  | _ => decide +kernel
theorem bltVal (f : Fn) : bootBuiltins (fnName f : Str) = some (fnVal f) := by cases f with
  | isi ty => cases ty <;> decide +kernel
  | _ => decide +kernel
theorem tyVal (ty : Ty) : bootBuiltins (tyName ty : Str) = some (.type (tyName ty)) := by cases ty <;> decide +kernel
theorem tyMem (ty : Ty) : (tyName ty : Str) ∈ bltNames := by cases ty <;> decide +kernel
/-- a call of a built-in by its name -/
theorem pe_fn {f : Fn} {x : Str} {p pos : Pos} {e : PySem.Expr} {es : List PySem.Expr} {r : List V → Hp → VK → Prop} {t : TA} (hx : x = (fnName f : Str)) (hc : CallR X (fnVal f) r) (hg : Gl X x) (hm : X.mg x = none) (ha : PA X (e :: es) t) (hok : okName x = true) (hp : plainAll (e :: es) = true) :
    PE X (.Call (.Name x p) (e :: es) [] pos) (tCB r t) := by
  obtain ⟨o1, _, o3⟩ := okName_of hok
  obtain ⟨h1, h2⟩ := and2 hp
  have hv := bltVal f
  rw [← hx] at hv
  cases f
  case tuple => exact pe_callTy hc hg hm hv ha o3 o1 (star_of h1) (noStar h2)
  case list => exact pe_callTy hc hg hm hv ha o3 o1 (star_of h1) (noStar h2)
  case int => exact pe_callTy hc hg hm hv ha o3 o1 (star_of h1) (noStar h2)
  all_goals exact pe_callB hc hg hm hv ha o3 o1 (star_of h1) (noStar h2)
end G

set_option maxHeartbeats 16000000
namespace G
open PySem L2
variable {X : Cx} {fs : List Df} {k : Nat}

theorem chkEs_len {N : List Str} : ∀ (es : Es) (sc : Scope) (fnb : Str → Bool) (pes : List PySem.Expr), chkEs fs N es sc fnb pes = true → plainAll pes = true
  | .nil, sc, fnb, pes, h => by
    unfold chkEs at h
    split at h
    · rfl
    · cases h
  | .cons e es, sc, fnb, pes, h => by
    unfold chkEs at h
    split at h
    · obtain ⟨h, h3⟩ := and2 h
      obtain ⟨h1, h2⟩ := and2 h
      unfold plainAll
      rw [h1, chkEs_len es sc fnb _ h3]
      rfl
    · cases h
def Es.len : Es → Nat
  | .nil => 0
  | .cons _ r => r.len + 1
theorem chkEs_len2 {N : List Str} : ∀ (es : Es) (sc : Scope) (fnb : Str → Bool) (pes : List PySem.Expr), chkEs fs N es sc fnb pes = true → pes.length = es.len
  | .nil, sc, fnb, pes, h => by
    unfold chkEs at h
    split at h
    · rfl
    · cases h
  | .cons e es, sc, fnb, pes, h => by
    unfold chkEs at h
    split at h
    · obtain ⟨h, h3⟩ := and2 h
      unfold Es.len
      rw [List.length_cons, chkEs_len2 es sc fnb _ h3]
    · cases h
theorem evEs_len {ca : CA} {P : List D × LH → Prop} : ∀ (es : Es) (ls : LS) (lh : LH), (evEs ca es ls lh).All P → (evEs ca es ls lh).All fun r => P r ∧ r.1.length = es.len
  | .nil, ls, lh, h => by unfold evEs at h ⊢; exact ⟨h, rfl⟩
  | .cons e es, ls, lh, h => by
    unfold evEs at h ⊢
    refine T.all_bind.mpr ((T.all_bind.mp h).mono fun r p => T.all_bind.mpr ((evEs_len es ls r.2 (T.all_bind.mp p)).mono fun q hq => ⟨hq.1, ?_⟩))
    unfold Es.len
    rw [List.length_cons, hq.2]
theorem evEs_nil_of {N : List Str} {sc : Scope} {fnb : Str → Bool} : ∀ (es : Es), chkEs fs N es sc fnb [] = true → es = .nil
  | .nil, _ => rfl
  | .cons e es, h => by unfold chkEs at h; cases h

theorem sCall {X : Cx} {fnb : Str → Bool} {sc : Scope} {N : List Str} (g : Good fs k fnb sc N X) {gi : Nat} {es : Es} {pe : PySem.Expr} (hA : ∀ pes, chkEs fs N es sc fnb pes = true → PA X pes (tA X.K (evEs (evCall fs k) es))) (h : chkE fs N (.call gi es) sc fnb pe = true) :
    PE X pe (tE X.K (evE (evCall fs k) (.call gi es))) := by
  unfold chkE at h
  split at h
  · rename_i x p pes pos
    split at h
    · rename_i f ef
      obtain ⟨h, h5⟩ := and2 h
      obtain ⟨h, h4⟩ := and2 h
      obtain ⟨h, h3⟩ := and2 h
      obtain ⟨h1, h2⟩ := and2 h
      obtain ⟨a, fd, d1, d2, d3, d4⟩ := g.defs gi f ef
      rw [eq_of_beq h1] at d1
      obtain ⟨o1, _, _⟩ := okName_of h3
      have hl := of_decide_eq_true h4
      have hA := hA _ h5
      have hp := chkEs_len es _ _ _ h5
      have fin : ∀ σ H Q, tE X.K (evE (evCall fs k) (.call gi es)) σ H Q → tCall (spEv X.K fs k gi f.ps.length) [] E0 (tA X.K (evEs (evCall fs k) es)) σ H Q := by
        intro σ H Q ⟨m, ls, lh, R, S, q⟩
        unfold evE at q
        refine tA_seq R S (evEs_len es ls lh (T.all_bind.mp q)) fun r m1 H1 vs p S1 R1 RS1 rv => ?_
        rw [List.append_nil]
        exact ⟨m1, r.2, r.1, R1, rv, by rw [p.2, ← chkEs_len2 es _ _ _ h5, hl], all_step S1 R1 p.1⟩
      cases pes with
      | nil =>
        have e0 := evEs_nil_of es h5
        subst e0
        exact (pe_call0 d2 g.room (g.gl h2) d1 d3 d4 .nil pass0 o1).weak fun σ H Q ⟨m, ls, lh, R, S, q⟩ =>
          ⟨m, lh, [], R, .nil, hl, (show T.All _ _ from by unfold evE at q; unfold evEs at q; exact q)⟩
      | cons e1 r1 => exact (pe_call d2 g.room (g.gl h2) d1 d3 d4 .nil pass0 hA o1 (star_of (and2 hp).1) (noStar (and2 hp).2)).weak fin
    · cases h
  · cases h
theorem sFn {X : Cx} {fnb : Str → Bool} {sc : Scope} {N : List Str} (g : Good fs k fnb sc N X) {f : Fn} {es : Es} {pe : PySem.Expr} (hA : ∀ pes, chkEs fs N es sc fnb pes = true → PA X pes (tA X.K (evEs (evCall fs k) es)))
    (hI : ∀ e, es = .cons e .nil → ∀ pe1, chkE fs N e sc fnb pe1 = true → PE X pe1 (tE X.K (evE (evCall fs k) e))) (h : chkE fs N (.fn f es) sc fnb pe = true) :
    PE X pe (tE X.K (evE (evCall fs k) (.fn f es))) := by
  unfold chkE at h
  split at h
  · rename_i x p pes pos
    obtain ⟨h, h4⟩ := and2 h
    obtain ⟨h, h3⟩ := and2 h
    obtain ⟨h1, h2⟩ := and2 h
    obtain rfl := eq_of_beq h1
    have hm := g.blt _ (bltMem f)
    have main : (∀ ty, f ≠ .isi ty) → (!pes.isEmpty && chkEs fs N es sc fnb pes) = true → PE X (.Call (.Name (fnName f) p) pes [] pos) (tE X.K (evE (evCall fs k) (.fn f es))) := by
      intro hf h4
      obtain ⟨h5, h6⟩ := and2 h4
      cases pes with
      | nil => exact absurd h5 (by decide)
      | cons e1 r1 => exact cFn f hf (pe_fn rfl (fn_R g.calm g.hu f) (g.gl h2) hm (hA _ h6) h3 (chkEs_len es _ _ _ h6))
    cases f with
    | isi ty =>
      simp only at h4
      split at h4
      · rename_i e pe1 y p2
        obtain ⟨h4, c5⟩ := and2 h4
        obtain ⟨h4, c4⟩ := and2 h4
        obtain ⟨h4, c3⟩ := and2 h4
        obtain ⟨c1, c2⟩ := and2 h4
        obtain rfl := eq_of_beq c3
        obtain ⟨o1, _, o3⟩ := okName_of c5
        have hN : PE X (.Name (tyName ty) p2) (tC (.ty (tyName ty))) := pe_bltn (g.gl c4) (g.blt _ (tyMem ty)) (tyVal ty) rfl o3 o1
        exact cIsi ty (pe_fn (f := .isi ty) rfl call_isi (g.gl h2) hm (pa_cons (hI _ rfl _ c1) (pa_cons hN pa_nil) (star_of c2)) h3 (by unfold plainAll; rw [c2]; rfl))
      · cases h4
    | _ => exact main (fun ty e => by cases e) h4
  · cases h

theorem noBool {N : List Str} {sc : Scope} {fnb : Str → Bool} {op : PySem.BoolOp} {l : List PySem.Expr} {pos : Pos} : ∀ {e : E}, chkE fs N e sc fnb (.BoolOp op l pos) = true → (∃ a b, e = .and_ a b) ∨ ∃ a b, e = .or_ a b := by
  intro e h
  cases e
  case and_ a b => exact .inl ⟨a, b, rfl⟩
  case or_ a b => exact .inr ⟨a, b, rfl⟩
  all_goals (unfold chkE at h; exact absurd h Bool.false_ne_true)
theorem PT_bad {X : Cx} {pe : PySem.Expr} {t : TrT} (ht : ∀ ls lh, t ls lh = .bad) : PT X pe (tT X.K t) :=
  ⟨fun pins s σ H Q I ⟨m, ls, lh, R, S, q⟩ => by rw [ht] at q; exact q.elim⟩
theorem _root_.L2.PTs.weak {X : Cx} {e : List PySem.Expr} {t t' : TT} (h : PTs X e t) (w : ∀ σ H Q, t' σ H Q → t σ H Q) : PTs X e t' := ⟨fun pins s σ H Q I q => h.run pins s σ H Q I (w σ H Q q)⟩
theorem noTag : ∀ {es : List PySem.Expr} {env : Env}, plainAll es = true → (assignEach es env).length = es.length ∧ (assignEach es env).findIdx? (·.1) = none
  | [], env, _ => ⟨rfl, rfl⟩
  | e :: r, env, h => by
    obtain ⟨h1, h2⟩ := and2 h
    obtain ⟨i1, i2⟩ := noTag (env := env) h2
    rw [assign_of h1]
    refine ⟨by rw [List.length_cons, List.length_cons, i1], ?_⟩
    rw [List.findIdx?_cons, i2]
    rfl
theorem chkCTs_plain {N : List Str} : ∀ (ts : Tgs) (sc : Scope) (fnb : Str → Bool) (pes : List PySem.Expr), chkCTs N ts sc fnb pes = true → plainAll pes = true ∧ pes.length = ts.len
  | .nil, sc, fnb, pes, h => by
    unfold chkCTs at h
    split at h
    · exact ⟨rfl, rfl⟩
    · cases h
  | .cons t ts, sc, fnb, pes, h => by
    unfold chkCTs at h
    split at h
    · obtain ⟨h, h3⟩ := and2 h
      obtain ⟨h1, h2⟩ := and2 h
      obtain ⟨i1, i2⟩ := chkCTs_plain ts sc fnb _ h3
      unfold plainAll Tgs.len
      rw [h1, i1, List.length_cons, i2]
      exact ⟨rfl, rfl⟩
    · cases h
mutual
theorem cG {X : Cx} {fnb : Str → Bool} {sc : Scope} {N : List Str} (g : Good fs k fnb sc N X) : ∀ (tg : Tg) (pt : PySem.Expr), chkCT N tg sc fnb pt = true → PG X pt (gOf X.K tg)
  | .name i, pt, h => by
    unfold chkCT at h
    split at h
    · obtain ⟨h1, h2⟩ := and2 h
      obtain ⟨l1, l2⟩ := g.loc h2
      exact pg_name (by rw [g.eN]; exact g.nd) (g.ix h1) l1 l2
    · cases h
  | .tup ts, pt, h => by
    unfold chkCT at h
    split at h
    · obtain ⟨p1, p2⟩ := chkCTs_plain ts _ _ _ h
      obtain ⟨n1, n2⟩ := noTag (env := X.env) p1
      exact pg_tup g.calm (cGs g ts _ h) (n1.trans p2) n2
    · cases h
  | .sub _ _, pt, h => by unfold chkCT at h; cases h
theorem cGs {X : Cx} {fnb : Str → Bool} {sc : Scope} {N : List Str} (g : Good fs k fnb sc N X) : ∀ (ts : Tgs) (pes : List PySem.Expr), chkCTs N ts sc fnb pes = true → PGs X pes (gsOf X.K ts)
  | .nil, pes, h => by
    unfold chkCTs at h
    split at h
    · exact pgs_nil
    · cases h
  | .cons t ts, pes, h => by
    unfold chkCTs at h
    split at h
    · obtain ⟨h, h3⟩ := and2 h
      obtain ⟨h1, h2⟩ := and2 h
      exact pgs_cons (cG g t _ h2) (cGs g ts _ h3) (by rw [assign_of h1]; rfl)
    · cases h
end
theorem ct_tup {N : List Str} {sc : Scope} {fnb : Str → Bool} {tg : Tg} {pt : PySem.Expr} (h : chkCT N tg sc fnb pt = true) (hn : tg.isName = false) : ∃ elts kk pos, pt = .Tuple elts kk pos := by
  cases tg with
  | name i => cases hn
  | tup ts =>
    unfold chkCT at h
    split at h
    · exact ⟨_, _, _, rfl⟩
    · cases h
  | sub _ _ => unfold chkCT at h; cases h

theorem sVar {X : Cx} {fnb : Str → Bool} {sc : Scope} {N : List Str} (g : Good fs k fnb sc N X) {i : Nat} {pe : PySem.Expr} (h : chkE fs N (.var i) sc fnb pe = true) : PE X pe (tE X.K (evE (evCall fs k) (.var i))) := by
  unfold chkE at h
  split at h
  · obtain ⟨h, h3⟩ := and2 h
    obtain ⟨h1, h2⟩ := and2 h
    obtain ⟨o1, o2, _⟩ := okName_of h3
    exact cVar (pe_var (g.ix h1) (g.vis h2) o1 o2)
  · cases h

theorem sComp {X : Cx} {fnb : Str → Bool} {sc : Scope} {N : List Str} (g : Good fs k fnb sc N X) (it : It) (tg : Tg) (c : Eo) (e : E) (own : List (Str × Nat)) (pe : PySem.Expr)
    (hI : ∀ pe str ptg, chkI fs N it sc fnb str pe = true → (str = false → ∃ elts kk pos, ptg = .Tuple elts kk pos) → PI X ptg pe (tI X.K str (evI (evCall fs k) it)))
    (hC : ∀ (scope : Scope) (pifs : List PySem.Expr), funB (relS scope sc) = true → chkEo fs N c (relS scope sc) (cellB scope) (match pifs with
        | [] => none
        | c :: _ => some c) = true → pifs.length ≤ 1 → ∀ (s : Shared) (H : Hp) (C : Addr) (cl : List (Str × Addr)) (fp : List Addr), PTs (X.blk s H scope (compEnvC scope cl C X.env) fp) pifs (tT X.K (evC (evCall fs k) c)))
    (hE : ∀ (scope : Scope) (pe : PySem.Expr), funB (relS scope sc) = true → chkE fs N e (relS scope sc) (cellB scope) pe = true → ∀ (s : Shared) (H : Hp) (C : Addr) (cl : List (Str × Addr)) (fp : List Addr), PE (X.blk s H scope (compEnvC scope cl C X.env) fp) pe (tE X.K (evE (evCall fs k) e)))
    (h : chkE fs N (.comp it tg c e own) sc fnb pe = true) :
    ∃ pelt ptg piter pifs scope pos, pe = .ListComp pelt [⟨ptg, piter, pifs, 0⟩] scope pos ∧ PI X ptg piter (tI X.K tg.isName (evI (evCall fs k) it)) ∧ BlkOk X.N X.env.scope scope own ∧
      (∀ (s : Shared) (H : Hp) (C : Addr) (cl : List (Str × Addr)) (fp : List Addr), PG (X.blk s H scope (compEnvC scope cl C X.env) fp) ptg (gOf X.K tg)) ∧
      (∀ (s : Shared) (H : Hp) (C : Addr) (cl : List (Str × Addr)) (fp : List Addr), PTs (X.blk s H scope (compEnvC scope cl C X.env) fp) pifs (tT X.K (evC (evCall fs k) c))) ∧
      (∀ (s : Shared) (H : Hp) (C : Addr) (cl : List (Str × Addr)) (fp : List Addr), PE (X.blk s H scope (compEnvC scope cl C X.env) fp) pelt (tE X.K (evE (evCall fs k) e))) ∧
      (∀ x, foldedSetIterable piter X.env x = pure x) ∧ ∀ i, i ∈ tg.slots → i ∈ own.map (·.2) := by
  unfold chkE at h
  split at h
  · rename_i pelt ptg piter pifs scope pos
    obtain ⟨h, h9⟩ := and2 h
    obtain ⟨h, h8⟩ := and2 h
    obtain ⟨h, h7⟩ := and2 h
    obtain ⟨h, h6⟩ := and2 h
    obtain ⟨h, h5⟩ := and2 h
    obtain ⟨h, h4⟩ := and2 h
    obtain ⟨h, h3⟩ := and2 h
    obtain ⟨h1, h2⟩ := and2 h
    refine ⟨pelt, ptg, piter, pifs, scope, pos, rfl, hI piter tg.isName ptg h1 (ct_tup h4), ?_, fun s H C cl fp => cG (g.blk h9) tg _ h4, hC scope pifs h9 h6 (of_decide_eq_true h7), hE scope pelt h9 h8, fold_of h2, fun i hi => ?_⟩
    · rw [g.eN, g.eS]; exact blkOk_by h3
    · have := List.all_eq_true.mp h5 i hi
      exact List.contains_iff_mem.mp this
  · cases h
mutual
theorem sE {X : Cx} {fnb : Str → Bool} {sc : Scope} {N : List Str} (g : Good fs k fnb sc N X) : ∀ (e : E) (pe : PySem.Expr), chkE fs N e sc fnb pe = true → PE X pe (tE X.K (evE (evCall fs k) e))
  | .int i, pe, h => by
    unfold chkE at h
    split at h
    · obtain rfl := eq_of_beq h
      exact cConst pe_int fun _ _ _ => .int _
    · cases h
  | .str i, pe, h => by
    unfold chkE at h
    split at h
    · obtain rfl := eq_of_beq h
      exact cConst pe_str fun _ _ _ => .str _
    · cases h
  | .bl i, pe, h => by
    unfold chkE at h
    split at h
    · obtain rfl := eq_of_beq h
      exact cConst pe_bl fun _ _ _ => .bl _
    · cases h
  | .non, pe, h => by
    unfold chkE at h
    split at h
    · exact cConst pe_non fun _ _ _ => .non
    · cases h
  | .var i, pe, h => sVar g h
  | .glob _ _, pe, h => by unfold chkE at h; cases h
  | .bin op a b, pe, h => by
    unfold chkE at h
    split at h
    · obtain ⟨h, h3⟩ := and2 h
      obtain ⟨h1, h2⟩ := and2 h
      obtain rfl := of_decide_eq_true h1
      exact cBin op (sE g a _ h2) (sE g b _ h3)
    · cases h
  | .neg a, pe, h => by
    unfold chkE at h
    split at h
    · exact cNeg (sE g a _ h)
    · cases h
  | .cmp op a b, pe, h => by
    unfold chkE at h
    split at h
    · obtain ⟨h, h4⟩ := and2 h
      obtain ⟨h, h3⟩ := and2 h
      obtain ⟨h1, h2⟩ := and2 h
      obtain rfl := of_decide_eq_true h1
      exact cCmp op (by have := g.hu; omega) (sE g a _ h2) (sE g b _ h3) (by simpa using h4)
    · cases h
  | .and_ a b, pe, h => by
    unfold chkE at h
    split at h
    · rename_i pa pb rest pos
      obtain ⟨h1, h2⟩ := and2 h
      refine cAnd (t' := fun _ _ _ => True) (sE g a _ h1) ?_
      cases rest with
      | nil => exact pe_one (sE g b _ h2)
      | cons y ys => exact sE g b _ h2
    · cases h
  | .or_ a b, pe, h => by
    unfold chkE at h
    split at h
    · rename_i pa pb rest pos
      obtain ⟨h1, h2⟩ := and2 h
      refine cOr (sE g a _ h1) ?_
      cases rest with
      | nil => exact pe_one (sE g b _ h2)
      | cons y ys => exact sE g b _ h2
    · cases h
  | .not_ a, pe, h => by
    unfold chkE at h
    split at h
    · exact cNot (sE g a _ h)
    · cases h
  | .ite c a b, pe, h => by
    unfold chkE at h
    split at h
    · obtain ⟨h, h3⟩ := and2 h
      obtain ⟨h1, h2⟩ := and2 h
      exact cIte (sT g c _ h1) (sE g a _ h2) (sE g b _ h3)
    · cases h
  | .tup es, pe, h => by
    unfold chkE at h
    split at h
    · exact cTup (sEs g es _ h)
    · cases h
  | .lst es, pe, h => by
    unfold chkE at h
    split at h
    · exact cLst (sEs g es _ h)
    · cases h
  | .call gi es, pe, h => sCall g (fun pes h => sEs g es pes h) h
  | .fn f es, pe, h => sFn g (fun pes h => sEs g es pes h) (by
    cases es with
    | nil => intro e he; cases he
    | cons e0 r => cases r with
      | nil => intro e he pe1 h1; cases he; exact sE g e0 pe1 h1
      | cons _ _ => intro e he; cases he) h
  | .mt mt o es, pe, h => by
    unfold chkE at h
    split at h
    · rename_i po name apos pes cpos
      obtain ⟨h, h6⟩ := and2 h
      obtain ⟨h, h5⟩ := and2 h
      obtain ⟨h, h4⟩ := and2 h
      obtain ⟨h, h3⟩ := and2 h
      obtain ⟨h1, h2⟩ := and2 h
      obtain rfl := eq_of_beq h2
      have hp := chkEs_len es _ _ _ h6
      cases pes with
      | nil =>
        have e0 := evEs_nil_of es h6
        subst e0
        exact cMt0 mt g.hu (pe_bmG0 (sE g o _ h1) (base_of h3) h4)
      | cons e1 r1 =>
        refine cMt mt g.hu (pe_bmG (sE g o _ h1) (sEs g es _ h6) (base_of h3) ?_ h4 (star_of (and2 hp).1) (noStar (and2 hp).2))
        rw [noStarAll hp]
        have := of_decide_eq_true h5
        simp only [keywordEach, backToKw, List.map_nil, List.all_nil, Bool.true_and, List.length_nil, List.isEmpty_nil, if_true, Nat.add_zero]
        exact decide_eq_true this
    · cases h
  | .idx a i, pe, h => by
    unfold chkE at h
    split at h
    · obtain ⟨h, h3⟩ := and2 h
      obtain ⟨h1, h2⟩ := and2 h
      exact cIdx (sE g a _ h1) (sE g i _ h2) (plainIx_of h3)
    · cases h
  | .slc a lo hi, pe, h => by
    unfold chkE at h
    split at h
    · obtain ⟨h, h3⟩ := and2 h
      obtain ⟨h1, h2⟩ := and2 h
      exact cSlc (sE g a _ h1) (sEo g lo _ h2) (sEo g hi _ h3)
    · cases h
  | .rev a, pe, h => by
    unfold chkE at h
    split at h
    · obtain ⟨h1, h2⟩ := and2 h
      obtain rfl := eq_of_beq h1
      exact cRev (sE g a _ h2)
    · cases h
  | .comp it tg c e own, pe, h => by
    obtain ⟨pelt, ptg, piter, pifs, scope, pos, rfl, hi, ok, hg, ht, he, hs, hsl⟩ := sComp g it tg c e own pe (fun pe str ptg h ht => sI g it pe str ptg h ht) (fun scope pifs h9 h hl s H C cl fp => sC (g.blk h9) c pifs h hl) (fun scope pe h9 h s H C cl fp => sE (g.blk h9) e pe h) h
    exact (pe_lc g.calm (by rw [g.eN]; exact g.nd) hi ok hg ht he hs).weak fun σ H Q ⟨m, ls, lh, R, S, q⟩ => comp_core hsl R S q
theorem sT {X : Cx} {fnb : Str → Bool} {sc : Scope} {N : List Str} (g : Good fs k fnb sc N X) : ∀ (e : E) (pe : PySem.Expr), chkE fs N e sc fnb pe = true → PT X pe (tT X.K (evT (evCall fs k) e))
  | .and_ a b, pe, h => by
    unfold chkE at h
    split at h
    · rename_i pa pb rest pos
      obtain ⟨h1, h2⟩ := and2 h
      refine PW.pt (wAnd (sT g a _ h1) ?_)
      cases rest with
      | nil => exact pw_and1 (sT g b _ h2)
      | cons y ys => exact sW g b _ h2 ⟨.And, _, _, _, _, rfl⟩
    · cases h
  | .or_ a b, pe, h => by
    unfold chkE at h
    split at h
    · rename_i pa pb rest pos
      obtain ⟨h1, h2⟩ := and2 h
      refine PW.pt (wOr (sT g a _ h1) ?_)
      cases rest with
      | nil => exact pw_or1 (sT g b _ h2)
      | cons y ys => exact sW g b _ h2 ⟨.Or, _, _, _, _, rfl⟩
    · cases h
  | .not_ a, pe, h => by
    unfold chkE at h
    split at h
    · exact tNot (sT g a _ h)
    · cases h
  | .cmp op a b, pe, h => by
    unfold chkE at h
    split at h
    · obtain ⟨h, h4⟩ := and2 h
      obtain ⟨h, h3⟩ := and2 h
      obtain ⟨h1, h2⟩ := and2 h
      obtain rfl := of_decide_eq_true h1
      exact tCmp op (by have := g.hu; omega) (sE g a _ h2) (sE g b _ h3) (by simpa using h4)
    · cases h
  | .var i, pe, h => by
    have he : ∀ whole, isTrue pe X.env whole = (do let v ← whole; standAt pe.pos; holding [v] (truthy v)) := by
      intro whole
      unfold chkE at h
      split at h
      · rfl
      · cases h
    refine (tTru (sVar g h) he).weak fun σ H Q ⟨m, ls, lh, R, S, q⟩ => ⟨m, ls, lh, R, S, ?_⟩
    unfold evT at q
    unfold evE
    split at q
    · rename_i d e
      show T.All _ ((match ls[i]? with
            | some (some d) => T.ret (d, lh)
            | x => T.bad).bind _)
      rw [e]
      exact q
    · exact q.elim
  | .call gi es, pe, h => by
    have he : ∀ whole, isTrue pe X.env whole = (do let v ← whole; standAt pe.pos; holding [v] (truthy v)) := by
      intro whole
      unfold chkE at h
      split at h
      · rfl
      · cases h
    refine (tTru (sCall g (fun pes h => sEs g es pes h) h) he).weak fun σ H Q ⟨m, ls, lh, R, S, q⟩ => ⟨m, ls, lh, R, S, ?_⟩
    unfold evT at q
    unfold evE
    exact T.all_bind.mpr (T.all_bind.mpr ((T.all_bind.mp q).mono fun r p => T.all_bind.mp p))
  | .fn f es, pe, h => by
    have he : ∀ whole, isTrue pe X.env whole = (do let v ← whole; standAt pe.pos; holding [v] (truthy v)) := by
      intro whole
      unfold chkE at h
      split at h
      · rfl
      · cases h
    have hI : ∀ e, es = .cons e .nil → ∀ pe1, chkE fs N e sc fnb pe1 = true → PE X pe1 (tE X.K (evE (evCall fs k) e)) := by
      cases es with
      | nil => intro e he; cases he
      | cons e0 r => cases r with
        | nil => intro e he pe1 h1; cases he; exact sE g e0 pe1 h1
        | cons _ _ => intro e he; cases he
    refine (tTru (sFn g (fun pes h => sEs g es pes h) hI h) he).weak fun σ H Q ⟨m, ls, lh, R, S, q⟩ => ⟨m, ls, lh, R, S, ?_⟩
    unfold evT at q
    unfold evE
    exact T.all_bind.mpr (T.all_bind.mpr ((T.all_bind.mp q).mono fun r p => T.all_bind.mp p))
  | .int _, pe, h => PT_bad fun _ _ => by unfold evT; rfl
  | .str _, pe, h => PT_bad fun _ _ => by unfold evT; rfl
  | .bl _, pe, h => PT_bad fun _ _ => by unfold evT; rfl
  | .non, pe, h => PT_bad fun _ _ => by unfold evT; rfl
  | .glob _ _, pe, h => PT_bad fun _ _ => by unfold evT; rfl
  | .bin _ _ _, pe, h => PT_bad fun _ _ => by unfold evT; rfl
  | .neg _, pe, h => PT_bad fun _ _ => by unfold evT; rfl
  | .ite _ _ _, pe, h => PT_bad fun _ _ => by unfold evT; rfl
  | .tup _, pe, h => PT_bad fun _ _ => by unfold evT; rfl
  | .lst _, pe, h => PT_bad fun _ _ => by unfold evT; rfl
  | .mt _ _ _, pe, h => PT_bad fun _ _ => by unfold evT; rfl
  | .idx _ _, pe, h => PT_bad fun _ _ => by unfold evT; rfl
  | .slc _ _ _, pe, h => PT_bad fun _ _ => by unfold evT; rfl
  | .rev _, pe, h => PT_bad fun _ _ => by unfold evT; rfl
  | .comp _ _ _ _ _, pe, h => PT_bad fun _ _ => by unfold evT; rfl
theorem sW {X : Cx} {fnb : Str → Bool} {sc : Scope} {N : List Str} (g : Good fs k fnb sc N X) : ∀ (e : E) (pe : PySem.Expr), chkE fs N e sc fnb pe = true → (∃ op x y r pos, pe = .BoolOp op (x :: y :: r) pos) → PW X pe (tT X.K (evT (evCall fs k) e))
  | .and_ a b, pe, h, _ => by
    unfold chkE at h
    split at h
    · rename_i pa pb rest pos _
      obtain ⟨h1, h2⟩ := and2 h
      refine wAnd (sT g a _ h1) ?_
      cases rest with
      | nil => exact pw_and1 (sT g b _ h2)
      | cons y ys => exact sW g b _ h2 ⟨.And, _, _, _, _, rfl⟩
    · cases h
  | .or_ a b, pe, h, _ => by
    unfold chkE at h
    split at h
    · rename_i pa pb rest pos _
      obtain ⟨h1, h2⟩ := and2 h
      refine wOr (sT g a _ h1) ?_
      cases rest with
      | nil => exact pw_or1 (sT g b _ h2)
      | cons y ys => exact sW g b _ h2 ⟨.Or, _, _, _, _, rfl⟩
    · cases h
  | .int _, pe, h, ⟨op, x, y, r, pos, e⟩ => by subst e; rcases noBool h with ⟨a, b, e⟩ | ⟨a, b, e⟩ <;> cases e
  | .str _, pe, h, ⟨op, x, y, r, pos, e⟩ => by subst e; rcases noBool h with ⟨a, b, e⟩ | ⟨a, b, e⟩ <;> cases e
  | .bl _, pe, h, ⟨op, x, y, r, pos, e⟩ => by subst e; rcases noBool h with ⟨a, b, e⟩ | ⟨a, b, e⟩ <;> cases e
  | .non, pe, h, ⟨op, x, y, r, pos, e⟩ => by subst e; rcases noBool h with ⟨a, b, e⟩ | ⟨a, b, e⟩ <;> cases e
  | .var _, pe, h, ⟨op, x, y, r, pos, e⟩ => by subst e; rcases noBool h with ⟨a, b, e⟩ | ⟨a, b, e⟩ <;> cases e
  | .glob _ _, pe, h, ⟨op, x, y, r, pos, e⟩ => by subst e; rcases noBool h with ⟨a, b, e⟩ | ⟨a, b, e⟩ <;> cases e
  | .bin _ _ _, pe, h, ⟨op, x, y, r, pos, e⟩ => by subst e; rcases noBool h with ⟨a, b, e⟩ | ⟨a, b, e⟩ <;> cases e
  | .neg _, pe, h, ⟨op, x, y, r, pos, e⟩ => by subst e; rcases noBool h with ⟨a, b, e⟩ | ⟨a, b, e⟩ <;> cases e
  | .cmp _ _ _, pe, h, ⟨op, x, y, r, pos, e⟩ => by subst e; rcases noBool h with ⟨a, b, e⟩ | ⟨a, b, e⟩ <;> cases e
  | .not_ _, pe, h, ⟨op, x, y, r, pos, e⟩ => by subst e; rcases noBool h with ⟨a, b, e⟩ | ⟨a, b, e⟩ <;> cases e
  | .ite _ _ _, pe, h, ⟨op, x, y, r, pos, e⟩ => by subst e; rcases noBool h with ⟨a, b, e⟩ | ⟨a, b, e⟩ <;> cases e
  | .tup _, pe, h, ⟨op, x, y, r, pos, e⟩ => by subst e; rcases noBool h with ⟨a, b, e⟩ | ⟨a, b, e⟩ <;> cases e
  | .lst _, pe, h, ⟨op, x, y, r, pos, e⟩ => by subst e; rcases noBool h with ⟨a, b, e⟩ | ⟨a, b, e⟩ <;> cases e
  | .call _ _, pe, h, ⟨op, x, y, r, pos, e⟩ => by subst e; rcases noBool h with ⟨a, b, e⟩ | ⟨a, b, e⟩ <;> cases e
  | .fn _ _, pe, h, ⟨op, x, y, r, pos, e⟩ => by subst e; rcases noBool h with ⟨a, b, e⟩ | ⟨a, b, e⟩ <;> cases e
  | .mt _ _ _, pe, h, ⟨op, x, y, r, pos, e⟩ => by subst e; rcases noBool h with ⟨a, b, e⟩ | ⟨a, b, e⟩ <;> cases e
  | .idx _ _, pe, h, ⟨op, x, y, r, pos, e⟩ => by subst e; rcases noBool h with ⟨a, b, e⟩ | ⟨a, b, e⟩ <;> cases e
  | .slc _ _ _, pe, h, ⟨op, x, y, r, pos, e⟩ => by subst e; rcases noBool h with ⟨a, b, e⟩ | ⟨a, b, e⟩ <;> cases e
  | .rev _, pe, h, ⟨op, x, y, r, pos, e⟩ => by subst e; rcases noBool h with ⟨a, b, e⟩ | ⟨a, b, e⟩ <;> cases e
  | .comp _ _ _ _ _, pe, h, ⟨op, x, y, r, pos, e⟩ => by subst e; rcases noBool h with ⟨a, b, e⟩ | ⟨a, b, e⟩ <;> cases e
theorem sC {X : Cx} {fnb : Str → Bool} {sc : Scope} {N : List Str} (g : Good fs k fnb sc N X) : ∀ (c : Eo) (pifs : List PySem.Expr), chkEo fs N c sc fnb (match pifs with
        | [] => none
        | c :: _ => some c) = true → pifs.length ≤ 1 → PTs X pifs (tT X.K (evC (evCall fs k) c))
  | .no, pifs, h, hl => by
    unfold chkEo at h
    cases pifs with
    | nil => exact PTs.weak pts_nil fun σ H Q ⟨m, ls, lh, R, S, q⟩ => (show PostB X.K m lh H Q (true, lh) from q) m H .refl R
    | cons _ _ => cases h
  | .yes e, pifs, h, hl => by
    unfold chkEo at h
    cases pifs with
    | nil => cases h
    | cons pe r =>
      cases r with
      | nil => exact pts_one (sT g e pe h)
      | cons _ _ => exact absurd hl (by simp)
theorem sEo {X : Cx} {fnb : Str → Bool} {sc : Scope} {N : List Str} (g : Good fs k fnb sc N X) : ∀ (c : Eo) (pe : Option PySem.Expr), chkEo fs N c sc fnb pe = true → PO X pe (tO X.K (evEo (evCall fs k) c))
  | .no, pe, h => by
    unfold chkEo at h
    split at h
    · exact cNoPart
    · cases h
  | .yes e, pe, h => by
    unfold chkEo at h
    split at h
    · exact cPart (sE g e _ h)
    · cases h
theorem sEs {X : Cx} {fnb : Str → Bool} {sc : Scope} {N : List Str} (g : Good fs k fnb sc N X) : ∀ (es : Es) (pes : List PySem.Expr), chkEs fs N es sc fnb pes = true → PA X pes (tA X.K (evEs (evCall fs k) es))
  | .nil, pes, h => by
    unfold chkEs at h
    split at h
    · exact aNil
    · cases h
  | .cons e es, pes, h => by
    unfold chkEs at h
    split at h
    · obtain ⟨h, h3⟩ := and2 h
      obtain ⟨h1, h2⟩ := and2 h
      exact aCons (sE g e _ h2) (sEs g es _ h3) (star_of h1)
    · cases h
theorem sI {X : Cx} {fnb : Str → Bool} {sc : Scope} {N : List Str} (g : Good fs k fnb sc N X) : ∀ (it : It) (pe : PySem.Expr) (str : Bool) (ptg : PySem.Expr), chkI fs N it sc fnb str pe = true → (str = false → ∃ elts kk pos, ptg = .Tuple elts kk pos) → PI X ptg pe (tI X.K str (evI (evCall fs k) it))
  | .val e, pe, str, ptg, h, ht => iVal (sE g e pe (by unfold chkI at h; exact h))
  | .rng1 a, pe, str, ptg, h, ht => by
    unfold chkI at h
    split at h
    · obtain ⟨h, h4⟩ := and2 h
      obtain ⟨h, h3⟩ := and2 h
      obtain ⟨h1, h2⟩ := and2 h
      obtain rfl := eq_of_beq h1
      exact iRng1 (g.gl h2) (g.blt _ (by decide +kernel)) (sE g a _ h4) (star_of h3)
    · cases h
  | .rng2 a b, pe, str, ptg, h, ht => by
    unfold chkI at h
    split at h
    · obtain ⟨h, h6⟩ := and2 h
      obtain ⟨h, h5⟩ := and2 h
      obtain ⟨h, h4⟩ := and2 h
      obtain ⟨h, h3⟩ := and2 h
      obtain ⟨h1, h2⟩ := and2 h
      obtain rfl := eq_of_beq h1
      exact iRng2 (g.gl h2) (g.blt _ (by decide +kernel)) (sE g a _ h5) (sE g b _ h6) (by rw [star_of h3, star_of h4]; rfl) (star_of h4)
    · cases h
  | .rng3 a b c, pe, str, ptg, h, ht => by
    unfold chkI at h
    split at h
    · obtain ⟨h, h7⟩ := and2 h
      obtain ⟨h, h6⟩ := and2 h
      obtain ⟨h, h5⟩ := and2 h
      obtain ⟨h, h4⟩ := and2 h
      obtain ⟨h, h3⟩ := and2 h
      obtain ⟨h1, h2⟩ := and2 h
      obtain rfl := eq_of_beq h1
      obtain rfl := of_decide_eq_true h7
      rename_i j kk pc pn pos z1 z2 z3 z4 z5
      have hc : PE X (.UnaryOp .USub (.Constant (.int j) kk pc) pn) (tE X.K fun _ lh => .ret (.int (-j), lh)) := cNeg (X := X) (cConst pe_int fun _ _ _ => .int _)
      exact iRng3 (g.gl h2) (g.blt _ (by decide +kernel)) (sE g a _ h5) (sE g b _ h6) hc (star_of h3) (star_of h4) rfl (noStar (by unfold plainAll; rw [h4]; rfl))
    · cases h
  | .enum a, pe, str, ptg, h, ht => by
    unfold chkI at h
    split at h
    · obtain ⟨h, h5⟩ := and2 h
      obtain ⟨h, h4⟩ := and2 h
      obtain ⟨h, h3⟩ := and2 h
      obtain ⟨h1, h2⟩ := and2 h
      obtain rfl := eq_of_beq h1
      cases str with
      | true => cases h5
      | false =>
        obtain ⟨_, _, _, rfl⟩ := ht rfl
        exact iEnum_ (g.gl h2) (g.blt _ (by decide +kernel)) (sE g a _ h4) (star_of h3)
    · cases h
  | .zip a b, pe, str, ptg, h, ht => by
    unfold chkI at h
    split at h
    · obtain ⟨h, h7⟩ := and2 h
      obtain ⟨h, h6⟩ := and2 h
      obtain ⟨h, h5⟩ := and2 h
      obtain ⟨h, h4⟩ := and2 h
      obtain ⟨h, h3⟩ := and2 h
      obtain ⟨h1, h2⟩ := and2 h
      obtain rfl := eq_of_beq h1
      cases str with
      | true => cases h7
      | false =>
        obtain ⟨_, _, _, rfl⟩ := ht rfl
        exact iZip_ (g.gl h2) (g.blt _ (by decide +kernel)) (sE g a _ h5) (sE g b _ h6) (star_of h3) (star_of h4) (noStar (by unfold plainAll; rw [h4]; rfl))
    · cases h
end
end G

set_option maxHeartbeats 16000000
namespace G
open PySem L2
variable {X : Cx} {fs : List Df} {k : Nat}

theorem asgSub_of {o i : PySem.Expr} {pos : Pos} {env : Env} (h : plainB i = true) : ∀ v, assign (.Subscript o i pos) env v = (do
      let ov ← holding [v] (eval o env)
      let iv ← holding [v, ov] (eval i env)
      standAt pos
      holding [v, ov, iv] (setItem ov iv v)
      release [v, ov, iv] []) := by
  intro v
  cases i <;> first | rfl | (exact absurd h Bool.false_ne_true)
theorem chkTs_plain {N : List Str} : ∀ (ts : Tgs) (sc : Scope) (fnb : Str → Bool) (pes : List PySem.Expr), chkTs fs N ts sc fnb pes = true → plainAll pes = true ∧ pes.length = ts.len
  | .nil, sc, fnb, pes, h => by
    unfold chkTs at h
    split at h
    · exact ⟨rfl, rfl⟩
    · cases h
  | .cons t ts, sc, fnb, pes, h => by
    unfold chkTs at h
    split at h
    · obtain ⟨h, h3⟩ := and2 h
      obtain ⟨h1, h2⟩ := and2 h
      obtain ⟨i1, i2⟩ := chkTs_plain ts sc fnb _ h3
      unfold plainAll Tgs.len
      rw [h1, i1, List.length_cons, i2]
      exact ⟨rfl, rfl⟩
    · cases h
theorem gWeakStr {t : TrG} {pt : PySem.Expr} {str : Bool} (h : PG X pt (tG X.K str t)) : PG X pt (tG X.K true t) :=
  h.weak fun v σ H Q ⟨m, ls, lh, d, R, S, rv, q⟩ => ⟨m, ls, lh, d, R, S, .inl rv.strong, q⟩
mutual
theorem sG {X : Cx} {fnb : Str → Bool} {sc : Scope} {N : List Str} (g : Good fs k fnb sc N X) : ∀ (tg : Tg) (pt : PySem.Expr), chkT fs N tg sc fnb pt = true → PG X pt (tG X.K tg.str (evTg (evCall fs k) tg))
  | .name i, pt, h => by
    unfold chkT at h
    split at h
    · obtain ⟨h1, h2⟩ := and2 h
      obtain ⟨l1, l2⟩ := g.loc h2
      exact gNameG (pg_name (by rw [g.eN]; exact g.nd) (g.ix h1) l1 l2)
    · cases h
  | .tup ts, pt, h => by
    unfold chkT at h
    split at h
    · obtain ⟨p1, p2⟩ := chkTs_plain ts _ _ _ h
      obtain ⟨n1, n2⟩ := noTag (env := X.env) p1
      exact gTupG g.calm (sGs g ts _ h) (n1.trans p2) n2
    · cases h
  | .sub o i, pt, h => by
    unfold chkT at h
    split at h
    · obtain ⟨h, h3⟩ := and2 h
      obtain ⟨h1, h2⟩ := and2 h
      exact gSubG (pg_sub (sE g o _ h1) (sE g i _ h2) set_list (asgSub_of h3))
    · cases h
theorem sGs {X : Cx} {fnb : Str → Bool} {sc : Scope} {N : List Str} (g : Good fs k fnb sc N X) : ∀ (ts : Tgs) (pes : List PySem.Expr), chkTs fs N ts sc fnb pes = true → PGs X pes (tGs X.K (evTgs (evCall fs k) ts))
  | .nil, pes, h => by
    unfold chkTs at h
    split at h
    · exact gsNil
    · cases h
  | .cons t ts, pes, h => by
    unfold chkTs at h
    split at h
    · obtain ⟨h, h3⟩ := and2 h
      obtain ⟨h1, h2⟩ := and2 h
      exact gsCons (pgs_cons (sG g t _ h2) (sGs g ts _ h3) (by rw [assign_of h1]; rfl))
    · cases h
end
theorem t_tup {N : List Str} {sc : Scope} {fnb : Str → Bool} {tg : Tg} {pt : PySem.Expr} (h : chkT fs N tg sc fnb pt = true) (hn : tg.str = false) : ∃ elts kk pos, pt = .Tuple elts kk pos := by
  cases tg with
  | name i => cases hn
  | tup ts =>
    unfold chkT at h
    split at h
    · exact ⟨_, _, _, rfl⟩
    · cases h
  | sub _ _ => cases hn
/-- name = value -/
theorem sAsgN {i : Nat} {st : PySem.Stmt} {ta : TrE} (h : PS X st (tAsg (tE X.K ta) (gName i))) : PS X st (tS X.K fun ls lh => (ta ls lh).bind fun r => .ret (.nx, ls.set i (some r.1), r.2)) :=
  h.weak fun D σ H ⟨m, ls, lh, R, S, q⟩ =>
  tE_seq R S (T.all_bind.mp q) fun r m1 H1 v p S1 R1 RS1 rv => (show PostS X.K m lh H D (.nx, ls.set i (some r.1), r.2) from p) m1 H1 _ S1 R1 (RS1.set rv i)
theorem sw_val {elt : PySem.Expr} {gs : List Comprehension} {scope : Scope} {pos py : Pos} {y : Str} {l : Nat} {env : Env} :
    swapsWith (.ListComp elt gs scope pos) (some (.Name y py)) l env = pure (env.blockKind == .function && env.kindOf y == some .local && py.line == pos.line && !(scope.names.any fun (n, k) => n == y && (k == .local || k == .cell))) := by
  unfold swapsWith
  rfl
theorem sAsgC {X : Cx} {fnb : Str → Bool} {sc : Scope} {N : List Str} (g : Good fs k fnb sc N X) (it : It) (tg : Tg) (c : Eo) (e : E) (own : List (Str × Nat)) (pe : PySem.Expr) (h : chkE fs N (.comp it tg c e own) sc fnb pe = true)
    {i : Nat} {y : Str} {py pos : Pos} (h1 : (N[i]? == some y) = true) (h2 : locB sc fnb y = true) : PS X (.Assign [.Name y py] pe pos) (tS X.K (evS (evCall fs k) (.asg (.name i) (.comp it tg c e own)))) := by
  obtain ⟨l1, l2⟩ := g.loc h2
  obtain ⟨pelt, ptg, piter, pifs, scope, pos', rfl, hi, ok, hg, ht, he, hs, hsl⟩ := sComp g it tg c e own pe (fun pe str ptg h ht => sI g it pe str ptg h ht) (fun scope pifs h9 h hl s H C cl fp => sC (g.blk h9) c pifs h hl) (fun scope pe h9 h s H C cl fp => sE (g.blk h9) e pe h) h
  have hN : X.N.Nodup := by rw [g.eN]; exact g.nd
  have main : PS X (.Assign [.Name y py] (.ListComp pelt [⟨ptg, piter, pifs, 0⟩] scope pos') pos) (tAsg (tE X.K (evE (evCall fs k) (.comp it tg c e own))) (gName i)) := by
    cases eb : (X.env.blockKind == .function && X.env.kindOf y == some .local && py.line == pos'.line && !(scope.names.any fun (n, k) => n == y && (k == .local || k == .cell))) with
    | true =>
      obtain ⟨eb1, b4⟩ := and2 eb
      obtain ⟨eb1, b3⟩ := and2 eb1
      obtain ⟨b1, b2⟩ := and2 eb1
      have hyl : X.env.scope.names.lookup y = some .local := by
        have b2 : (X.env.scope.names.lookup y == some .local) = true := b2
        revert b2
        cases X.env.scope.names.lookup y with
        | none => intro b; cases b
        | some kk => cases kk <;> intro b <;> first | rfl | cases b
      exact (ps_setLc g.calm hN (g.ix h1) hyl (by rw [sw_val, eb]) hi ok hg ht he hs).weak fun D σ H h => by
        obtain ⟨m, ls, lh, R, S, q⟩ := h
        exact comp_core hsl R S q
    | false => exact ps_set hN (g.ix h1) l1 ((pe_lc g.calm hN hi ok hg ht he hs).weak fun σ H Q ⟨m, ls, lh, R, S, q⟩ => comp_core hsl R S q) (by rw [sw_val, eb]) l2
  exact sAsgN main

theorem isC {pe : PySem.Expr} {e : E} {N : List Str} {sc : Scope} {fnb : Str → Bool} (h : (!isComp pe || (match e with
        | .comp _ _ _ _ _ => true
        | _ => false)) = true) : isComp pe = false ∨ ∃ it tg c e' own, e = .comp it tg c e' own := by
  cases hb : isComp pe with
  | false => exact .inl rfl
  | true =>
    rw [hb] at h
    cases e <;> first | (exact .inr ⟨_, _, _, _, _, rfl⟩) | (exact absurd h Bool.false_ne_true)
theorem passOwn {fnb : Str → Bool} {sc : Scope} {N : List Str} (g : Good fs k fnb sc N X) : PassesOwn (model X.prog X.w) X.A X.env X.xe := by rw [g.xe]; exact PassesOwn.never

theorem not_true' {b : Bool} (h : (!b) = true) : b = false := by cases b; rfl; cases h
mutual
theorem sS {X : Cx} {fnb : Str → Bool} {sc : Scope} {N : List Str} (g : Good fs k fnb sc N X) : ∀ (s : S) (st : PySem.Stmt), chkS fs N s sc fnb st = true → PS X st (tS X.K (evS (evCall fs k) s))
  | .asg t e, st, h => by
    unfold chkS at h
    split at h
    · rename_i pt pe pos
      obtain ⟨h, h3⟩ := and2 h
      obtain ⟨h1, h2⟩ := and2 h
      split at h3
      · rename_i y py
        have h1' := h1
        unfold chkT at h1'
        cases t with
        | name i =>
          simp only at h1'
          obtain ⟨c1, c2⟩ := and2 h1'
          rcases isC (N := N) (sc := sc) (fnb := fnb) h3 with hc | ⟨it, tg, c, e', own, rfl⟩
          · obtain ⟨l1, l2⟩ := g.loc c2
            exact sAsgN (ps_set (by rw [g.eN]; exact g.nd) (g.ix c1) l1 (sE g e _ h2) (notComp hc) l2)
          · exact sAsgC g it tg c e' own _ h2 c1 c2
        | tup ts => simp only at h1'; cases h1'
        | sub _ _ => simp only at h1'; cases h1'
      · obtain ⟨c1, c2⟩ := and2 h3
        refine sAsg (ps_asg (sE g e _ h2) (gWeakStr (sG g t _ h1)) (show swapsWithSole _ _ _ _ = _ from by unfold swapsWithSole; exact notComp (not_true' c1)) ?_ rfl)
        cases pe <;> first | rfl | (exact absurd c2 Bool.false_ne_true)
      · rename_i hn1 hn2
        cases t with
        | name i =>
          unfold chkT at h1
          split at h1
          · exact (hn1 _ _ rfl).elim
          · cases h1
        | tup ts =>
          unfold chkT at h1
          split at h1
          · exact (hn2 _ _ _ rfl).elim
          · cases h1
        | sub o i =>
          have hG := sG g (.sub o i) _ h1
          unfold chkT at h1
          split at h1
          · exact sAsg (ps_asg (sE g e _ h2) hG (show swapsWithSole _ _ _ _ = _ from by unfold swapsWithSole; exact notComp (not_true' h3)) rfl rfl)
          · cases h1
    · cases h
  | .par i j a b, st, h => by
    unfold chkS at h
    split at h <;> cases h
  | .aug i op e, st, h => by
    unfold chkS at h
    split at h
    · obtain ⟨h, h5⟩ := and2 h
      obtain ⟨h, h4⟩ := and2 h
      obtain ⟨h, h3⟩ := and2 h
      obtain ⟨h1, h2⟩ := and2 h
      obtain rfl := of_decide_eq_true h3
      obtain ⟨l1, l2⟩ := g.loc h2
      exact sAug op (ps_aug (by rw [g.eN]; exact g.nd) (g.ix h1) l1 (sE g e _ h5) (op_A op) l2)
    · cases h
  | .expr e, st, h => by
    unfold chkS at h
    split at h
    · obtain ⟨h1, h2⟩ := and2 h
      exact sExpr (ps_expr (sE g e _ h1) (notComp (not_true' h2)))
    · cases h
  | .ret e, st, h => by
    unfold chkS at h
    split at h
    · exact sRet (sE g e _ h)
    · cases h
  | .retN, st, h => by
    unfold chkS at h
    split at h
    · exact sRetN
    · cases h
  | .if_ c a b, st, h => by
    unfold chkS at h
    split at h
    · obtain ⟨h, h3⟩ := and2 h
      obtain ⟨h1, h2⟩ := and2 h
      exact sIf (sT g c _ h1) (sSs g a _ h2) (sSs g b _ h3)
    · cases h
  | .for_ it t b, st, h => by
    unfold chkS at h
    split at h
    · obtain ⟨h, h4⟩ := and2 h
      obtain ⟨h, h3⟩ := and2 h
      obtain ⟨h1, h2⟩ := and2 h
      exact sFor (ps_for (passOwn g) g.calm (sI g it _ t.str _ h1 (t_tup h3)) (sG g t _ h3) (sSs g b _ h4) (fold_of h2))
    · cases h
  | .while_ c b, st, h => by
    unfold chkS at h
    split at h
    · obtain ⟨h1, h2⟩ := and2 h
      exact sWhile (ps_while (passOwn g) (sT g c _ h1) (sSs g b _ h2))
    · cases h
  | .brk, st, h => by
    unfold chkS at h
    split at h
    · exact sBrk
    · cases h
  | .cont, st, h => by
    unfold chkS at h
    split at h
    · exact sCont
    · cases h
  | .pass, st, h => by
    unfold chkS at h
    split at h
    · exact sPass
    · cases h
theorem sSs {X : Cx} {fnb : Str → Bool} {sc : Scope} {N : List Str} (g : Good fs k fnb sc N X) : ∀ (s : Ss) (st : List PySem.Stmt), chkSs fs N s sc fnb st = true → PSs X st (tS X.K (evSs (evCall fs k) s))
  | .nil, st, h => by
    unfold chkSs at h
    split at h
    · exact ssNil
    · cases h
  | .cons s r, st, h => by
    unfold chkSs at h
    split at h
    · obtain ⟨h1, h2⟩ := and2 h
      exact ssCons (sS g s _ h1) (sSs g r _ h2)
    · cases h
end
end G

set_option maxHeartbeats 4000000
namespace G
open PySem L2
variable {K : PySem.W.Frag} {m m' m2 : Nat → Addr} {n n' : Nat} {H H' H2 : Hp} {lh lh' lh2 : LH} {X : Cx} {σ : L2.St} {ls : LS}

/-! ### a call's own heap -/
mutual
theorem RepV.flat : ∀ {d : D} {v : V}, D.flat d = true → RepV K m n H d v → RepV K m' n' H d v
  | _, _, _, .non => .non
  | _, _, _, .bl b => .bl b
  | _, _, _, .int i => .int i
  | _, _, _, .str s => .str s
  | _, _, h, .tup s r => .tup s (RepVs.flat (by unfold D.flat at h; exact h) r)
  | _, _, h, .ref _ => by unfold D.flat at h; cases h
  | _, _, h, .scr _ => by unfold D.flat at h; cases h
theorem RepVs.flat : ∀ {ds : List D} {vs : List V}, D.flats ds = true → RepVs K m n H ds vs → RepVs K m' n' H ds vs
  | _, _, _, .nil => .nil
  | _, _, h, .cons r t => .cons (RepV.flat (by unfold D.flats at h; exact (and2 h).1) r) (RepVs.flat (by unfold D.flats at h; exact (and2 h).2) t)
end
/-- the two ways to places, one behind the other -/
def catM (m : Nat → Addr) (n : Nat) (m' : Nat → Addr) : Nat → Addr := fun k => if k < n then m k else m' (k - n)
theorem catM_lt {k : Nat} (h : k < n) : catM m n m' k = m k := by unfold catM; rw [if_pos h]
theorem catM_ge {k : Nat} : catM m n m' (k + n) = m' k := by unfold catM; rw [if_neg (by omega), Nat.add_sub_cancel]
mutual
theorem RepV.move {n : Nat} : ∀ {d : D} {v : V}, RepV K m' n' H d v → RepV K (catM m n m') (n + n') H (D.move n d) v
  | _, _, .non => .non
  | _, _, .bl b => .bl b
  | _, _, .int i => .int i
  | _, _, .str s => .str s
  | _, _, .tup s r => by unfold D.move; exact .tup s (RepVs.move r)
  | .ref k, _, .ref h => by unfold D.move; rw [show m' k = catM m n m' (k + n) from catM_ge.symm]; exact .ref (by omega)
  | _, _, .scr s => .scr s
theorem RepVs.move {n : Nat} : ∀ {ds : List D} {vs : List V}, RepVs K m' n' H ds vs → RepVs K (catM m n m') (n + n') H (D.moves n ds) vs
  | _, _, .nil => by unfold D.moves; exact .nil
  | _, _, .cons r t => by unfold D.moves; exact .cons (RepV.move r) (RepVs.move t)
end
/-- what a call in an empty heap left, seen from the caller's heap -/
theorem Step.wide (S : Step m2 [] H m' lh' H') : Step m lh H m lh H' :=
  ⟨fun _ _ => rfl, Nat.le_refl _, fun k h1 h2 => absurd h2 (Nat.not_lt.mpr h1), fun b o h _ => S.frame b o h (fun k hk => absurd hk (Nat.not_lt_zero k))⟩
theorem Rel.wide (R : Rel K m lh H) (S : Step m2 [] H m' lh' H') : Rel K m lh H' := by
  have S0 : Step m lh H m lh H' := S.wide
  refine ⟨fun k o e => ?_, R.inj⟩
  have q := R.obj k o e
  have fr : ∀ b w, H b = some w → H' b = some w := fun b w h => S.frame b w h (fun k hk => absurd hk (Nat.not_lt_zero k))
  cases o with
  | lst ds => obtain ⟨vs, h1, h2⟩ := q; exact ⟨vs, fr _ _ h1, S0.repVs R h2⟩
  | dct kvs => exact q.elim
  | st a => obtain ⟨i, j, c, ha, h1, h2⟩ := q; exact ⟨i, j, c, ha, fr _ _ h1, h2⟩
  | opq => obtain ⟨ns, h1⟩ := q; exact ⟨ns, fr _ _ h1⟩
theorem Rel.cat (R : Rel K m lh H) (S : Step m2 [] H m' lh' H') (R' : Rel K m' lh' H') :
    Rel K (catM m lh.length m') (lh ++ lh'.map (LO.move lh.length)) H' ∧ Step m lh H (catM m lh.length m') (lh ++ lh'.map (LO.move lh.length)) H' := by
  have hl : (lh ++ lh'.map (LO.move lh.length)).length = lh.length + lh'.length := by simp
  have RW := R.wide S
  have S1 : Step m lh H (catM m lh.length m') (lh ++ lh'.map (LO.move lh.length)) H' := by
    refine ⟨fun k h => catM_lt h, by omega, fun k h1 h2 => ?_, fun b o h _ => S.frame b o h (fun k hk => absurd hk (Nat.not_lt_zero k))⟩
    obtain ⟨j, rfl⟩ : ∃ j, k = j + lh.length := ⟨k - lh.length, by omega⟩
    rw [catM_ge]
    exact S.fresh j (Nat.zero_le _) (by omega)
  refine ⟨⟨fun k o e => ?_, fun i j hi hj e => ?_⟩, S1⟩
  · by_cases hk : k < lh.length
    · rw [List.getElem?_append_left hk] at e
      rw [catM_lt hk, hl]
      have q := RW.obj k o e
      cases o with
      | lst ds => obtain ⟨vs, h1, h2⟩ := q; exact ⟨vs, h1, h2.to (fun k hk => catM_lt hk) (by omega) (fun _ _ x => x) (fun _ _ x => x)⟩
      | dct kvs => exact q.elim
      | st a => obtain ⟨i, j, c, ha, h1, h2⟩ := q; exact ⟨i, j, c, by omega, by rw [catM_lt ha]; exact h1, h2⟩
      | opq => exact q
    · obtain ⟨j, rfl⟩ : ∃ j, k = j + lh.length := ⟨k - lh.length, by omega⟩
      rw [List.getElem?_append_right (by omega), Nat.add_sub_cancel, List.getElem?_map] at e
      cases e2 : lh'[j]? with
      | none => rw [e2] at e; cases e
      | some o2 =>
        rw [e2] at e
        cases e
        rw [catM_ge, hl]
        have q := R'.obj j o2 e2
        cases o2 with
        | lst ds => obtain ⟨vs, h1, h2⟩ := q; exact ⟨vs, h1, h2.move⟩
        | dct kvs => exact q.elim
        | st a => obtain ⟨i, j', c, ha, h1, h2⟩ := q; exact ⟨i, j', c, by omega, by rw [catM_ge]; exact h1, h2⟩
        | opq => exact q
  · rw [hl] at hi hj
    have cross : ∀ a b, a < lh.length → b < lh'.length → m a = m' b → False := fun a b ha hb e => by
      obtain ⟨vs, q⟩ := R.some_ ha
      rw [e, S.fresh b (Nat.zero_le _) hb] at q
      cases q
    by_cases h1 : i < lh.length
    · by_cases h2 : j < lh.length
      · rw [catM_lt h1, catM_lt h2] at e; exact R.inj i j h1 h2 e
      · obtain ⟨b, rfl⟩ : ∃ b, j = b + lh.length := ⟨j - lh.length, by omega⟩
        rw [catM_lt h1, catM_ge] at e
        exact (cross i b h1 (by omega) e).elim
    · obtain ⟨a, rfl⟩ : ∃ a, i = a + lh.length := ⟨i - lh.length, by omega⟩
      by_cases h2 : j < lh.length
      · rw [catM_lt h2, catM_ge] at e
        exact (cross j a h2 (by omega) e.symm).elim
      · obtain ⟨b, rfl⟩ : ∃ b, j = b + lh.length := ⟨j - lh.length, by omega⟩
        rw [catM_ge, catM_ge] at e
        rw [R'.inj a b (by omega) (by omega) e]
theorem takeIn_ok (R : Rel K m lh H) {r : D × LH} {v : V} {Q : VK} (S : Step m2 [] H m' r.2 H') (R' : Rel K m' r.2 H') (rv : RepV K m' r.2.length H' r.1 v) (p : (takeIn lh r).All (Post K m lh H Q)) : Q v H' := by
  obtain ⟨d, l⟩ := r
  have RW := R.wide S
  have SW : Step m lh H m lh H' := S.wide
  unfold takeIn at p
  split at p
  · rename_i hf
    rw [D.force_eq] at p
    exact (show Post K m lh H Q (d, lh) from p) m H' v SW RW (rv.flat hf)
  · have gen : (T.ret (D.move lh.length d, lh ++ l.map (LO.move lh.length)) : T (D × LH)).All (Post K m lh H Q) → Q v H' := fun p => by
      obtain ⟨RC, SC⟩ := R.cat S R'
      refine (show Post K m lh H Q (D.move lh.length d, lh ++ l.map (LO.move lh.length)) from p) _ H' v SC RC ?_
      have := RepV.move (m := m) (n := lh.length) rv
      simpa using this
    split at p
    · rename_i k hd
      have hd : d = .ref k := hd
      subst hd
      split at p
      · rename_i xs e
        split at p
        · rename_i hf
          rw [D.forces_eq] at p
          have e : l[k]? = some (.lst xs) := e
          have hk : k < l.length := (List.getElem?_eq_some_iff.mp e).1
          obtain ⟨vs, h1, h2⟩ := R'.obj k _ e
          have ho : ∀ j, j < lh.length → m j ≠ m' k := fun j hj z => by
            obtain ⟨ws, q⟩ := R.some_ hj
            rw [z, S.fresh k (Nat.zero_le _) hk] at q
            cases q
          have RA := RW.adopt h1 ho (h2.flat hf)
          have e2 : extM m lh.length (m' k) lh.length = m' k := by unfold extM; rw [if_pos rfl]
          have SA : Step m lh H (extM m lh.length (m' k)) (lh ++ [.lst xs]) H' := by
            refine ⟨fun j hj => by unfold extM; rw [if_neg (Nat.ne_of_lt hj)], by simp, fun j h1 h2 => ?_, SW.frame⟩
            have ej : j = lh.length := by rw [List.length_append, List.length_singleton] at h2; omega
            rw [ej, e2]
            exact S.fresh k (Nat.zero_le _) hk
          cases rv
          have := (show Post K m lh H Q (.ref lh.length, lh ++ [.lst xs]) from p) _ H' (.ref (extM m lh.length (m' k) lh.length)) SA RA (.ref (by simp))
          rw [e2] at this
          exact this
        · exact gen p
      · exact p.elim
    · exact gen p

/-! ### a def's body -/
theorem repV_start {as : List D} {vs : List V} {N : List Str} (h : RepVs K m n H as vs) : RelS K m n H (startLS N as) (L2.start N vs) := by
  refine ⟨by unfold startLS L2.start; simp [h.length], fun i d e => ?_⟩
  unfold startLS at e
  unfold L2.start
  by_cases hi : i < as.length
  · rw [List.getElem?_append_left (by simpa using hi), List.getElem?_map] at e
    cases e2 : as[i]? with
    | none => rw [e2] at e; cases e
    | some d2 =>
      rw [e2] at e
      cases e
      obtain ⟨v, e3, r⟩ := h.get e2
      exact ⟨v, by rw [List.getElem?_append_left (by rw [List.length_map, ← h.length]; exact hi), List.getElem?_map, e3]; rfl, r⟩
  · rw [List.getElem?_append_right (by simpa using hi), List.length_map, List.getElem?_replicate] at e
    split at e <;> cases e
theorem Rel.empty : Rel K m [] H := ⟨fun k o e => absurd e (by simp), fun i j hi => absurd hi (Nat.not_lt_zero i)⟩
theorem retOf_ok {Q : VK} {t : TrS} (h : ((t ls lh).bind retOf).All (Post K m lh H Q)) (R : Rel K m lh H) (S : RelS K m lh.length H ls σ) : tS K t { nx := fun _ H' => Q .non H', rt := Q } σ H := by
  refine ⟨m, ls, lh, R, S, (T.all_bind.mp h).mono fun r p m1 H1 σ1 S1 R1 RS1 => ?_⟩
  obtain ⟨fl, ls1, l1⟩ := r
  cases fl with
  | nx => exact (show Post K m lh H Q (.non, l1) from p) m1 H1 .non S1 R1 .non
  | ret d => exact fun v rv => (show Post K m lh H Q (d, l1) from p) m1 H1 v S1 R1 rv
  | brk => exact (show False from p).elim
  | cont => exact (show False from p).elim
theorem body_ok {ca : CA} {f : Df} {b : Ss} {as : List D} {vs : List V} {Q : VK} (hk : f.kd = .code b) (R : Rel K m lh H) (ra : RepVs K m lh.length H as vs) (p : (runDf ca f as lh).All (Post K m lh H Q)) :
    tS K (evSs ca b) { nx := fun _ H' => Q .non H', rt := Q } (L2.start f.N vs) H := by
  unfold runDf at p
  rw [hk] at p
  simp only at p
  split at p
  · split at p
    · rename_i hf
      rw [D.forces_eq] at p
      refine retOf_ok (m := m) (lh := []) (ls := startLS f.N as) ?_ .empty (repV_start (ra.flat hf))
      exact (T.all_bind.mp p).mono fun r q m' H' v S' R' rv => takeIn_ok R S' R' rv q
    · exact retOf_ok p R (repV_start ra)
  · exact p.elim
end G

set_option maxHeartbeats 4000000
namespace G
open PySem L2

/-! ### the draw, in the small machine's own words -/
def drN : List Str := ["state", "most", "found", "cell", "mixed"]
def dr1 : S := .asg (.sub (.var 0) (.int 3)) (.bin .add (.idx (.var 0) (.int 3)) (.int 1))
def dr2b : Ss := .cons (.asg (.name 2) (.bin .mod (.fn .int (.cons (.idx (.var 0) (.int 2)) .nil)) (.var 1)))
    (.cons (.asg (.sub (.var 0) (.int 2)) (.bin .fdiv (.idx (.var 0) (.int 2)) (.var 1)))
    (.cons (.ret (.var 2)) .nil))
def dr2 : S := .if_ (.cmp .gt (.idx (.var 0) (.int 2)) (.int 0)) dr2b .nil
def dr3 : S := .asg (.name 3) (.int 0)
def dr4b : S := .asg (.name 3) (.fn .abs (.cons (.idx (.idx (.var 0) (.int 0)) (.bin .mod (.fn .int (.cons (.idx (.var 0) (.int 1)) .nil)) (.fn .len (.cons (.idx (.var 0) (.int 0)) .nil)))) .nil))
def dr4 : S := .if_ (.cmp .gt (.fn .len (.cons (.idx (.var 0) (.int 0)) .nil)) (.int 0)) (.cons dr4b .nil) .nil
def dr5 : S := .asg (.sub (.var 0) (.int 1)) (.bin .add (.idx (.var 0) (.int 1)) (.int 1))
def dr6b : Ss := .cons (.asg (.sub (.var 0) (.int 2)) (.bin .fdiv (.var 3) (.var 1)))
    (.cons (.ret (.bin .mod (.fn .int (.cons (.var 3) .nil)) (.var 1))) .nil)
def dr6 : S := .if_ (.cmp .ge (.var 3) (.bin .pow (.int 10) (.int 18))) dr6b .nil
def dr7 : S := .asg (.name 4) (.bin .mod (.fn .int (.cons (.bin .add (.bin .mul (.bin .add (.var 3) (.int 1)) (.int 48271)) (.bin .mul (.idx (.var 0) (.int 3)) (.int 69621))) .nil)) (.int 2147483647))
def dr8 : S := .asg (.name 4) (.bin .mod (.fn .int (.cons (.bin .add (.bin .add (.bin .mul (.var 4) (.int 16807)) (.bin .fdiv (.var 3) (.int 97))) (.idx (.var 0) (.int 3))) .nil)) (.int 2147483629))
def dr9 : S := .ret (.bin .mod (.bin .fdiv (.var 4) (.int 11)) (.var 1))
def drB : Ss := .cons dr1 (.cons dr2 (.cons dr3 (.cons dr4 (.cons dr5 (.cons dr6 (.cons dr7 (.cons dr8 (.cons dr9 .nil))))))))

section
variable {ca : CA} {lh : LH} {k a : Nat} {i j c m : Int} {ns : List Int} {x2 x3 x4 : Option D}
theorem at0 {x : List D} {y z w : D} {d : D} : L2.atI [d, y, z, w] 0 = some d := rfl
theorem at1 {y z w d : D} : L2.atI [y, d, z, w] 1 = some d := rfl
theorem at2 {y z w d : D} : L2.atI [y, z, d, w] 2 = some d := rfl
theorem at3 {y z w d : D} : L2.atI [y, z, w, d] 3 = some d := rfl
/-- reading a cell of the state -/
theorem ev_st {t : Int} {d : D} {xs : List D} {ls : LS} (h0 : ls[0]? = some (some (.ref k))) (h : lget lh k = some xs) (ht : L2.atI xs t = some d) : evE ca (.idx (.var 0) (.int t)) ls lh = .ret (d, lh) := by
  unfold evE evE
  rw [h0]
  show idxOp (.ref k) (.int t) lh = _
  unfold idxOp seqOf
  simp only [h, ht]
theorem ev_var {t : Nat} {d : D} {ls : LS} (h : ls[t]? = some (some d)) : evE ca (.var t) ls lh = .ret (d, lh) := by
  unfold evE
  rw [h]
theorem ev_set {t : Int} {nn : Nat} {d : D} {xs : List D} {e : E} {ls : LS} (h0 : ls[0]? = some (some (.ref k))) (he : evE ca e ls lh = .ret (d, lh)) (h : lget lh k = some xs) (hn : L2.ixN xs.length t = some nn) :
    evS ca (.asg (.sub (.var 0) (.int t)) e) ls lh = .ret (.nx, ls, lh.set k (.lst (xs.set nn d))) := by
  unfold evS
  rw [he]
  show (evTg ca (.sub (.var 0) (.int t)) d ls lh).bind _ = _
  unfold evTg
  rw [ev_var h0]
  unfold evE
  simp only [T.bind, h, hn]
theorem ev_bin {op : Bop} {e1 e2 : E} {d1 d2 d : D} {ls : LS} (h1 : evE ca e1 ls lh = .ret (d1, lh)) (h2 : evE ca e2 ls lh = .ret (d2, lh)) (h : opB op d1 d2 lh = .ret (d, lh)) : evE ca (.bin op e1 e2) ls lh = .ret (d, lh) := by
  unfold evE
  rw [h1]
  show (evE ca e2 ls lh).bind _ = _
  rw [h2]
  exact h
theorem ev_f1 {f : Fn} {e1 : E} {d1 d : D} {ls : LS} (h1 : evE ca e1 ls lh = .ret (d1, lh)) (h : fnOp f [d1] lh = .ret (d, lh)) : evE ca (.fn f (.cons e1 .nil)) ls lh = .ret (d, lh) := by
  unfold evE evEs evEs
  rw [h1]
  exact h
theorem ev_int {t : Int} {ls : LS} : evE ca (.int t) ls lh = .ret (.int t, lh) := by unfold evE; rfl
theorem ev_nm {t : Nat} {e : E} {d : D} {ls : LS} (h : evE ca e ls lh = .ret (d, lh)) : evS ca (.asg (.name t) e) ls lh = .ret (.nx, ls.set t (some d), lh) := by
  unfold evS
  rw [h]
  rfl
theorem ev_ret {e : E} {d : D} {ls : LS} (h : evE ca e ls lh = .ret (d, lh)) : evS ca (.ret e) ls lh = .ret (.ret d, ls, lh) := by
  unfold evS
  rw [h]
  rfl
theorem ev_ix {e1 e2 : E} {d1 d2 d : D} {ls : LS} (h1 : evE ca e1 ls lh = .ret (d1, lh)) (h2 : evE ca e2 ls lh = .ret (d2, lh)) (h : idxOp d1 d2 lh = .ret (d, lh)) : evE ca (.idx e1 e2) ls lh = .ret (d, lh) := by
  unfold evE
  rw [h1]
  show (evE ca e2 ls lh).bind _ = _
  rw [h2]
  exact h
theorem ev_if {cp : Cop} {e1 e2 : E} {d1 d2 : D} {b : Bool} {u v : Ss} {ls : LS} (h1 : evE ca e1 ls lh = .ret (d1, lh)) (h2 : evE ca e2 ls lh = .ret (d2, lh)) (h : opC cp d1 d2 lh = some b) : evS ca (.if_ (.cmp cp e1 e2) u v) ls lh = if b then evSs ca u ls lh else evSs ca v ls lh := by
  unfold evS evT
  rw [h1]
  show ((((evE ca e2 ls lh).bind _)).bind _) = _
  rw [h2]
  simp only [T.bind, h]
theorem ss_cons {s : S} {r : Ss} {ls ls' : LS} {lh' : LH} {z : T R3} (h : evS ca s ls lh = .ret (.nx, ls', lh')) (hr : evSs ca r ls' lh' = z) : evSs ca (.cons s r) ls lh = z := by
  rw [evSs, h]
  exact hr
theorem ss_end {s : S} {r : Ss} {ls ls' : LS} {lh' : LH} {d : D} (h : evS ca s ls lh = .ret (.ret d, ls', lh')) : evSs ca (.cons s r) ls lh = .ret (.ret d, ls', lh') := by
  rw [evSs, h]
  rfl
theorem ss_nil {ls : LS} : evSs ca .nil ls lh = .ret (.nx, ls, lh) := by rw [evSs]
theorem lget_set {xs : List D} (h : k < lh.length) : lget (lh.set k (.lst xs)) k = some xs := by
  unfold lget
  rw [List.getElem?_set_self h]
theorem lget_ne {k a : Nat} {o : LO} (h : k ≠ a) : lget (lh.set k o) a = lget lh a := by
  unfold lget
  rw [List.getElem?_set_ne h]
theorem fmod_in {x m : Int} (h : 0 < m) : 0 ≤ x.fmod m ∧ x.fmod m < m := by
  rw [Int.fmod_eq_emod_of_nonneg x (by omega)]
  exact ⟨Int.emod_nonneg x (by omega), Int.emod_lt_of_pos x h⟩
theorem fdiv_in {x m : Int} (hx : 0 ≤ x) (h : 0 < m) : 0 ≤ x.fdiv m := by
  rw [Int.fdiv_eq_ediv_of_nonneg x (by omega)]
  exact Int.ediv_nonneg hx (by omega)
theorem o_mod {x m : Int} (h : 0 < m) : opB .mod (.int x) (.int m) lh = .ret (.int (x.fmod m), lh) := by
  have : m ≠ 0 := by omega
  simp [opB, this]
theorem o_fdiv {x m : Int} (h : 0 < m) (h2 : m < 1073741824) : opB .fdiv (.int x) (.int m) lh = .ret (.int (x.fdiv m), lh) := by
  have h3 : m ≠ 0 := by omega
  have h4 : m.natAbs < 1073741824 := by omega
  simp [opB, h3, h4]
theorem o_mul {x m : Int} (h : small m = true) : opB .mul (.int x) (.int m) lh = .ret (.int (x * m), lh) := by
  simp [opB, h]
theorem o_add {x m : Int} : opB .add (.int x) (.int m) lh = .ret (.int (x + m), lh) := rfl
/-- what a draw does: a number below its bound; the state goes on -/
theorem draw_run (hk : lget lh k = some [.ref a, .int i, .int j, .int c]) (ha : lget lh a = some (ns.map D.int)) (ka : k ≠ a) (hm : 0 < m) (hm2 : m < 1073741824) (hi : 0 ≤ i) (hj : 0 ≤ j) (hc : 0 ≤ c) :
    ∃ (r i' j' c' : Int) (ls : LS), 0 ≤ r ∧ r < m ∧ 0 ≤ i' ∧ 0 ≤ j' ∧ 0 ≤ c' ∧ evSs ca drB [some (.ref k), some (.int m), none, none, none] lh = .ret (.ret (.int r), ls, lh.set k (.lst [.ref a, .int i', .int j', .int c'])) := by
  have kl : k < lh.length := (lget_some hk).2
  -- state[3] += 1
  have e1 := ev_set (ca := ca) (ls := [some (.ref k), some (.int m), none, none, none]) (t := 3) (nn := 3) rfl (ev_bin (op := .add) (ev_st rfl hk at3) (ev_int (t := 1)) o_add) hk rfl
  have hk1 : lget (lh.set k (.lst [.ref a, .int i, .int j, .int (c + 1)])) k = some [.ref a, .int i, .int j, .int (c + 1)] := lget_set kl
  have ha1 : lget (lh.set k (.lst [.ref a, .int i, .int j, .int (c + 1)])) a = some (ns.map D.int) := by rw [lget_ne ka]; exact ha
  generalize hl1 : lh.set k (.lst [.ref a, .int i, .int j, .int (c + 1)]) = l1 at hk1 ha1
  have kl1 : k < l1.length := by rw [← hl1, List.length_set]; exact kl
  have e1 : evS ca dr1 [some (.ref k), some (.int m), none, none, none] lh = .ret (.nx, [some (.ref k), some (.int m), none, none, none], l1) := by rw [← hl1]; exact e1
  have back : ∀ o, l1.set k o = lh.set k o := fun o => by rw [← hl1, List.set_set]
  have fin : ∀ {z}, evSs ca (.cons dr2 (.cons dr3 (.cons dr4 (.cons dr5 (.cons dr6 (.cons dr7 (.cons dr8 (.cons dr9 .nil)))))))) [some (.ref k), some (.int m), none, none, none] l1 = z → evSs ca drB [some (.ref k), some (.int m), none, none, none] lh = z := fun h => ss_cons e1 h
  -- if state[2] > 0
  have e2 := ev_if (ca := ca) (cp := .gt) (u := dr2b) (v := .nil) (ls := [some (.ref k), some (.int m), none, none, none]) (ev_st rfl hk1 at2) (ev_int (t := 0)) (b := decide (0 < j)) rfl
  by_cases hj0 : 0 < j
  · rw [decide_eq_true hj0] at e2
    have f1 := ev_nm (ca := ca) (t := 2) (ls := [some (.ref k), some (.int m), none, none, none]) (ev_bin (op := .mod) (ev_f1 (f := .int) (ev_st rfl hk1 at2) rfl) (ev_var (t := 1) rfl) (o_mod hm))
    have f2 := ev_set (ca := ca) (ls := [some (.ref k), some (.int m), some (.int (j.fmod m)), none, none]) (t := 2) (nn := 2) rfl (ev_bin (op := .fdiv) (ev_st rfl hk1 at2) (ev_var (t := 1) rfl) (o_fdiv hm hm2)) hk1 rfl
    have f3 : evSs ca dr2b [some (.ref k), some (.int m), none, none, none] l1 = _ := ss_cons f1 (ss_cons f2 (ss_end (ev_ret (ev_var (t := 2) rfl))))
    refine ⟨j.fmod m, i, j.fdiv m, c + 1, _, (fmod_in hm).1, (fmod_in hm).2, hi, fdiv_in hj hm, by omega, fin (ss_end (ls' := [some (.ref k), some (.int m), some (.int (j.fmod m)), none, none]) ?_)⟩
    refine e2.trans (Eq.trans (if_pos rfl) (f3.trans ?_))
    show T.ret (Fl.ret (.int (j.fmod m)), _, l1.set k (.lst [.ref a, .int i, .int (j.fdiv m), .int (c + 1)])) = _
    rw [back]
  · rw [decide_eq_false hj0] at e2
    have e2 : evS ca dr2 [some (.ref k), some (.int m), none, none, none] l1 = .ret (.nx, _, l1) := e2.trans ((if_neg Bool.false_ne_true).trans ss_nil)
    have e3 : evS ca dr3 [some (.ref k), some (.int m), none, none, none] l1 = .ret (.nx, [some (.ref k), some (.int m), none, some (.int 0), none], l1) := ev_nm ev_int
    -- the cell
    have e4 : ∃ x : Int, 0 ≤ x ∧ evS ca dr4 [some (.ref k), some (.int m), none, some (.int 0), none] l1 = .ret (.nx, [some (.ref k), some (.int m), none, some (.int x), none], l1) := by
      have hl : fnOp .len [.ref a] l1 = .ret (.int ns.length, l1) := by
        unfold fnOp seqOf
        simp only [ha1, List.length_map]
      have t4 := ev_if (ca := ca) (cp := .gt) (u := .cons dr4b .nil) (v := .nil) (ls := [some (.ref k), some (.int m), none, some (.int 0), none]) (ev_f1 (f := .len) (ev_st rfl hk1 (at0 (x := []))) hl) (ev_int (t := 0)) (b := decide ((0 : Int) < ns.length)) rfl
      by_cases hn : (0 : Int) < ns.length
      · rw [decide_eq_true hn] at t4
        obtain ⟨q1, q2⟩ := fmod_in (x := i) hn
        obtain ⟨t, et⟩ : ∃ t : Nat, i.fmod ns.length = (t : Int) := ⟨(i.fmod ns.length).toNat, by omega⟩
        have ht : t < ns.length := by omega
        have ei : idxOp (.ref a) (.int (i.fmod ns.length)) l1 = .ret (.int ns[t], l1) := by
          unfold idxOp seqOf
          rw [et]
          have : L2.atI (ns.map D.int) (t : Int) = some (.int ns[t]) := L2.atI_nat (by rw [List.getElem?_map, List.getElem?_eq_getElem ht]; rfl)
          simp only [ha1, this]
        have g1 := ev_nm (ca := ca) (t := 3) (ls := [some (.ref k), some (.int m), none, some (.int 0), none]) (ev_f1 (f := .abs) (ev_ix (ev_st rfl hk1 (at0 (x := []))) (ev_bin (op := .mod) (ev_f1 (f := .int) (ev_st rfl hk1 at1) rfl) (ev_f1 (f := .len) (ev_st rfl hk1 (at0 (x := []))) hl) (o_mod hn)) ei) rfl)
        refine ⟨if ns[t] < 0 then -ns[t] else ns[t], by split <;> omega, t4.trans ((if_pos rfl).trans (ss_cons g1 ss_nil))⟩
      · rw [decide_eq_false hn] at t4
        exact ⟨0, by omega, t4.trans ((if_neg Bool.false_ne_true).trans ss_nil)⟩
    obtain ⟨x, hx, e4⟩ := e4
    have e5 := ev_set (ca := ca) (ls := [some (.ref k), some (.int m), none, some (.int x), none]) (t := 1) (nn := 1) rfl (ev_bin (op := .add) (ev_st rfl hk1 at1) (ev_int (t := 1)) o_add) hk1 rfl
    have hk2 : lget (lh.set k (.lst [.ref a, .int (i + 1), .int j, .int (c + 1)])) k = some [.ref a, .int (i + 1), .int j, .int (c + 1)] := lget_set kl
    generalize hl2 : lh.set k (.lst [.ref a, .int (i + 1), .int j, .int (c + 1)]) = l2 at hk2
    have e5 : evS ca dr5 [some (.ref k), some (.int m), none, some (.int x), none] l1 = .ret (.nx, [some (.ref k), some (.int m), none, some (.int x), none], l2) := by rw [← hl2, ← back]; exact e5
    have back2 : ∀ o, l2.set k o = lh.set k o := fun o => by rw [← hl2, List.set_set]
    have fin2 : ∀ {z}, evSs ca (.cons dr6 (.cons dr7 (.cons dr8 (.cons dr9 .nil)))) [some (.ref k), some (.int m), none, some (.int x), none] l2 = z → evSs ca drB [some (.ref k), some (.int m), none, none, none] lh = z := fun h => fin (ss_cons e2 (ss_cons e3 (ss_cons e4 (ss_cons e5 h))))
    have e6 := ev_if (ca := ca) (cp := .ge) (u := dr6b) (v := .nil) (ls := [some (.ref k), some (.int m), none, some (.int x), none]) (lh := l2) (ev_var (t := 3) rfl) (ev_bin (op := .pow) (ev_int (t := 10)) (ev_int (t := 18)) (d := .int (10 ^ 18)) (by rfl)) (b := decide ((10 : Int) ^ 18 ≤ x)) rfl
    by_cases hb : (10 : Int) ^ 18 ≤ x
    · rw [decide_eq_true hb] at e6
      have f1 := ev_set (ca := ca) (ls := [some (.ref k), some (.int m), none, some (.int x), none]) (t := 2) (nn := 2) rfl (ev_bin (op := .fdiv) (ev_var (t := 3) rfl) (ev_var (t := 1) rfl) (o_fdiv hm hm2)) hk2 rfl
      have f3 : evSs ca dr6b [some (.ref k), some (.int m), none, some (.int x), none] l2 = _ := ss_cons f1 (ss_end (ev_ret (ev_bin (op := .mod) (ev_f1 (f := .int) (ev_var (t := 3) rfl) rfl) (ev_var (t := 1) rfl) (o_mod hm))))
      refine ⟨x.fmod m, i + 1, x.fdiv m, c + 1, _, (fmod_in hm).1, (fmod_in hm).2, by omega, fdiv_in hx hm, by omega, fin2 (ss_end (ls' := [some (.ref k), some (.int m), none, some (.int x), none]) ?_)⟩
      refine e6.trans (Eq.trans (if_pos rfl) (f3.trans ?_))
      show T.ret (Fl.ret (.int (x.fmod m)), _, l2.set k (.lst [.ref a, .int (i + 1), .int (x.fdiv m), .int (c + 1)])) = _
      rw [back2]
    · rw [decide_eq_false hb] at e6
      have e6 : evS ca dr6 [some (.ref k), some (.int m), none, some (.int x), none] l2 = .ret (.nx, _, l2) := e6.trans ((if_neg Bool.false_ne_true).trans ss_nil)
      have e7 := ev_nm (ca := ca) (t := 4) (ls := [some (.ref k), some (.int m), none, some (.int x), none]) (ev_bin (op := .mod) (ev_f1 (f := .int) (ev_bin (op := .add) (ev_bin (op := .mul) (ev_bin (op := .add) (ev_var (t := 3) rfl) (ev_int (t := 1)) o_add) (ev_int (t := 48271)) (o_mul (by rfl))) (ev_bin (op := .mul) (ev_st rfl hk2 at3) (ev_int (t := 69621)) (o_mul (by rfl))) o_add) rfl) (ev_int (t := 2147483647)) (o_mod (by omega)))
      have e7 : ∃ y : Int, evS ca dr7 [some (.ref k), some (.int m), none, some (.int x), none] l2 = .ret (.nx, [some (.ref k), some (.int m), none, some (.int x), some (.int y)], l2) := ⟨_, e7⟩
      obtain ⟨y, e7⟩ := e7
      have e8 := ev_nm (ca := ca) (t := 4) (ls := [some (.ref k), some (.int m), none, some (.int x), some (.int y)]) (ev_bin (op := .mod) (ev_f1 (f := .int) (ev_bin (op := .add) (ev_bin (op := .add) (ev_bin (op := .mul) (ev_var (t := 4) rfl) (ev_int (t := 16807)) (o_mul (by rfl))) (ev_bin (op := .fdiv) (ev_var (t := 3) rfl) (ev_int (t := 97)) (o_fdiv (by omega) (by omega))) o_add) (ev_st rfl hk2 at3) o_add) rfl) (ev_int (t := 2147483629)) (o_mod (by omega)))
      have e8 : ∃ y' : Int, evS ca dr8 [some (.ref k), some (.int m), none, some (.int x), some (.int y)] l2 = .ret (.nx, [some (.ref k), some (.int m), none, some (.int x), some (.int y')], l2) := ⟨_, e8⟩
      obtain ⟨y', e8⟩ := e8
      have e9 := ev_ret (ca := ca) (ls := [some (.ref k), some (.int m), none, some (.int x), some (.int y')]) (lh := l2) (ev_bin (op := .mod) (ev_bin (op := .fdiv) (ev_var (t := 4) rfl) (ev_int (t := 11)) (o_fdiv (by omega) (by omega))) (ev_var (t := 1) rfl) (o_mod hm))
      refine ⟨(y'.fdiv 11).fmod m, i + 1, j, c + 1, [some (.ref k), some (.int m), none, some (.int x), some (.int y')], (fmod_in hm).1, (fmod_in hm).2, by omega, hj, by omega, fin2 (ss_cons e6 (ss_cons e7 (ss_cons e8 (ss_end (e9.trans (by rw [← hl2]))))))⟩
end
end G

set_option maxHeartbeats 4000000
namespace G
open PySem L2 PyProof.Rows
variable {K : PySem.W.Frag} {m m' m2 : Nat → Addr} {n n' : Nat} {H H' H2 : Hp} {lh lh' lh2 lh1 : LH} {X : Cx} {σ : L2.St} {ls : LS} {fs : List Df}

theorem Rel.alt (R : Rel K m lh H) (hl : lh1.length = lh.length) (h : ∀ k o, lh1[k]? = some o → ObjRep K m lh.length H o (m k)) : Rel K m lh1 H :=
  ⟨fun k o e => by rw [hl]; exact h k o e, fun i j hi hj => R.inj i j (by omega) (by omega)⟩
theorem Step.alt {l1 l2 : LH} (S : Step m lh H m' lh' H') (h1 : l1.length = lh.length) (h2 : l2.length = lh'.length) : Step m l1 H m' l2 H' :=
  ⟨fun k h => S.ext k (by omega), by rw [h1, h2]; exact S.len, fun k a b => S.fresh k (by omega) (by omega), fun b o e h => S.frame b o e fun k hk => h k (by omega)⟩
theorem repInts : ∀ (ns : List Int), RepVs K m n H (ns.map D.int) (ns.map V.int)
  | [] => .nil
  | i :: r => .cons (.int i) (repInts r)
theorem repInts_of : ∀ (ns : List Int) (vs : List V), RepVs K m n H (ns.map D.int) vs → vs = ns.map V.int
  | [], _, .nil => rfl
  | i :: r, _, .cons (.int _) t => by rw [repInts_of r _ t]; rfl
/-- the draw, by what the small machine promises of it -/
theorem draw_ok {ca : CA} {as : List D} {vs : List V} {Q : VK} {f : Df} (hk : f.kd = .draw) (R : Rel K m lh H) (ra : RepVs K m lh.length H as vs) (p : (runDf ca f as lh).All (Post K m lh H Q)) :
    tS K (evSs ca drB) { nx := fun _ H' => Q .non H', rt := Q } (L2.start drN vs) H := by
  unfold runDf at p
  rw [hk] at p
  simp only at p
  split at p
  · rename_i kk mm
    split at p
    · rename_i cc e1
      split at p
      · rename_i e2
        split at p
        · rename_i hm
          simp only [Bool.and_eq_true, decide_eq_true_eq] at hm
          obtain ⟨i, j, c, hc, h1, hi, hj, hcc⟩ := R.obj kk _ e1
          obtain ⟨ns, h2⟩ := R.obj cc _ e2
          have hkl : kk < lh.length := (List.getElem?_eq_some_iff.mp e1).1
          have kc : kk ≠ cc := fun z => by rw [z, e2] at e1; cases e1
          let l1 : LH := (lh.set cc (.lst (ns.map D.int))).set kk (.lst [.ref cc, .int i, .int j, .int c])
          have len1 : l1.length = lh.length := by show (List.set _ _ _).length = _; rw [List.length_set, List.length_set]
          have R1 : Rel K m l1 H := R.alt len1 fun b o e => by
            have e : ((lh.set cc (.lst (ns.map D.int))).set kk (.lst [.ref cc, .int i, .int j, .int c]))[b]? = some o := e
            by_cases b1 : kk = b
            · subst b1
              rw [List.getElem?_set_self (by rw [List.length_set]; exact hkl)] at e
              cases e
              exact ⟨_, h1, .cons (.ref hc) (.cons (.int _) (.cons (.int _) (.cons (.int _) .nil)))⟩
            · rw [List.getElem?_set_ne b1] at e
              by_cases b2 : cc = b
              · subst b2
                rw [List.getElem?_set_self hc] at e
                cases e
                exact ⟨_, h2, repInts ns⟩
              · rw [List.getElem?_set_ne b2] at e
                exact R.obj b o e
          have g1 : lget l1 kk = some [.ref cc, .int i, .int j, .int c] := lget_set (by rw [List.length_set]; exact hkl)
          have g2 : lget l1 cc = some (ns.map D.int) := by
            show lget (List.set _ _ _) cc = _
            rw [lget_ne kc]
            exact lget_set hc
          obtain ⟨r, i', j', c', ls', r1, r2, i1, j1, c1, er⟩ := draw_run (ca := ca) g1 g2 kc hm.1 hm.2 hi hj hcc
          refine ⟨m, startLS drN [.ref kk, .int mm], l1, R1, repV_start (by rw [len1]; exact ra), ?_⟩
          have er : evSs ca drB (startLS drN [.ref kk, .int mm]) l1 = _ := er
          rw [er]
          intro m' H' σ' S' R' RS' v rv
          have rt : r.toNat < mm.toNat := by omega
          have p2 : Post K m lh H Q (.int (r.toNat : Nat), lh) := p r.toNat rt
          have lenE : (l1.set kk (.lst [.ref cc, .int i', .int j', .int c'])).length = lh.length := by rw [List.length_set, len1]
          have R2 : Rel K m' lh H' := Rel.alt (lh := l1.set kk (.lst [.ref cc, .int i', .int j', .int c'])) R' lenE.symm fun b o e => by
            by_cases b1 : kk = b
            · subst b1
              rw [e1] at e
              cases e
              obtain ⟨ws, q1, q2⟩ := R'.obj kk (.lst [.ref cc, .int i', .int j', .int c']) (List.getElem?_set_self (by rw [len1]; exact hkl))
              cases q2 with
              | cons u1 q2 => cases q2 with
                | cons u2 q2 => cases q2 with
                  | cons u3 q2 => cases q2 with
                    | cons u4 q2 =>
                      cases u1; cases u2; cases u3; cases u4; cases q2
                      exact ⟨i', j', c', by rw [lenE]; exact hc, q1, i1, j1, c1⟩
            · by_cases b2 : cc = b
              · subst b2
                rw [e2] at e
                cases e
                obtain ⟨ws, q1, q2⟩ := R'.obj cc (.lst (ns.map D.int)) (by
                  rw [List.getElem?_set_ne kc]
                  show ((lh.set cc (.lst (ns.map D.int))).set kk _)[cc]? = _
                  rw [List.getElem?_set_ne kc, List.getElem?_set_self hc])
                rw [repInts_of ns ws q2] at q1
                exact ⟨ns, q1⟩
              · refine R'.obj b o ?_
                rw [List.getElem?_set_ne b1]
                show ((lh.set cc (.lst (ns.map D.int))).set kk _)[b]? = _
                rw [List.getElem?_set_ne b1, List.getElem?_set_ne b2]
                exact e
          have S2 : Step m lh H m' lh H' := S'.alt len1.symm lenE.symm
          cases rv
          have := p2 m' H' (.int (r.toNat : Nat)) S2 R2 (.int _)
          rw [show ((r.toNat : Nat) : Int) = r from Int.toNat_of_nonneg r1] at this
          exact this
        · exact p.elim
      · exact p.elim
    · exact p.elim
  · exact p.elim

/-! ### a def's look -/
def scN : List Str := ["script"]
def fnbT : Str → Bool := fun _ => true
def startB (sc : Scope) (b : List PySem.Stmt) : Bool := match b with
  | [.Return (some (.List [.Call (.Name x _) [.Name y _] [] _, .Constant (.int 0) _ _, .Constant (.int 0) _ _, .Constant (.int 0) _ _] _)) _] => x == ("list" : Str) && glB sc x && y == ("script" : Str) && visB sc y
  | _ => false
def scB (N P : List Str) (sc : Scope) : Bool :=
  decide (sc.kind = .function) && !sc.isCoroutine && !sc.isGenerator && decide N.Nodup && decide (N.take P.length = P) && P.all (fun x => decide (sc.names.lookup x = some .local) || decide (sc.names.lookup x = some .cell)) && sc.names.all (fun y => !decide (y.2 = .free))
theorem scB_of {N P : List Str} {sc : Scope} (h : scB N P sc = true) : FnScope N P sc := by
  unfold scB at h
  simp only [Bool.and_eq_true, Bool.not_eq_true', decide_eq_true_eq, List.all_eq_true, Bool.or_eq_true, decide_eq_false_iff_not] at h
  obtain ⟨⟨⟨⟨⟨⟨h1, h2⟩, h3⟩, h4⟩, h5⟩, h6⟩, h7⟩ := h
  exact ⟨h1, h2, h3, h4, h5, h6, h7⟩
def chkDf (fs : List Df) (f : Df) (st : PySem.Stmt) : Bool :=
  scB f.N f.ps (defScope st) && (match f.kd with
    | .code b => chkSs fs f.N b (defScope st) fnbT (defBody st)
    | .start => decide (f.N = scN) && decide (f.ps = scN) && startB (defScope st) (defBody st)
    | .draw => decide (f.N = drN) && chkSs fs drN drB (defScope st) fnbT (defBody st))

/-- what stands in the module -/
structure Modl (K : PySem.W.Frag) (mg : Str → Option Value) (fs : List Df) : Prop where
  defs : ∀ (g : Nat) (f : Df), fs[g]? = some f → ∃ a fd st, Fun K f.name f.name st a fd ∧ mg f.name = some (.ref a) ∧ Binds K fd f.ps [] ∧ chkDf fs f st = true
  blt : ∀ x, x ∈ bltNames → mg x = none

section
variable {P : Program} {w : World} {mg : Str → Option Value} {base : Heap}
theorem spEv_zero {g np : Nat} {vs : List V} {Q : VK} {E : XK} (h : spEv K fs 0 g np vs H Q E) : False := by
  obtain ⟨m, lh, as, R, ra, hl, p⟩ := h
  exact p
theorem good_of (M : Modl K mg fs) (k : Nat) (ih : ∀ (g : Nat) (f : Df) a fd st, fs[g]? = some f → Fun K f.name f.name st a fd → chkDf fs f st = true → FnOk P w K mg base CX0 k a fd f.ps (spEv K fs k g f.ps.length))
    {N ps : List Str} {st : PySem.Stmt} {qual : Str} {fa : Addr} {cdv : Value} {A : Around} {outer : List Env} {s : Shared} {E : XK} (S : FnScope N ps (defScope st)) (hr : Room k (A.deeper (envOfC qual (defScope st) s.heap.objs.size fa cdv))) :
    Good fs k fnbT (defScope st) N (cxOf CX0 P w K mg base N qual (defScope st) fa cdv A outer s H E).nox where
  eN := rfl
  eS := rfl
  kind := S.kind
  calm := rfl
  nd := S.nd
  xe := rfl
  room := hr
  fn := fun _ _ => rfl
  blt := M.blt
  defs := fun g f e => by
    obtain ⟨a, fd, st, F, h1, h2, h3⟩ := M.defs g f e
    exact ⟨a, fd, h1, ih g f a fd st e F h3, F.kp, h2⟩
theorem all_ok (M : Modl K mg fs) : ∀ (k g : Nat) (f : Df) a fd st, fs[g]? = some f → Fun K f.name f.name st a fd → chkDf fs f st = true → FnOk P w K mg base CX0 k a fd f.ps (spEv K fs k g f.ps.length)
  | 0, g, f, a, fd, st, e, F, hc => ⟨fun vs H Q E h => (spEv_zero h).elim, fun A outer s H args us vs Q E hr he hb hv h => (spEv_zero h).elim⟩
  | k + 1, g, f, a, fd, st, e, F, hc => by
    unfold chkDf at hc
    obtain ⟨h1, h2⟩ := and2 hc
    have S := scB_of h1
    refine F.ok S (fun vs H Q E h => ?_) (fun cdv A outer s H vs Q E hr h => ?_)
    · obtain ⟨m, lh, as, R, ra, hl, p⟩ := h
      rw [← ra.length, hl]
    · have g0 := good_of (w := w) (P := P) (base := base) (H := H) (E := E) (outer := outer) M k (all_ok M k) S hr
      obtain ⟨m, lh, as, R, ra, hl, p⟩ := h
      have p : (runDf (evCall fs k) f as lh).All (Post K m lh H Q) := by
        have : evCall fs (k + 1) g as lh = runDf (evCall fs k) f as lh := by
          show (match fs[g]? with
            | some f => runDf (evCall fs k) f as lh
            | none => .bad) = _
          rw [e]
        rw [← this]; exact p
      cases hk : f.kd with
      | code b =>
        rw [hk] at h2
        exact ⟨_, sSs g0 b _ h2, body_ok hk R ra p⟩
      | draw =>
        rw [hk] at h2
        obtain ⟨h3, h4⟩ := and2 h2
        have eN : f.N = drN := of_decide_eq_true h3
        rw [eN] at g0 ⊢
        exact ⟨_, sSs g0 drB _ h4, draw_ok hk R ra p⟩
      | start =>
        rw [hk] at h2
        obtain ⟨h2, h5⟩ := and2 h2
        obtain ⟨h3, h4⟩ := and2 h2
        have eN : f.N = scN := of_decide_eq_true h3
        rw [eN] at g0 ⊢
        unfold startB at h5
        split at h5
        · rename_i x p1 y p2 p3 k1 p4 k2 p5 k3 p6 p7 p8 eb
          obtain ⟨h5, h9⟩ := and2 h5
          obtain ⟨h5, h8⟩ := and2 h5
          obtain ⟨h6, h7⟩ := and2 h5
          obtain rfl := eq_of_beq h6
          obtain rfl := eq_of_beq h8
          have hx := pe_fn (f := .list) (pos := p3) (p := p1) rfl (fn_R g0.calm g0.hu .list) (g0.gl h7) (g0.blt _ (by decide +kernel)) (pa_cons (pe_var (i := 0) (pos := p2) rfl (g0.vis h9)) pa_nil) (by decide +kernel) rfl
          refine ⟨_, by rw [eb]; exact pss_one (ps_ret (pe_lst (pa_cons hx (pa_cons pe_int (pa_cons pe_int (pa_cons pe_int pa_nil)))))), ?_⟩
          unfold runDf at p
          rw [hk] at p
          simp only at p
          split at p
          · cases ra with
            | cons r1 r2 =>
              cases r2
              cases r1 with
              | @scr aa ns hS =>
                refine ⟨.ref aa, rfl, aa, _, rfl, .inl hS.sql, fun p1 q1 => ⟨(show 4 ≤ sizeLine by decide), fun p2 q2 => ?_⟩⟩
                obtain ⟨R1, S1⟩ := R.new (o := .opq) (w := .lst (ns.map V.int)) q1 ⟨_, rfl⟩ ⟨ns, by
                  have : extM m lh.length p1 lh.length = p1 := by unfold extM; rw [if_pos rfl]
                  exact upd_same⟩
                have l1 : (lh ++ [LO.opq]).length = lh.length + 1 := by simp
                obtain ⟨R2, S2⟩ := R1.new (o := .st lh.length) (w := .lst [.ref p1, .int 0, .int 0, .int 0]) q2 ⟨_, rfl⟩ ⟨0, 0, 0, by omega, by
                  have : extM (extM m lh.length p1) (lh ++ [LO.opq]).length p2 lh.length = p1 := by
                    unfold extM
                    rw [if_neg (by omega), if_pos rfl]
                  rw [this]; exact upd_same, by omega, by omega, by omega⟩
                have e2 : extM (extM m lh.length p1) (lh ++ [LO.opq]).length p2 (lh.length + 1) = p2 := by unfold extM; rw [if_pos l1.symm]
                have el : lh ++ [LO.opq, LO.st lh.length] = lh ++ [LO.opq] ++ [LO.st lh.length] := by simp
                have p9 : Post K m lh H Q (.ref (lh.length + 1), lh ++ [LO.opq, LO.st lh.length]) := p
                rw [el] at p9
                have := p9 _ _ (.ref (extM (extM m lh.length p1) (lh ++ [LO.opq]).length p2 (lh.length + 1))) (S1.trans R1 S2) R2 (.ref (by simp))
                rw [e2] at this
                exact this
          · exact p.elim
        · cases h5
end
end G

set_option maxHeartbeats 4000000
namespace G
open PySem L2 PyProof.Rows
variable {K : PySem.W.Frag} {m m' m2 m0 : Nat → Addr} {n n' : Nat} {H H' H2 H0 : Hp} {lh lh' lh2 lh1 lh0 : LH} {X : Cx} {σ : L2.St} {ls : LS} {fs : List Df}

/-! ### equality -/
mutual
def D.beq : D → D → Bool
  | .non, .non => true
  | .bl a, .bl b => a == b
  | .int a, .int b => a == b
  | .str a, .str b => a == b
  | .tup a, .tup b => D.beqs a b
  | .ref a, .ref b => a == b
  | .scr, .scr => true
  | _, _ => false
def D.beqs : List D → List D → Bool
  | [], [] => true
  | a :: r, b :: s => D.beq a b && D.beqs r s
  | _, _ => false
end
mutual
theorem D.beq_eq : ∀ (a b : D), D.beq a b = true → a = b
  | .non, b, h => by cases b <;> first | rfl | (unfold D.beq at h; cases h)
  | .scr, b, h => by cases b <;> first | rfl | (unfold D.beq at h; cases h)
  | .bl a, b, h => by
    cases b with
    | bl b => unfold D.beq at h; rw [eq_of_beq h]
    | _ => unfold D.beq at h; cases h
  | .int a, b, h => by
    cases b with
    | int b => unfold D.beq at h; rw [eq_of_beq h]
    | _ => unfold D.beq at h; cases h
  | .str a, b, h => by
    cases b with
    | str b => unfold D.beq at h; rw [eq_of_beq h]
    | _ => unfold D.beq at h; cases h
  | .ref a, b, h => by
    cases b with
    | ref b => unfold D.beq at h; rw [eq_of_beq h]
    | _ => unfold D.beq at h; cases h
  | .tup a, b, h => by
    cases b with
    | tup b => unfold D.beq at h; rw [D.beqs_eq a b h]
    | _ => unfold D.beq at h; cases h
theorem D.beqs_eq : ∀ (a b : List D), D.beqs a b = true → a = b
  | [], b, h => by
    cases b with
    | nil => rfl
    | cons _ _ => unfold D.beqs at h; cases h
  | a :: r, b, h => by
    cases b with
    | nil => unfold D.beqs at h; cases h
    | cons b s =>
      unfold D.beqs at h
      obtain ⟨h1, h2⟩ := and2 h
      rw [D.beq_eq a b h1, D.beqs_eq r s h2]
end
def LO.beq : LO → LO → Bool
  | .lst a, .lst b => D.beqs a b
  | .st a, .st b => a == b
  | .opq, .opq => true
  | _, _ => false
theorem LO.beq_eq : ∀ (a b : LO), LO.beq a b = true → a = b
  | .lst a, b, h => by
    cases b with
    | lst b => rw [D.beqs_eq a b h]
    | _ => cases h
  | .st a, b, h => by
    cases b with
    | st b => rw [eq_of_beq (show (a == b) = true from h)]
    | _ => cases h
  | .opq, b, h => by cases b <;> first | rfl | cases h
  | .dct _, b, h => by cases b <;> cases h
def lhBeq : LH → LH → Bool
  | [], [] => true
  | a :: r, b :: s => LO.beq a b && lhBeq r s
  | _, _ => false
theorem lhBeq_eq : ∀ (a b : LH), lhBeq a b = true → a = b
  | [], [], _ => rfl
  | a :: r, b :: s, h => by
    obtain ⟨h1, h2⟩ := and2 h
    rw [LO.beq_eq a b h1, lhBeq_eq r s h2]
  | [], _ :: _, h => by cases h
  | _ :: _, [], h => by cases h
def lsBeq : LS → LS → Bool
  | [], [] => true
  | none :: r, none :: s => lsBeq r s
  | some a :: r, some b :: s => D.beq a b && lsBeq r s
  | _, _ => false
theorem lsBeq_eq : ∀ (a b : LS), lsBeq a b = true → a = b
  | [], [], _ => rfl
  | none :: r, none :: s, h => by rw [lsBeq_eq r s h]
  | some a :: r, some b :: s, h => by
    obtain ⟨h1, h2⟩ := and2 h
    rw [D.beq_eq a b h1, lsBeq_eq r s h2]
  | [], x :: _, h => by cases x <;> cases h
  | x :: _, [], h => by cases x <;> cases h
  | none :: _, some _ :: _, h => by cases h
  | some _ :: _, none :: _, h => by cases h
def pBeq (a b : LS × LH) : Bool := lsBeq a.1 b.1 && lhBeq a.2 b.2
theorem pBeq_eq (a b : LS × LH) (h : pBeq a b = true) : a = b := by
  obtain ⟨h1, h2⟩ := and2 h
  exact Prod.ext (lsBeq_eq _ _ h1) (lhBeq_eq _ _ h2)
def flBeq : Fl → Fl → Bool
  | .nx, .nx => true
  | .brk, .brk => true
  | .cont, .cont => true
  | .ret a, .ret b => D.beq a b
  | _, _ => false
theorem flBeq_eq (a b : Fl) (h : flBeq a b = true) : a = b := by
  cases a with
  | ret a =>
    cases b with
    | ret b => rw [D.beq_eq a b h]
    | _ => cases h
  | _ => cases b <;> first | rfl | cases h
def rBeq (a b : R3) : Bool := flBeq a.1 b.1 && pBeq a.2 b.2
theorem rBeq_eq (a b : R3) (h : rBeq a b = true) : a = b := by
  obtain ⟨h1, h2⟩ := and2 h
  exact Prod.ext (flBeq_eq _ _ h1) (pBeq_eq _ _ h2)
def dedup {α : Type} (eq : α → α → Bool) : List α → List α
  | [] => []
  | x :: r => if (dedup eq r).any (eq x) then dedup eq r else x :: dedup eq r
theorem mem_dedup {α : Type} {eq : α → α → Bool} (he : ∀ a b, eq a b = true → a = b) {x : α} : ∀ {l : List α}, x ∈ l → x ∈ dedup eq l
  | y :: r, h => by
    unfold dedup
    rcases List.mem_cons.mp h with rfl | h
    · split
      · rename_i h2
        obtain ⟨z, hz, e⟩ := List.any_eq_true.mp h2
        rw [he _ _ e]; exact hz
      · exact List.mem_cons_self
    · split
      · exact mem_dedup he h
      · exact List.mem_cons_of_mem _ (mem_dedup he h)

/-! ### all that a run may come to -/
def joinO {α : Type} : List (Option (List α)) → Option (List α)
  | [] => some []
  | none :: _ => none
  | some a :: r => match joinO r with
    | none => none
    | some b => some (a ++ b)
theorem joinO_mem {α : Type} : ∀ {l : List (Option (List α))} {z : List α}, joinO l = some z → ∀ o ∈ l, ∃ a, o = some a ∧ ∀ x ∈ a, x ∈ z
  | [], _, _, _, h => by cases h
  | none :: _, _, h, _, _ => by cases h
  | some a :: r, z, h, o, ho => by
    unfold joinO at h
    cases e : joinO r with
    | none => rw [e] at h; cases h
    | some b =>
      rw [e] at h
      cases h
      rcases List.mem_cons.mp ho with rfl | ho
      · exact ⟨a, rfl, fun x hx => List.mem_append_left _ hx⟩
      · obtain ⟨c, e2, hc⟩ := joinO_mem e o ho
        exact ⟨c, e2, fun x hx => List.mem_append_right _ (hc x hx)⟩
def T.leaves {α : Type} : T α → Option (List α)
  | .ret a => some [a]
  | .bad => none
  | .drw n f => joinO ((List.range n).map fun c => (f c).leaves)
theorem T.leaves_all {α : Type} : ∀ {t : T α} {z : List α}, t.leaves = some z → t.All fun r => r ∈ z
  | .ret a, z, h => by cases h; exact List.mem_singleton_self a
  | .bad, z, h => by cases h
  | .drw n f, z, h => fun c hc => by
    obtain ⟨a, e, ha⟩ := joinO_mem h _ (List.mem_map.mpr ⟨c, List.mem_range.mpr hc, rfl⟩)
    exact (T.leaves_all e).mono ha

/-! ### forgetting -/
inductive Fg where | all | keep (sl : List Nat)
mutual
def D.bel (n : Nat) : D → Bool
  | .tup xs => D.bels n xs
  | .ref k => decide (k < n)
  | _ => true
def D.bels (n : Nat) : List D → Bool
  | [] => true
  | x :: r => D.bel n x && D.bels n r
end
def LO.bel (n : Nat) : LO → Bool
  | .lst xs => D.bels n xs
  | .st a => decide (a < n)
  | .opq => true
  | .dct _ => false
mutual
theorem RepV.bel : ∀ {d : D} {v : V}, D.bel n' d = true → RepV K m n H d v → RepV K m n' H d v
  | _, _, _, .non => .non
  | _, _, _, .bl b => .bl b
  | _, _, _, .int i => .int i
  | _, _, _, .str s => .str s
  | _, _, h, .tup s r => .tup s (RepVs.bels (by unfold D.bel at h; exact h) r)
  | _, _, h, .ref _ => by unfold D.bel at h; exact .ref (of_decide_eq_true h)
  | _, _, _, .scr s => .scr s
theorem RepVs.bels : ∀ {ds : List D} {vs : List V}, D.bels n' ds = true → RepVs K m n H ds vs → RepVs K m n' H ds vs
  | _, _, _, .nil => .nil
  | _, _, h, .cons r t => .cons (RepV.bel (by unfold D.bels at h; exact (and2 h).1) r) (RepVs.bels (by unfold D.bels at h; exact (and2 h).2) t)
end
def maskLS (sl : List Nat) : Nat → LS → LS
  | _, [] => []
  | i, x :: r => (if sl.contains i then x else none) :: maskLS sl (i + 1) r
theorem mask_get (sl : List Nat) : ∀ (l : LS) (i j : Nat) (d : D), (maskLS sl i l)[j]? = some (some d) → l[j]? = some (some d)
  | [], _, _, _, h => by unfold maskLS at h; cases h
  | x :: r, i, 0, d, h => by
    unfold maskLS at h
    rw [List.getElem?_cons_zero] at h ⊢
    split at h
    · exact h
    · cases h
  | x :: r, i, j + 1, d, h => by
    unfold maskLS at h
    rw [List.getElem?_cons_succ] at h ⊢
    exact mask_get sl r (i + 1) j d h
theorem mask_len (sl : List Nat) : ∀ (l : LS) (i : Nat), (maskLS sl i l).length = l.length
  | [], _ => rfl
  | x :: r, i => by unfold maskLS; rw [List.length_cons, List.length_cons, mask_len sl r]
mutual
def D.top : D → Nat
  | .tup xs => D.tops xs
  | .ref k => k + 1
  | _ => 0
def D.tops : List D → Nat
  | [] => 0
  | x :: r => max (D.top x) (D.tops r)
end
def LO.top : LO → Nat
  | .lst xs => D.tops xs
  | .st a => a + 1
  | _ => 0
def lhTop : LH → Nat
  | [] => 0
  | o :: r => max o.top (lhTop r)
def lsTop : LS → Nat
  | [] => 0
  | none :: r => lsTop r
  | some d :: r => max d.top (lsTop r)
/-- how far the places reach -/
def reach (lh : LH) : Nat → Nat → Nat
  | 0, n => n
  | f + 1, n => if lhTop (lh.take n) ≤ n then n else reach lh f (lhTop (lh.take n))
def forget (k : Fg) (lo : Nat) (ls : LS) (lh : LH) : Option (LS × LH) :=
  match k with
  | .all => some (ls, lh)
  | .keep sl => forgetTo (maskLS sl 0 ls) (lh.take (max (reach lh 9 (lsTop (maskLS sl 0 ls))) lo))
where
  forgetTo (ls : LS) (lh : LH) : Option (LS × LH) := if ls.all (fun x => match x with
      | none => true
      | some d => D.bel lh.length d) && lh.all (LO.bel lh.length) then some (ls, lh) else none
theorem forget_ok {k : Fg} {lo : Nat} {p : LS × LH} (h : forget k lo ls lh = some p) (R : Rel K m lh H) (RS : RelS K m lh.length H ls σ) (S : Step m0 lh0 H0 m lh H) (hl : lh0.length ≤ lo) :
    Rel K m p.2 H ∧ RelS K m p.2.length H p.1 σ ∧ Step m0 lh0 H0 m p.2 H := by
  unfold forget at h
  cases k with
  | all => cases h; exact ⟨R, RS, S⟩
  | keep sl =>
    simp only at h
    generalize reach lh 9 (lsTop (maskLS sl 0 ls)) = hh at h
    unfold forget.forgetTo at h
    split at h
    · rename_i hc
      obtain ⟨c1, c2⟩ := and2 hc
      cases h
      have sub : ∀ j o, (lh.take (max hh lo))[j]? = some o → lh[j]? = some o := fun j o e => by
        rw [List.getElem?_take] at e
        split at e
        · exact e
        · cases e
      have len : (lh.take (max hh lo)).length ≤ lh.length := by rw [List.length_take]; omega
      refine ⟨⟨fun j o e => ?_, fun i j hi hj => R.inj i j (Nat.lt_of_lt_of_le hi len) (Nat.lt_of_lt_of_le hj len)⟩, ⟨by rw [mask_len]; exact RS.len, fun i d e => ?_⟩, ⟨S.ext, ?_, fun j h1 h2 => S.fresh j h1 (Nat.lt_of_lt_of_le h2 len), S.frame⟩⟩
      · have q := R.obj j o (sub j o e)
        have b := List.all_eq_true.mp c2 o (List.mem_of_getElem? e)
        cases o with
        | lst ds => obtain ⟨vs, h1, h2⟩ := q; exact ⟨vs, h1, h2.bels b⟩
        | dct kvs => exact q.elim
        | st a => obtain ⟨i, j', c, ha, h1, h2⟩ := q; exact ⟨i, j', c, of_decide_eq_true b, h1, h2⟩
        | opq => exact q
      · obtain ⟨v, e1, r⟩ := RS.at_ i d (mask_get sl ls 0 i d e)
        exact ⟨v, e1, r.bel (List.all_eq_true.mp c1 (some d) (List.mem_of_getElem? e))⟩
      · show lh0.length ≤ (lh.take (max hh lo)).length
        rw [List.length_take]
        have := S.len
        omega
    · cases h

/-! ### the gathering machine -/
mutual
inductive L where
  | st (s : S) (k : Fg)
  | if_ (c : E) (a b : Ls)
  | for_ (it : It) (t : Tg) (k0 : Fg) (b : Ls) (k : Fg)
inductive Ls where
  | nil | cons (l : L) (r : Ls)
end
def fgR (k : Fg) (lo : Nat) (r : R3) : Option R3 := match r.1 with
  | .ret _ => some r
  | fl => match forget k lo r.2.1 r.2.2 with
    | none => none
    | some p => some (fl, p.1, p.2)
def gat {α : Type} (t : Option (List α)) (f : α → Option (List R3)) : Option (List R3) := match t with
  | none => none
  | some l => match joinO (l.map f) with
    | none => none
    | some z => some (dedup rBeq z)
theorem gat_mem {α : Type} {t : Option (List α)} {f : α → Option (List R3)} {z : List R3} (h : gat t f = some z) : ∃ l, t = some l ∧ ∀ a ∈ l, ∃ os, f a = some os ∧ ∀ r ∈ os, r ∈ z := by
  unfold gat at h
  cases t with
  | none => cases h
  | some l =>
    simp only at h
    cases e : joinO (l.map f) with
    | none => rw [e] at h; cases h
    | some y =>
      rw [e] at h
      cases h
      refine ⟨l, rfl, fun a ha => ?_⟩
      obtain ⟨os, e1, e2⟩ := joinO_mem e _ (List.mem_map.mpr ⟨a, ha, rfl⟩)
      exact ⟨os, e1, fun r hr => mem_dedup rBeq_eq (e2 r hr)⟩
/-- a turn's ends: what leaves the loop, what goes on -/
def splitR (k : Fg) (lo : Nat) : List R3 → Option (List R3 × List (LS × LH))
  | [] => some ([], [])
  | r :: rs => match splitR k lo rs with
    | none => none
    | some (os, ns) => match r.1 with
      | .ret _ => some (r :: os, ns)
      | .brk => some ((.nx, r.2.1, r.2.2) :: os, ns)
      | _ => match forget k lo r.2.1 r.2.2 with
        | none => none
        | some p => some (os, p :: ns)
def turnC (w : Wk) (body : D → LS → LH → Option (List R3)) (k : Fg) (lo i : Nat) : List (LS × LH) → Option (List R3 × List (LS × LH))
  | [] => some ([], [])
  | p :: ps => match turnC w body k lo i ps with
    | none => none
    | some (os, ns) => match w.nxt i p.2 with
      | none => none
      | some none => some ((.nx, p.1, p.2) :: os, ns)
      | some (some d) => match body d p.1 p.2 with
        | none => none
        | some rs => match splitR k lo rs with
          | none => none
          | some (os', ns') => some (os' ++ os, ns' ++ ns)
def forC (w : Wk) (body : D → LS → LH → Option (List R3)) (k : Fg) (lo : Nat) : Nat → Nat → List (LS × LH) → Option (List R3)
  | 0, _, _ => none
  | f + 1, i, cur => match turnC w body k lo i cur with
    | none => none
    | some (os, ns) => match ns with
      | [] => some os
      | n :: ns => match forC w body k lo f (i + 1) (dedup pBeq (n :: ns)) with
        | none => none
        | some os' => some (os ++ os')
mutual
def evL (ca : CA) : L → Nat → LS → LH → Option (List R3)
  | .st s k, lo, ls, lh => gat (evS ca s ls lh).leaves fun r => match fgR k lo r with
    | none => none
    | some r => some [r]
  | .if_ c a b, lo, ls, lh => gat (evT ca c ls lh).leaves fun p => if p.1 then evLs ca a lo ls p.2 else evLs ca b lo ls p.2
  | .for_ it t k0 b k, lo, ls, lh => gat (evI ca it ls lh).leaves fun p => forC p.1 (fun d ls lh => gat (evTg ca t d ls lh).leaves fun q => match forget k0 p.2.length q.1 q.2 with
    | none => none
    | some q => evLs ca b p.2.length q.1 q.2) k p.2.length (p.1.fuel p.2) 0 [(ls, p.2)]
def evLs (ca : CA) : Ls → Nat → LS → LH → Option (List R3)
  | .nil, _, ls, lh => some [(.nx, ls, lh)]
  | .cons l r, lo, ls, lh => gat (evL ca l lo ls lh) fun o => match o.1 with
    | .nx => evLs ca r lo o.2.1 o.2.2
    | _ => some [o]
end

def tCo (K : PySem.W.Frag) (lo : Nat) (f : LS → LH → Option (List R3)) : TS := fun D σ H =>
  ∃ m0 lh0 H0 m ls lh outs, lh0.length ≤ lo ∧ Step m0 lh0 H0 m lh H ∧ Rel K m lh H ∧ RelS K m lh.length H ls σ ∧ f ls lh = some outs ∧ ∀ r ∈ outs, PostS K m0 lh0 H0 D r

theorem coSt {st : PySem.Stmt} {ca : CA} {s : S} {k : Fg} {lo : Nat} (h : PS X st (tS X.K (evS ca s))) : PS X st (tCo X.K lo (evL ca (.st s k) lo)) :=
  h.weak fun D σ H ⟨m0, lh0, H0, m, ls, lh, outs, hlo, S0, R, RS, e, ho⟩ => by
  unfold evL at e
  obtain ⟨l, e1, e2⟩ := gat_mem e
  refine ⟨m, ls, lh, R, RS, (T.leaves_all e1).mono fun r hr m' H' σ' S' R' RS' => ?_⟩
  obtain ⟨os, e3, e4⟩ := e2 r hr
  have S1 := S0.trans R S'
  cases e5 : fgR k lo r with
  | none => rw [e5] at e3; cases e3
  | some r' =>
    rw [e5] at e3
    cases e3
    have p := ho r' (e4 r' (List.mem_singleton_self r'))
    unfold fgR at e5
    obtain ⟨fl, ls1, l1⟩ := r
    have go : ∀ fl', (match forget k lo ls1 l1 with
        | none => none
        | some p => some ((fl', p.1, p.2) : R3)) = some r' → ∃ q, forget k lo ls1 l1 = some q ∧ r' = (fl', q.1, q.2) := fun fl' z => by
      cases e6 : forget k lo ls1 l1 with
      | none => rw [e6] at z; cases z
      | some q => rw [e6] at z; cases z; exact ⟨q, rfl, rfl⟩
    cases fl with
    | ret d => cases e5; exact p m' H' σ' S1 R' RS'
    | nx =>
      obtain ⟨q, e6, rfl⟩ := go _ e5
      obtain ⟨a1, a2, a3⟩ := forget_ok e6 R' RS' S1 hlo
      exact p m' H' σ' a3 a1 a2
    | brk =>
      obtain ⟨q, e6, rfl⟩ := go _ e5
      obtain ⟨a1, a2, a3⟩ := forget_ok e6 R' RS' S1 hlo
      exact p m' H' σ' a3 a1 a2
    | cont =>
      obtain ⟨q, e6, rfl⟩ := go _ e5
      obtain ⟨a1, a2, a3⟩ := forget_ok e6 R' RS' S1 hlo
      exact p m' H' σ' a3 a1 a2
theorem coNil {ca : CA} {lo : Nat} : PSs X [] (tCo X.K lo (evLs ca .nil lo)) :=
  pss_nil.weak fun D σ H ⟨m0, lh0, H0, m, ls, lh, outs, hlo, S0, R, RS, e, ho⟩ => by
  unfold evLs at e
  cases e
  exact ho _ (List.mem_singleton_self _) m H σ S0 R RS
theorem coCons {st : PySem.Stmt} {sts : List PySem.Stmt} {ca : CA} {l : L} {r : Ls} {lo : Nat} (h1 : PS X st (tCo X.K lo (evL ca l lo))) (h2 : PSs X sts (tCo X.K lo (evLs ca r lo))) : PSs X (st :: sts) (tCo X.K lo (evLs ca (.cons l r) lo)) :=
  (pss_cons h1 h2).weak fun D σ H ⟨m0, lh0, H0, m, ls, lh, outs, hlo, S0, R, RS, e, ho⟩ => by
  unfold evLs at e
  obtain ⟨z, e1, e2⟩ := gat_mem e
  refine ⟨m0, lh0, H0, m, ls, lh, z, hlo, S0, R, RS, e1, fun o hz m' H' σ' S' R' RS' => ?_⟩
  obtain ⟨os, e3, e4⟩ := e2 o hz
  obtain ⟨fl, ls1, l1⟩ := o
  cases fl with
  | nx => exact ⟨m0, lh0, H0, m', ls1, l1, os, hlo, S', R', RS', e3, fun r hr => ho r (e4 r hr)⟩
  | brk => cases e3; exact ho _ (e4 _ (List.mem_singleton_self _)) m' H' σ' S' R' RS'
  | cont => cases e3; exact ho _ (e4 _ (List.mem_singleton_self _)) m' H' σ' S' R' RS'
  | ret d => cases e3; exact ho _ (e4 _ (List.mem_singleton_self _)) m' H' σ' S' R' RS'
theorem coIf {pc : PySem.Expr} {pa pb : List PySem.Stmt} {pos : Pos} {ca : CA} {c : E} {a b : Ls} {lo : Nat} (hc : PT X pc (tT X.K (evT ca c))) (h1 : PSs X pa (tCo X.K lo (evLs ca a lo))) (h2 : PSs X pb (tCo X.K lo (evLs ca b lo))) :
    PS X (.If pc pa pb pos) (tCo X.K lo (evL ca (.if_ c a b) lo)) :=
  (ps_if hc h1 h2).weak fun D σ H ⟨m0, lh0, H0, m, ls, lh, outs, hlo, S0, R, RS, e, ho⟩ => by
  unfold evL at e
  obtain ⟨z, e1, e2⟩ := gat_mem e
  refine tT_seq R RS (T.leaves_all e1) fun p m' H' hp S' R' RS' => ?_
  obtain ⟨os, e3, e4⟩ := e2 p hp
  obtain ⟨c, l1⟩ := p
  have S1 := S0.trans R S'
  cases c with
  | true => exact iteT ⟨m0, lh0, H0, m', ls, l1, os, hlo, S1, R', RS', e3, fun r hr => ho r (e4 r hr)⟩
  | false => exact iteF ⟨m0, lh0, H0, m', ls, l1, os, hlo, S1, R', RS', e3, fun r hr => ho r (e4 r hr)⟩
theorem splitR_mem {k : Fg} {lo : Nat} : ∀ {rs : List R3} {os : List R3} {ns : List (LS × LH)}, splitR k lo rs = some (os, ns) → ∀ r ∈ rs,
    (∃ d, r.1 = .ret d ∧ r ∈ os) ∨ (r.1 = .brk ∧ (.nx, r.2.1, r.2.2) ∈ os) ∨ ((r.1 = .nx ∨ r.1 = .cont) ∧ ∃ p, forget k lo r.2.1 r.2.2 = some p ∧ p ∈ ns)
  | [], _, _, _, _, h => by cases h
  | r0 :: rs, os, ns, h, r, hr => by
    unfold splitR at h
    cases e : splitR k lo rs with
    | none => rw [e] at h; cases h
    | some z =>
      obtain ⟨os', ns'⟩ := z
      rw [e] at h
      simp only at h
      have old : (∀ x, x ∈ os' → x ∈ os) → (∀ x, x ∈ ns' → x ∈ ns) → r ∈ rs → ((∃ d, r.1 = .ret d ∧ r ∈ os) ∨ (r.1 = .brk ∧ (.nx, r.2.1, r.2.2) ∈ os) ∨ ((r.1 = .nx ∨ r.1 = .cont) ∧ ∃ p, forget k lo r.2.1 r.2.2 = some p ∧ p ∈ ns)) := fun i1 i2 hr => (splitR_mem e r hr).imp (fun ⟨d, a, b⟩ => ⟨d, a, i1 _ b⟩) fun z => z.imp (fun ⟨a, b⟩ => ⟨a, i1 _ b⟩) fun ⟨a, p, b, c⟩ => ⟨a, p, b, i2 _ c⟩
      obtain ⟨fl, ls1, l1⟩ := r0
      have go : ∀ {fl'}, (fl' = Fl.nx ∨ fl' = Fl.cont) → (match forget k lo ls1 l1 with
          | none => none
          | some p => some (os', p :: ns')) = some (os, ns) → ((fl', ls1, l1) : R3) = r ∨ r ∈ rs → (∃ d, r.1 = .ret d ∧ r ∈ os) ∨ (r.1 = .brk ∧ (.nx, r.2.1, r.2.2) ∈ os) ∨ ((r.1 = .nx ∨ r.1 = .cont) ∧ ∃ p, forget k lo r.2.1 r.2.2 = some p ∧ p ∈ ns) := fun {fl'} hf z hr => by
        cases e6 : forget k lo ls1 l1 with
        | none => rw [e6] at z; cases z
        | some q =>
          rw [e6] at z
          cases z
          rcases hr with rfl | hr
          · exact .inr (.inr ⟨hf, q, e6, List.mem_cons_self⟩)
          · exact old (fun x h => h) (fun x h => List.mem_cons_of_mem _ h) hr
      cases fl with
      | ret d =>
        cases h
        rcases List.mem_cons.mp hr with rfl | hr
        · exact .inl ⟨d, rfl, List.mem_cons_self⟩
        · exact old (fun x h => List.mem_cons_of_mem _ h) (fun x h => h) hr
      | brk =>
        cases h
        rcases List.mem_cons.mp hr with rfl | hr
        · exact .inr (.inl ⟨rfl, List.mem_cons_self⟩)
        · exact old (fun x h => List.mem_cons_of_mem _ h) (fun x h => h) hr
      | nx => exact go (.inl rfl) h ((List.mem_cons.mp hr).imp Eq.symm id)
      | cont => exact go (.inr rfl) h ((List.mem_cons.mp hr).imp Eq.symm id)
theorem turnC_mem {w : Wk} {body : D → LS → LH → Option (List R3)} {k : Fg} {lo i : Nat} : ∀ {cur : List (LS × LH)} {os : List R3} {ns : List (LS × LH)}, turnC w body k lo i cur = some (os, ns) → ∀ p ∈ cur,
    (w.nxt i p.2 = some none ∧ (.nx, p.1, p.2) ∈ os) ∨ ∃ d rs os' ns', w.nxt i p.2 = some (some d) ∧ body d p.1 p.2 = some rs ∧ splitR k lo rs = some (os', ns') ∧ (∀ x ∈ os', x ∈ os) ∧ ∀ x ∈ ns', x ∈ ns
  | [], _, _, _, _, h => by cases h
  | p0 :: ps, os, ns, h, p, hp => by
    unfold turnC at h
    cases e : turnC w body k lo i ps with
    | none => rw [e] at h; cases h
    | some z =>
      obtain ⟨os1, ns1⟩ := z
      rw [e] at h
      simp only at h
      have old : (∀ x, x ∈ os1 → x ∈ os) → (∀ x, x ∈ ns1 → x ∈ ns) → p ∈ ps → ((w.nxt i p.2 = some none ∧ (.nx, p.1, p.2) ∈ os) ∨ ∃ d rs os' ns', w.nxt i p.2 = some (some d) ∧ body d p.1 p.2 = some rs ∧ splitR k lo rs = some (os', ns') ∧ (∀ x ∈ os', x ∈ os) ∧ ∀ x ∈ ns', x ∈ ns) := fun i1 i2 hp => (turnC_mem e p hp).imp (fun ⟨a, b⟩ => ⟨a, i1 _ b⟩) fun ⟨d, rs, os', ns', a1, a2, a3, a4, a5⟩ => ⟨d, rs, os', ns', a1, a2, a3, fun x hx => i1 x (a4 x hx), fun x hx => i2 x (a5 x hx)⟩
      cases e2 : w.nxt i p0.2 with
      | none => rw [e2] at h; cases h
      | some y =>
        rw [e2] at h
        cases y with
        | none =>
          cases h
          rcases List.mem_cons.mp hp with rfl | hp
          · exact .inl ⟨e2, List.mem_cons_self⟩
          · exact old (fun x h => List.mem_cons_of_mem _ h) (fun x h => h) hp
        | some d =>
          simp only at h
          cases e3 : body d p0.1 p0.2 with
          | none => rw [e3] at h; cases h
          | some rs =>
            rw [e3] at h
            simp only at h
            cases e4 : splitR k lo rs with
            | none => rw [e4] at h; cases h
            | some z2 =>
              obtain ⟨os', ns'⟩ := z2
              rw [e4] at h
              cases h
              rcases List.mem_cons.mp hp with rfl | hp
              · exact .inr ⟨d, rs, os', ns', e2, e3, e4, fun x h => List.mem_append_left _ h, fun x h => List.mem_append_left _ h⟩
              · exact old (fun x h => List.mem_append_right _ h) (fun x h => List.mem_append_right _ h) hp
theorem forC_mem {w : Wk} {body : D → LS → LH → Option (List R3)} {k : Fg} {lo f i : Nat} {cur : List (LS × LH)} {outs : List R3} (h : forC w body k lo (f + 1) i cur = some outs) : ∀ p ∈ cur,
    (w.nxt i p.2 = some none ∧ (.nx, p.1, p.2) ∈ outs) ∨ ∃ d rs, w.nxt i p.2 = some (some d) ∧ body d p.1 p.2 = some rs ∧ ∀ r ∈ rs,
      (∃ d, r.1 = .ret d ∧ r ∈ outs) ∨ (r.1 = .brk ∧ (.nx, r.2.1, r.2.2) ∈ outs) ∨ ((r.1 = .nx ∨ r.1 = .cont) ∧ ∃ p, forget k lo r.2.1 r.2.2 = some p ∧ ∃ cur' outs', p ∈ cur' ∧ forC w body k lo f (i + 1) cur' = some outs' ∧ ∀ x ∈ outs', x ∈ outs) := by
  intro p hp
  unfold forC at h
  cases e : turnC w body k lo i cur with
  | none => rw [e] at h; cases h
  | some z =>
    obtain ⟨os, ns⟩ := z
    rw [e] at h
    simp only at h
    have fin : (∀ x ∈ os, x ∈ outs) → (∀ x ∈ ns, ∃ cur' outs', x ∈ cur' ∧ forC w body k lo f (i + 1) cur' = some outs' ∧ ∀ x ∈ outs', x ∈ outs) → ((w.nxt i p.2 = some none ∧ (.nx, p.1, p.2) ∈ outs) ∨ ∃ d rs, w.nxt i p.2 = some (some d) ∧ body d p.1 p.2 = some rs ∧ ∀ r ∈ rs,
      (∃ d, r.1 = .ret d ∧ r ∈ outs) ∨ (r.1 = .brk ∧ (.nx, r.2.1, r.2.2) ∈ outs) ∨ ((r.1 = .nx ∨ r.1 = .cont) ∧ ∃ p, forget k lo r.2.1 r.2.2 = some p ∧ ∃ cur' outs', p ∈ cur' ∧ forC w body k lo f (i + 1) cur' = some outs' ∧ ∀ x ∈ outs', x ∈ outs)) := fun i1 i2 => (turnC_mem e p hp).imp (fun ⟨a, b⟩ => ⟨a, i1 _ b⟩) fun ⟨d, rs, os', ns', a1, a2, a3, a4, a5⟩ => ⟨d, rs, a1, a2, fun r hr => (splitR_mem a3 r hr).imp (fun ⟨d, b1, b2⟩ => ⟨d, b1, i1 _ (a4 _ b2)⟩) fun z => z.imp (fun ⟨b1, b2⟩ => ⟨b1, i1 _ (a4 _ b2)⟩) fun ⟨b1, p, b2, b3⟩ => ⟨b1, p, b2, i2 _ (a5 _ b3)⟩⟩
    cases ns with
    | nil => cases h; exact fin (fun x h => h) (fun x h => by cases h)
    | cons n ns =>
      simp only at h
      cases e2 : forC w body k lo f (i + 1) (dedup pBeq (n :: ns)) with
      | none => rw [e2] at h; cases h
      | some os2 =>
        rw [e2] at h
        cases h
        exact fin (fun x h => List.mem_append_left _ h) fun x h => ⟨_, _, mem_dedup pBeq_eq h, e2, fun y hy => List.mem_append_right _ hy⟩
theorem coFor {str : Bool} {tg it : PySem.Expr} {body : List PySem.Stmt} {pos : Pos} {ca : CA} {i0 : It} {t0 : Tg} {b : Ls} {k0 k : Fg} {lo : Nat} (hp : PassesOwn (model X.prog X.w) X.A X.env X.xe) (hc : X.calm = true) (hi : PI X tg it (tI X.K str (evI ca i0))) (hg : PG X tg (tG X.K str (evTg ca t0)))
    (hb : ∀ lo, PSs X body (tCo X.K lo (evLs ca b lo))) (hs : ∀ x, foldedSetIterable it X.env x = pure x) :
    PS X (.For tg it body [] pos) (tCo X.K lo (evL ca (.for_ i0 t0 k0 b k) lo)) := by
  have hb' : PSs X body (fun D σ H => ∃ lo, tCo X.K lo (evLs ca b lo) D σ H) := ⟨fun pins s σ H D I ⟨lo, q⟩ => (hb lo).run pins s σ H D I q⟩
  refine (ps_for hp hc hi hg hb' hs).weak fun D σ H ⟨m0, lh0, H0, m, ls, lh, outs, hlo, S0, R, RS, e, ho⟩ => ?_
  unfold evL at e
  obtain ⟨z, e1, e2⟩ := gat_mem e
  refine ⟨m, ls, lh, R, RS, (T.leaves_all e1).mono fun r hr m1 H1 J S1 R1 hJ => ?_⟩
  obtain ⟨os, e3, e4⟩ := e2 r hr
  have S01 := S0.trans R S1
  refine ⟨fun i f σ' H' => ∃ m' ls' lh' cur outs', Step m1 r.2 H1 m' lh' H' ∧ Rel X.K m' lh' H' ∧ RelS X.K m' lh'.length H' ls' σ' ∧ WkOk X.K m' lh' H' str r.1 J ∧ (ls', lh') ∈ cur ∧
      forC r.1 (fun d ls lh => gat (evTg ca t0 d ls lh).leaves fun q => match forget k0 r.2.length q.1 q.2 with
        | none => none
        | some q => evLs ca b r.2.length q.1 q.2) k r.2.length f i cur = some outs' ∧ ∀ x ∈ outs', x ∈ outs,
    ⟨r.1.fuel r.2, m1, ls, r.2, _, os, .refl, R1, S1.relS R RS, hJ, List.mem_singleton_self _, e3, e4⟩, fun i f σ' H' hw => ?_⟩
  obtain ⟨m', ls', lh', cur, outs', S', R', RS', hJ', hm, e5, e6⟩ := hw
  cases f with
  | zero => cases e5
  | succ f =>
    obtain ⟨j1, j2⟩ := hJ' m' lh' H' i .refl R'
    rcases forC_mem e5 _ hm with ⟨a1, a2⟩ | ⟨d, rs, a1, a2, a3⟩
    · exact .inl ⟨j1 a1, ho _ (e6 _ a2) m' H' σ' (S01.trans R1 S') R' RS'⟩
    · obtain ⟨g1, g2⟩ := j2 d a1
      refine .inr ⟨g1, fun σ'' H'' => ∃ m'' ls'' lh'' cur' outs'', Step m1 r.2 H1 m'' lh'' H'' ∧ Rel X.K m'' lh'' H'' ∧ RelS X.K m'' lh''.length H'' ls'' σ'' ∧ WkOk X.K m'' lh'' H'' str r.1 J ∧ (ls'', lh'') ∈ cur' ∧
        forC r.1 (fun d ls lh => gat (evTg ca t0 d ls lh).leaves fun q => match forget k0 r.2.length q.1 q.2 with
        | none => none
        | some q => evLs ca b r.2.length q.1 q.2) k r.2.length f (i + 1) cur' = some outs'' ∧ ∀ x ∈ outs'', x ∈ outs, fun σ'' H'' hn => ⟨f, Nat.lt_succ_self f, hn⟩, fun x H2 hy => ?_⟩
      obtain ⟨R2, S2, rw2⟩ := g2 x H2 hy
      obtain ⟨zq, b1, b2⟩ := gat_mem a2
      refine ⟨m', ls', lh', d, R2, S2.relS R' RS', rw2, (T.leaves_all b1).mono fun q hq m3 H3 σ3 S3 R3 RS3 => ?_⟩
      obtain ⟨os3, c1, c2⟩ := b2 q hq
      have S13 := (S'.trans R' S2).trans R2 S3
      cases ef : forget k0 r.2.length q.1 q.2 with
      | none => rw [ef] at c1; cases c1
      | some q' =>
      rw [ef] at c1
      obtain ⟨R3, RS3, S13⟩ := forget_ok ef R3 RS3 S13 (Nat.le_refl _)
      refine ⟨r.2.length, m1, r.2, H1, m3, q'.1, q'.2, os3, Nat.le_refl _, S13, R3, RS3, c1, fun o hof m4 H4 σ4 S4 R4 RS4 => ?_⟩
      have base := a3 o (c2 o hof)
      obtain ⟨fl, ls4, l4⟩ := o
      have go : (∃ p, forget k r.2.length ls4 l4 = some p ∧ ∃ cur' outs'', p ∈ cur' ∧ forC r.1 (fun d ls lh => gat (evTg ca t0 d ls lh).leaves fun q => match forget k0 r.2.length q.1 q.2 with
        | none => none
        | some q => evLs ca b r.2.length q.1 q.2) k r.2.length f (i + 1) cur' = some outs'' ∧ ∀ x ∈ outs'', x ∈ outs') →
          ∃ m'' ls'' lh'' cur' outs'', Step m1 r.2 H1 m'' lh'' H4 ∧ Rel X.K m'' lh'' H4 ∧ RelS X.K m'' lh''.length H4 ls'' σ4 ∧ WkOk X.K m'' lh'' H4 str r.1 J ∧ (ls'', lh'') ∈ cur' ∧
            forC r.1 (fun d ls lh => gat (evTg ca t0 d ls lh).leaves fun q => match forget k0 r.2.length q.1 q.2 with
        | none => none
        | some q => evLs ca b r.2.length q.1 q.2) k r.2.length f (i + 1) cur' = some outs'' ∧ ∀ x ∈ outs'', x ∈ outs := by
        rintro ⟨p, f1, cur', outs'', f2, f3, f4⟩
        obtain ⟨q1, q2, q3⟩ := forget_ok f1 R4 RS4 S4 (Nat.le_refl _)
        exact ⟨m4, p.1, p.2, cur', outs'', q3, q1, q2, hJ.step q3 q1, f2, f3, fun x hx => e6 x (f4 x hx)⟩
      cases fl with
      | ret v =>
        rcases base with ⟨d', x1, x2⟩ | ⟨x1, _⟩ | ⟨x1, _⟩
        · exact ho _ (e6 _ x2) m4 H4 σ4 (S01.trans R1 S4) R4 RS4
        · cases x1
        · rcases x1 with x1 | x1 <;> cases x1
      | brk =>
        rcases base with ⟨d', x1, x2⟩ | ⟨x1, x2⟩ | ⟨x1, _⟩
        · cases x1
        · exact ho _ (e6 _ x2) m4 H4 σ4 (S01.trans R1 S4) R4 RS4
        · rcases x1 with x1 | x1 <;> cases x1
      | nx =>
        rcases base with ⟨d', x1, x2⟩ | ⟨x1, x2⟩ | ⟨x1, x2⟩
        · cases x1
        · cases x1
        · exact go x2
      | cont =>
        rcases base with ⟨d', x1, x2⟩ | ⟨x1, x2⟩ | ⟨x1, x2⟩
        · cases x1
        · cases x1
        · exact go x2
end G

set_option maxHeartbeats 4000000
namespace G
open PySem L2 PyProof.Rows
variable {X : Cx} {fs : List Df} {k : Nat} {K : PySem.W.Frag}

mutual
def chkL (fs : List Df) (N : List Str) : L → Scope → (Str → Bool) → PySem.Stmt → Bool
  | .st s _, sc, fnb, st => chkS fs N s sc fnb st
  | .if_ c a b, sc, fnb, st => (match st with
    | .If pc pa pb _ => chkE fs N c sc fnb pc && chkLs fs N a sc fnb pa && chkLs fs N b sc fnb pb
    | _ => false)
  | .for_ it t _ b _, sc, fnb, st => (match st with
    | .For pt pit pb [] _ => chkI fs N it sc fnb t.str pit && plainB pit && chkT fs N t sc fnb pt && chkLs fs N b sc fnb pb
    | _ => false)
def chkLs (fs : List Df) (N : List Str) : Ls → Scope → (Str → Bool) → List PySem.Stmt → Bool
  | .nil, _, _, sts => (match sts with
    | [] => true
    | _ :: _ => false)
  | .cons s r, sc, fnb, sts => (match sts with
    | st :: sts => chkL fs N s sc fnb st && chkLs fs N r sc fnb sts
    | [] => false)
end
mutual
theorem lS {X : Cx} {fnb : Str → Bool} {sc : Scope} {N : List Str} (g : Good fs k fnb sc N X) : ∀ (s : L) (st : PySem.Stmt) (lo : Nat), chkL fs N s sc fnb st = true → PS X st (tCo X.K lo (evL (evCall fs k) s lo))
  | .st s fg, st, lo, h => coSt (sS g s st (by unfold chkL at h; exact h))
  | .if_ c a b, st, lo, h => by
    unfold chkL at h
    split at h
    · obtain ⟨h, h3⟩ := and2 h
      obtain ⟨h1, h2⟩ := and2 h
      exact coIf (sT g c _ h1) (lSs g a _ lo h2) (lSs g b _ lo h3)
    · cases h
  | .for_ it t k0 b fg, st, lo, h => by
    unfold chkL at h
    split at h
    · obtain ⟨h, h4⟩ := and2 h
      obtain ⟨h, h3⟩ := and2 h
      obtain ⟨h1, h2⟩ := and2 h
      exact coFor (passOwn g) g.calm (sI g it _ t.str _ h1 (t_tup h3)) (sG g t _ h3) (fun lo => lSs g b _ lo h4) (fold_of h2)
    · cases h
theorem lSs {X : Cx} {fnb : Str → Bool} {sc : Scope} {N : List Str} (g : Good fs k fnb sc N X) : ∀ (s : Ls) (st : List PySem.Stmt) (lo : Nat), chkLs fs N s sc fnb st = true → PSs X st (tCo X.K lo (evLs (evCall fs k) s lo))
  | .nil, st, lo, h => by
    unfold chkLs at h
    split at h
    · exact coNil
    · cases h
  | .cons s r, st, lo, h => by
    unfold chkLs at h
    split at h
    · obtain ⟨h1, h2⟩ := and2 h
      exact coCons (lS g s _ lo h1) (lSs g r _ lo h2)
    · cases h
end
def isYes (r : R3) : Bool := match r.1 with
  | .ret (.bl true) => true
  | _ => false
theorem isYes_eq {r : R3} (h : isYes r = true) : r.1 = .ret (.bl true) := by
  unfold isYes at h
  split at h
  · assumption
  · cases h
/-- a run's ends all meet P -/
def Run (ca : CA) (b : Ls) (lo : Nat) (ls : LS) (lh : LH) (P : R3 → Prop) : Prop := ∃ outs, evLs ca b lo ls lh = some outs ∧ ∀ r ∈ outs, P r
def Ls.app : List L → Ls → Ls
  | [], r => r
  | l :: p, r => .cons l (Ls.app p r)
/-- every end goes on, in one of these states -/
def intoB (o : Option (List R3)) (S : List (LS × LH)) : Bool := match o with
  | none => false
  | some l => l.all fun r => (match r.1 with
    | .nx => S.any fun s => pBeq r.2 s
    | _ => false)
theorem intoB_mem {o : Option (List R3)} {S : List (LS × LH)} (h : intoB o S = true) : ∃ l, o = some l ∧ ∀ r ∈ l, ∃ s ∈ S, r = (.nx, s.1, s.2) := by
  unfold intoB at h
  cases o with
  | none => cases h
  | some l =>
    refine ⟨l, rfl, fun r hr => ?_⟩
    have := List.all_eq_true.mp h r hr
    obtain ⟨fl, q⟩ := r
    cases fl with
    | nx =>
      obtain ⟨s, hs, e⟩ := List.any_eq_true.mp this
      exact ⟨s, hs, by rw [show q = s from pBeq_eq _ _ e]⟩
    | _ => cases this
theorem join_ex {α : Type} {f : α → Option (List R3)} {P : R3 → Prop} : ∀ {l : List α}, (∀ a ∈ l, ∃ os, f a = some os ∧ ∀ r ∈ os, P r) → ∃ z, joinO (l.map f) = some z ∧ ∀ r ∈ z, P r
  | [], _ => ⟨[], rfl, fun r h => by cases h⟩
  | a :: l, h => by
    obtain ⟨os, e1, p1⟩ := h a List.mem_cons_self
    obtain ⟨z, e2, p2⟩ := join_ex fun b hb => h b (List.mem_cons_of_mem _ hb)
    refine ⟨os ++ z, ?_, fun r hr => (List.mem_append.mp hr).elim (p1 r) (p2 r)⟩
    rw [List.map_cons, e1]
    unfold joinO
    rw [e2]
theorem mem_of_dedup {α : Type} {eq : α → α → Bool} {x : α} : ∀ {l : List α}, x ∈ dedup eq l → x ∈ l
  | [], h => by unfold dedup at h; cases h
  | y :: r, h => by
    unfold dedup at h
    split at h
    · exact List.mem_cons_of_mem _ (mem_of_dedup h)
    · rcases List.mem_cons.mp h with rfl | h
      · exact List.mem_cons_self
      · exact List.mem_cons_of_mem _ (mem_of_dedup h)
theorem gat_ex {α : Type} {t : Option (List α)} {f : α → Option (List R3)} {P : R3 → Prop} {l : List α} (ht : t = some l) (h : ∀ a ∈ l, ∃ os, f a = some os ∧ ∀ r ∈ os, P r) : ∃ z, gat t f = some z ∧ ∀ r ∈ z, P r := by
  obtain ⟨z, e, p⟩ := join_ex h
  refine ⟨dedup rBeq z, ?_, fun r hr => p r (mem_of_dedup hr)⟩
  rw [ht]
  unfold gat
  simp only [e]
theorem Run.cons {ca : CA} {l : L} {r : Ls} {lo : Nat} {ls : LS} {lh : LH} {P : R3 → Prop} (h : ∃ outs, evL ca l lo ls lh = some outs ∧ ∀ o ∈ outs, ∃ s : LS × LH, o = (.nx, s.1, s.2) ∧ Run ca r lo s.1 s.2 P) : Run ca (.cons l r) lo ls lh P := by
  obtain ⟨outs, e, h⟩ := h
  unfold Run evLs
  refine gat_ex e fun o ho => ?_
  obtain ⟨s, rfl, hr⟩ := h o ho
  exact hr
theorem Run.app {ca : CA} {lo : Nat} {P : R3 → Prop} {r : Ls} {S : List (LS × LH)} (h2 : ∀ s ∈ S, Run ca r lo s.1 s.2 P) : ∀ (p : List L) {ls : LS} {lh : LH}, (∃ l, evLs ca (Ls.app p .nil) lo ls lh = some l ∧ ∀ r ∈ l, ∃ s ∈ S, r = (.nx, s.1, s.2)) → Run ca (Ls.app p r) lo ls lh P
  | [], ls, lh, ⟨l, e, h⟩ => by
    unfold Ls.app evLs at e
    cases e
    obtain ⟨s, hs, e⟩ := h _ (List.mem_singleton_self _)
    cases e
    exact h2 s hs
  | q :: p, ls, lh, ⟨l, e, h⟩ => by
    unfold Ls.app evLs at e
    obtain ⟨z, e1, e2⟩ := gat_mem e
    refine Run.cons ⟨z, e1, fun o ho => ?_⟩
    obtain ⟨os, e3, e4⟩ := e2 o ho
    obtain ⟨fl, q1⟩ := o
    cases fl with
    | nx => exact ⟨q1, rfl, Run.app h2 p ⟨os, e3, fun r hr => h r (e4 r hr)⟩⟩
    | brk => cases e3; obtain ⟨s, hs, e5⟩ := h _ (e4 _ (List.mem_singleton_self _)); cases e5
    | cont => cases e3; obtain ⟨s, hs, e5⟩ := h _ (e4 _ (List.mem_singleton_self _)); cases e5
    | ret d => cases e3; obtain ⟨s, hs, e5⟩ := h _ (e4 _ (List.mem_singleton_self _)); cases e5
theorem Run.cut {ca : CA} {lo : Nat} {P : R3 → Prop} {r : Ls} {p : List L} {ls : LS} {lh : LH} (S : List (LS × LH)) (h1 : intoB (evLs ca (Ls.app p .nil) lo ls lh) S = true) (h2 : ∀ s ∈ S, Run ca r lo s.1 s.2 P) : Run ca (Ls.app p r) lo ls lh P :=
  Run.app h2 p (intoB_mem h1)
def yesB (o : Option (List R3)) : Bool := match o with
  | none => false
  | some l => l.all isYes
theorem Run.yes {ca : CA} {lo : Nat} {r : Ls} {ls : LS} {lh : LH} (h : yesB (evLs ca r lo ls lh) = true) : Run ca r lo ls lh fun r => r.1 = .ret (.bl true) := by
  unfold yesB at h
  split at h
  · cases h
  · rename_i l e
    exact ⟨l, e, fun r hr => isYes_eq (List.all_eq_true.mp h r hr)⟩
theorem Run.into {ca : CA} {lo : Nat} {r : Ls} {ls : LS} {lh : LH} {S : List (LS × LH)} (h : intoB (evLs ca r lo ls lh) S = true) : Run ca r lo ls lh fun r => ∃ s ∈ S, r = (.nx, s.1, s.2) := intoB_mem h
/-- a state is kept by forgetting -/
def keptB (k : Fg) (lo : Nat) (s : LS × LH) (S : List (LS × LH)) : Bool := match forget k lo s.1 s.2 with
  | some p => S.any fun q => pBeq p q
  | none => false
theorem keptB_eq {k : Fg} {lo : Nat} {s : LS × LH} {S : List (LS × LH)} (h : keptB k lo s S = true) : ∃ p ∈ S, forget k lo s.1 s.2 = some p := by
  unfold keptB at h
  split at h
  · rename_i p e
    obtain ⟨q, hq, e2⟩ := List.any_eq_true.mp h
    exact ⟨p, by rw [pBeq_eq _ _ e2]; exact hq, e⟩
  · cases h
/-- a loop over a range, its states always among these -/
theorem Run.loop {ca : CA} {lo nn : Nat} {e0 : E} {t : Tg} {k0 k : Fg} {b : Ls} {ls : LS} {lh : LH} {S S' : List (LS × LH)} (hi : evI ca (.rng1 e0) ls lh = .ret (.rng 0 nn 1, lh)) (h0 : (ls, lh) ∈ S)
    (ht : ∀ s ∈ S, ∀ i, i < nn → ∃ q, evTg ca t (.int (0 + (i : Nat) * 1)) s.1 s.2 = .ret q ∧ ∃ p ∈ S', forget k0 lh.length q.1 q.2 = some p)
    (hb : ∀ s ∈ S', Run ca b lh.length s.1 s.2 fun r => ∃ s ∈ S, r = (.nx, s.1, s.2))
    (hk : ∀ s ∈ S, ∃ p ∈ S, forget k lh.length s.1 s.2 = some p) :
    ∃ outs, evL ca (.for_ (.rng1 e0) t k0 b k) lo ls lh = some outs ∧ ∀ o ∈ outs, ∃ s ∈ S, o = (.nx, s.1, s.2) := by
  unfold evL
  rw [hi]
  refine gat_ex (l := [(.rng 0 nn 1, lh)]) rfl fun a ha => ?_
  obtain rfl := List.mem_singleton.mp ha
  show ∃ os, forC (.rng 0 nn 1) _ k lh.length (nn + 1) 0 [(ls, lh)] = some os ∧ _
  generalize hbd : (fun (d : D) (ls : LS) (lh' : LH) => gat (evTg ca t d ls lh').leaves fun q => match forget k0 lh.length q.1 q.2 with
    | none => none
    | some q => evLs ca b lh.length q.1 q.2) = body
  have hbody : ∀ s ∈ S, ∀ i, i < nn → ∃ os, body (.int (0 + (i : Nat) * 1)) s.1 s.2 = some os ∧ ∀ r ∈ os, ∃ s ∈ S, r = (.nx, s.1, s.2) := by
    intro s hs i hin
    obtain ⟨q, e1, p, hp, e2⟩ := ht s hs i hin
    rw [← hbd]
    show ∃ os, gat (evTg ca t (.int (0 + (i : Nat) * 1)) s.1 s.2).leaves _ = some os ∧ _
    rw [e1]
    refine gat_ex (l := [q]) rfl fun a ha => ?_
    obtain rfl := List.mem_singleton.mp ha
    rw [e2]
    exact hb p hp
  have split : ∀ (rs : List R3), (∀ r ∈ rs, ∃ s ∈ S, r = (.nx, s.1, s.2)) → ∃ ns, splitR k lh.length rs = some ([], ns) ∧ ∀ n ∈ ns, n ∈ S := by
    intro rs
    induction rs with
    | nil => exact fun _ => ⟨[], rfl, fun n h => by cases h⟩
    | cons r rs ih =>
      intro h
      obtain ⟨ns, e1, e2⟩ := ih fun r hr => h r (List.mem_cons_of_mem _ hr)
      obtain ⟨s, hs, rfl⟩ := h r List.mem_cons_self
      obtain ⟨p, hp, e3⟩ := hk s hs
      refine ⟨p :: ns, ?_, fun n hn => (List.mem_cons.mp hn).elim (fun e => e ▸ hp) (e2 n)⟩
      unfold splitR
      rw [e1]
      simp only [e3]
  have turn : ∀ (i : Nat) (cur : List (LS × LH)), (∀ s ∈ cur, s ∈ S) → ∃ os ns, turnC (.rng 0 nn 1) body k lh.length i cur = some (os, ns) ∧ (∀ o ∈ os, ∃ s ∈ S, o = (.nx, s.1, s.2)) ∧ (∀ n ∈ ns, n ∈ S) ∧ (nn ≤ i → ns = []) := by
    intro i cur
    induction cur with
    | nil => exact fun _ => ⟨[], [], rfl, fun o h => (by cases h), fun o h => (by cases h), fun _ => rfl⟩
    | cons s cur ih =>
      intro h
      obtain ⟨os, ns, e1, e2, e3, e4⟩ := ih fun r hr => h r (List.mem_cons_of_mem _ hr)
      have hs := h s List.mem_cons_self
      unfold turnC
      rw [e1]
      simp only
      by_cases hin : i < nn
      · have en : (Wk.rng 0 nn 1).nxt i s.2 = some (some (.int (0 + (i : Nat) * 1))) := by
          show some (if i < nn then _ else _) = _
          rw [if_pos hin]
        rw [en]
        obtain ⟨rs, b1, b2⟩ := hbody s hs i hin
        simp only [b1]
        obtain ⟨ns', c1, c2⟩ := split rs b2
        rw [c1]
        exact ⟨[] ++ os, ns' ++ ns, rfl, e2, fun n hn => (List.mem_append.mp hn).elim (c2 n) (e3 n), fun z => absurd hin (Nat.not_lt.mpr z)⟩
      · have en : (Wk.rng 0 nn 1).nxt i s.2 = some none := by
          show some (if i < nn then _ else _) = _
          rw [if_neg hin]
        rw [en]
        exact ⟨_, ns, rfl, fun o ho => (List.mem_cons.mp ho).elim (fun e => ⟨s, hs, e⟩) (e2 o), e3, e4⟩
  have loop : ∀ (f i : Nat) (cur : List (LS × LH)), nn + 1 ≤ f + i → f ≠ 0 → (∀ s ∈ cur, s ∈ S) → ∃ os, forC (.rng 0 nn 1) body k lh.length f i cur = some os ∧ ∀ o ∈ os, ∃ s ∈ S, o = (.nx, s.1, s.2) := by
    intro f
    induction f with
    | zero => exact fun i cur _ h => absurd rfl h
    | succ f ih =>
      intro i cur hf _ h
      obtain ⟨os, ns, e1, e2, e3, e4⟩ := turn i cur h
      unfold forC
      rw [e1]
      cases ns with
      | nil => exact ⟨os, rfl, e2⟩
      | cons n ns =>
        have hin : ¬ nn ≤ i := fun z => by cases e4 z
        obtain ⟨os2, e5, e6⟩ := ih (i + 1) (dedup pBeq (n :: ns)) (by omega) (by omega) fun s hs => e3 s (mem_of_dedup hs)
        simp only [e5]
        exact ⟨os ++ os2, rfl, fun o ho => (List.mem_append.mp ho).elim (e2 o) (e6 o)⟩
  exact loop (nn + 1) 0 [(ls, lh)] (by omega) (by omega) fun s hs => by obtain rfl := List.mem_singleton.mp hs; exact h0
/-- the law's run: every end is True -/
def lawR (fs : List Df) (k : Nat) (N : List Str) (lb : Ls) : Prop := Run (evCall fs k) lb 0 (startLS N [.scr]) [] fun r => r.1 = .ret (.bl true)
def spLaw (K : PySem.W.Frag) : Sp := fun vs H Q _ => ∃ (a : Addr) (ns : List Int), vs = [.ref a] ∧ SqF K H a (ns.map V.int) ∧ ∀ H', Q (.bl true) H'
theorem law_ok {P : Program} {w : World} {mg : Str → Option Value} {base : Heap} (M : Modl K mg fs) {N : List Str} {a : Addr} {fd : FuncData} {st : PySem.Stmt} {lb : Ls} (F : Fun K "law" "law" st a fd) (S : scB N scN (defScope st) = true)
    (hc : chkLs fs N lb (defScope st) fnbT (defBody st) = true) (hr : lawR fs k N lb) : FnOk P w K mg base CX0 (k + 1) a fd ["script"] (spLaw K) := by
  have S' := scB_of S
  refine F.ok S' (fun vs H Q E h => ?_) (fun cdv A outer s H vs Q E hr' h => ?_)
  · obtain ⟨a, ns, rfl, _⟩ := h
    rfl
  · obtain ⟨a, ns, rfl, hS, q⟩ := h
    have g0 := good_of (w := w) (P := P) (base := base) (H := H) (E := E) (outer := outer) M k (all_ok M k) S' hr'
    refine ⟨_, lSs g0 lb _ 0 hc, ?_⟩
    obtain ⟨outs, e, hall⟩ := hr
    · refine ⟨fun _ => a, [], H, fun _ => a, startLS N [.scr], [], outs, Nat.le_refl _, .refl, .empty, repV_start (.cons (.scr hS) .nil), e, fun r h m' H' σ' S R RS => ?_⟩
      have := hall r h
      obtain ⟨fl, ls1, l1⟩ := r
      have this : fl = .ret (.bl true) := this
      subst this
      intro v rv
      cases rv
      exact q H'
theorem sqF_of {H : Hp} {a : Addr} {xs : List V} (hO : Only H) (h : SqL K H a xs) : SqF K H a xs := by
  rcases h with (h | ⟨o, h⟩) | h
  · rcases hO a with e | ⟨o, ys, e⟩
    · rw [e] at h; cases h
    · rw [e] at h; cases h
  · exact .inl ⟨o, h⟩
  · exact .inr h
end G

set_option maxHeartbeats 0
namespace My
open PySem PySem.Spec PyProof.Rows L2 G
/-! ### the defs, in the small machine's words -/
def d0 : Df := { name := "parts_below", ps := ["n", "most"], N := ["n", "most", "found", "k", "rest"], kd := (.code (.cons (.if_ (.cmp .eq (.var 0) (.int 0)) (.cons (.ret (.lst (.cons (.tup .nil) .nil)))
      .nil) .nil)
      (.cons (.asg (.name 2) (.lst .nil))
      (.cons (.for_ (.rng3 (.fn .min (.cons (.var 0) (.cons (.var 1) .nil))) (.int 0) (-1)) (.name 3) (.cons (.expr (.mt .extend (.var 2) (.cons (.comp (.val (.call 0 (.cons (.bin .sub (.var 0) (.var 3)) (.cons (.var 3) .nil)))) (.name 4) .no (.bin .add (.tup (.cons (.var 3) .nil)) (.var 4)) [("rest", 4)]) .nil)))
      .nil))
      (.cons (.ret (.var 2))
      .nil))))) }
def d1 : Df := { name := "partitions", ps := ["n"], N := ["n"], kd := (.code (.cons (.ret (.fn .tuple (.cons (.call 0 (.cons (.var 0) (.cons (.var 0) .nil))) .nil)))
      .nil)) }
def d2 : Df := { name := "grown", ps := ["partition", "word"], N := ["partition", "word", "found", "row", "most", "long"], kd := (.code (.cons (.asg (.name 2) (.lst .nil))
      (.cons (.for_ (.enum (.var 0)) (.tup (.cons (.name 3) (.cons (.name 4) .nil))) (.cons (.asg (.name 5) (.mt .count (.var 1) (.cons (.var 3) .nil)))
      (.cons (.if_ (.and_ (.cmp .lt (.var 5) (.var 4)) (.or_ (.cmp .eq (.var 3) (.int 0)) (.cmp .lt (.var 5) (.mt .count (.var 1) (.cons (.bin .sub (.var 3) (.int 1)) .nil))))) (.cons (.expr (.mt .append (.var 2) (.cons (.var 3) .nil)))
      .nil) .nil)
      .nil)))
      (.cons (.ret (.var 2))
      .nil)))) }
def d3 : Df := { name := "fillings", ps := ["partition"], N := ["partition", "found", "_", "longer", "word", "row"], kd := (.code (.cons (.asg (.name 1) (.lst (.cons (.tup .nil) .nil)))
      (.cons (.for_ (.rng1 (.fn .sum (.cons (.var 0) .nil))) (.name 2) (.cons (.asg (.name 3) (.lst .nil))
      (.cons (.for_ (.val (.var 1)) (.name 4) (.cons (.expr (.mt .extend (.var 3) (.cons (.comp (.val (.call 2 (.cons (.var 0) (.cons (.var 4) .nil)))) (.name 5) .no (.bin .add (.var 4) (.tup (.cons (.var 5) .nil))) [("row", 5)]) .nil)))
      .nil))
      (.cons (.asg (.name 1) (.var 3))
      .nil))))
      (.cons (.ret (.fn .tuple (.cons (.var 1) .nil)))
      .nil)))) }
def d4 : Df := { name := "columns_of", ps := ["partition"], N := ["partition", "column", "k"], kd := (.code (.cons (.ret (.fn .tuple (.cons (.comp (.rng1 (.idx (.var 0) (.int 0))) (.name 1) .no (.fn .len (.cons (.comp (.val (.var 0)) (.name 2) (.yes (.cmp .gt (.var 2) (.var 1))) (.var 2) [("k", 2)]) .nil)) [("column", 1)]) .nil)))
      .nil)) }
def d5 : Df := { name := "hooks", ps := ["partition"], N := ["partition", "columns", "found", "row", "long", "column"], kd := (.code (.cons (.asg (.name 1) (.call 4 (.cons (.var 0) .nil)))
      (.cons (.asg (.name 2) (.lst .nil))
      (.cons (.for_ (.enum (.var 0)) (.tup (.cons (.name 3) (.cons (.name 4) .nil))) (.cons (.expr (.mt .append (.var 2) (.cons (.fn .tuple (.cons (.comp (.rng1 (.var 4)) (.name 5) .no (.bin .sub (.bin .sub (.bin .add (.bin .sub (.var 4) (.var 5)) (.idx (.var 1) (.var 5))) (.var 3)) (.int 1)) [("column", 5)]) .nil)) .nil)))
      .nil))
      (.cons (.ret (.fn .tuple (.cons (.var 2) .nil)))
      .nil))))) }
def d6 : Df := { name := "dimension", ps := ["partition"], N := ["partition", "top", "k", "row", "hook"], kd := (.code (.cons (.asg (.name 1) (.int 1))
      (.cons (.for_ (.rng2 (.int 1) (.bin .add (.fn .sum (.cons (.var 0) .nil)) (.int 1))) (.name 2) (.cons (.aug 1 .mul (.var 2))
      .nil))
      (.cons (.for_ (.val (.call 5 (.cons (.var 0) .nil))) (.name 3) (.cons (.for_ (.val (.var 3)) (.name 4) (.cons (.aug 1 .fdiv (.var 4))
      .nil))
      .nil))
      (.cons (.ret (.var 1))
      .nil))))) }
def d7 : Df := { name := "_law_start", ps := ["script"], N := ["script"], kd := .start }
def d8 : Df := { name := "_law_draw", ps := ["state", "most"], N := ["state", "most", "found", "cell", "mixed"], kd := .draw }
def d9 : Df := { name := "_law_one_of", ps := ["state", "items"], N := ["state", "items"], kd := (.code (.cons (.ret (.idx (.var 1) (.call 8 (.cons (.var 0) (.cons (.fn .len (.cons (.var 1) .nil)) .nil)))))
      .nil)) }
def d10 : Df := { name := "_law_is_int", ps := ["x"], N := ["x"], kd := (.code (.cons (.ret (.and_ (.fn (.isi .int) (.cons (.var 0) .nil)) (.not_ (.fn (.isi .bool) (.cons (.var 0) .nil)))))
      .nil)) }
def d11 : Df := { name := "_law_same", ps := ["x", "y"], N := ["x", "y", "k"], kd := (.code (.cons (.if_ (.fn (.isi .tuple) (.cons (.var 1) .nil)) (.cons (.if_ (.or_ (.not_ (.fn (.isi .tuple) (.cons (.var 0) .nil))) (.cmp .ne (.fn .len (.cons (.var 0) .nil)) (.fn .len (.cons (.var 1) .nil)))) (.cons (.ret (.bl false))
      .nil) .nil)
      (.cons (.ret (.fn .all (.cons (.comp (.rng1 (.fn .len (.cons (.var 1) .nil))) (.name 2) .no (.call 11 (.cons (.idx (.var 0) (.var 2)) (.cons (.idx (.var 1) (.var 2)) .nil))) [("k", 2)]) .nil)))
      .nil)) .nil)
      (.cons (.if_ (.fn (.isi .str) (.cons (.var 1) .nil)) (.cons (.ret (.and_ (.fn (.isi .str) (.cons (.var 0) .nil)) (.cmp .eq (.var 0) (.var 1))))
      .nil) .nil)
      (.cons (.ret (.and_ (.call 10 (.cons (.var 0) .nil)) (.cmp .eq (.var 0) (.var 1))))
      .nil)))) }
def d12 : Df := { name := "_law_words_of", ps := ["partition"], N := ["partition", "words", "turn", "more", "word", "row", "many"], kd := (.code (.cons (.asg (.name 1) (.lst (.cons (.tup .nil) .nil)))
      (.cons (.for_ (.rng1 (.fn .sum (.cons (.var 0) .nil))) (.name 2) (.cons (.asg (.name 3) (.lst .nil))
      (.cons (.for_ (.val (.var 1)) (.name 4) (.cons (.for_ (.rng1 (.fn .len (.cons (.var 0) .nil))) (.name 5) (.cons (.asg (.name 6) (.mt .count (.var 4) (.cons (.var 5) .nil)))
      (.cons (.if_ (.and_ (.cmp .lt (.var 6) (.idx (.var 0) (.var 5))) (.or_ (.cmp .eq (.var 5) (.int 0)) (.cmp .gt (.mt .count (.var 4) (.cons (.bin .sub (.var 5) (.int 1)) .nil)) (.var 6)))) (.cons (.expr (.mt .append (.var 3) (.cons (.bin .add (.var 4) (.tup (.cons (.var 5) .nil))) .nil)))
      .nil) .nil)
      .nil)))
      .nil))
      (.cons (.asg (.name 1) (.var 3))
      .nil))))
      (.cons (.ret (.var 1))
      .nil)))) }
def d13 : Df := { name := "_law_factorial", ps := ["n"], N := ["n", "found", "k"], kd := (.code (.cons (.asg (.name 1) (.int 1))
      (.cons (.for_ (.rng2 (.int 2) (.bin .add (.var 0) (.int 1))) (.name 2) (.cons (.asg (.name 1) (.bin .mul (.var 1) (.var 2)))
      .nil))
      (.cons (.ret (.var 1))
      .nil)))) }
def d14 : Df := { name := "_law_parts_of", ps := ["n", "most"], N := ["n", "most", "found", "k", "rest"], kd := (.code (.cons (.if_ (.cmp .eq (.var 0) (.int 0)) (.cons (.ret (.lst (.cons (.tup .nil) .nil)))
      .nil) .nil)
      (.cons (.asg (.name 2) (.lst .nil))
      (.cons (.for_ (.rng3 (.fn .min (.cons (.var 0) (.cons (.var 1) .nil))) (.int 0) (-1)) (.name 3) (.cons (.asg (.name 2) (.bin .add (.var 2) (.comp (.val (.call 14 (.cons (.bin .sub (.var 0) (.var 3)) (.cons (.var 3) .nil)))) (.name 4) .no (.bin .add (.tup (.cons (.var 3) .nil)) (.var 4)) [("rest", 4)])))
      .nil))
      (.cons (.ret (.var 2))
      .nil))))) }
def d15 : Df := { name := "_law_hook", ps := ["partition", "row", "column"], N := ["partition", "row", "column", "below", "k"], kd := (.code (.cons (.asg (.name 3) (.comp (.rng2 (.bin .add (.var 1) (.int 1)) (.fn .len (.cons (.var 0) .nil))) (.name 4) (.yes (.cmp .gt (.idx (.var 0) (.var 4)) (.var 2))) (.var 4) [("k", 4)]))
      (.cons (.ret (.bin .add (.bin .sub (.idx (.var 0) (.var 1)) (.var 2)) (.fn .len (.cons (.var 3) .nil))))
      .nil))) }
def d16 : Df := { name := "_law_hooks_of", ps := ["partition"], N := ["partition", "found", "row", "column"], kd := (.code (.cons (.asg (.name 1) (.lst .nil))
      (.cons (.for_ (.rng1 (.fn .len (.cons (.var 0) .nil))) (.name 2) (.cons (.expr (.mt .append (.var 1) (.cons (.fn .tuple (.cons (.comp (.rng1 (.idx (.var 0) (.var 2))) (.name 3) .no (.call 15 (.cons (.var 0) (.cons (.var 2) (.cons (.var 3) .nil)))) [("column", 3)]) .nil)) .nil)))
      .nil))
      (.cons (.ret (.fn .tuple (.cons (.var 1) .nil)))
      .nil)))) }
def d17 : Df := { name := "_law_is_told", ps := ["partition"], N := ["partition", "words", "many", "row", "hook"], kd := (.code (.cons (.asg (.name 1) (.call 12 (.cons (.var 0) .nil)))
      (.cons (.if_ (.or_ (.not_ (.call 11 (.cons (.call 3 (.cons (.var 0) .nil)) (.cons (.fn .tuple (.cons (.fn .sorted (.cons (.var 1) .nil)) .nil)) .nil)))) (.not_ (.call 11 (.cons (.call 5 (.cons (.var 0) .nil)) (.cons (.call 16 (.cons (.var 0) .nil)) .nil))))) (.cons (.ret (.bl false))
      .nil) .nil)
      (.cons (.asg (.name 2) (.call 13 (.cons (.fn .sum (.cons (.var 0) .nil)) .nil)))
      (.cons (.for_ (.val (.call 16 (.cons (.var 0) .nil))) (.name 3) (.cons (.for_ (.val (.var 3)) (.name 4) (.cons (.asg (.name 2) (.bin .fdiv (.var 2) (.var 4)))
      .nil))
      .nil))
      (.cons (.ret (.and_ (.call 11 (.cons (.call 6 (.cons (.var 0) .nil)) (.cons (.fn .len (.cons (.var 1) .nil)) .nil))) (.cmp .eq (.var 2) (.fn .len (.cons (.var 1) .nil)))))
      .nil)))))) }
def lawN : List Str := ["script", "state", "n", "told", "partition", "turn", "m"]
def l7 : L := (.st (.ret (.bl true)) (.keep []))
def l6_2 : L := (.st (.if_ (.or_ (.not_ (.call 11 (.cons (.call 5 (.cons (.var 4) .nil)) (.cons (.call 16 (.cons (.var 4) .nil)) .nil)))) (.not_ (.call 11 (.cons (.call 1 (.cons (.var 6) .nil)) (.cons (.fn .tuple (.cons (.call 14 (.cons (.var 6) (.cons (.var 6) .nil))) .nil)) .nil))))) (.cons (.ret (.bl false))
      .nil) .nil) (.keep [1]))
def l6_1 : L := (.st (.asg (.name 4) (.call 9 (.cons (.var 1) (.cons (.call 14 (.cons (.var 6) (.cons (.var 6) .nil))) .nil)))) (.keep [1, 4, 6]))
def l6_0 : L := (.st (.asg (.name 6) (.bin .add (.int 7) (.call 8 (.cons (.var 1) (.cons (.int 3) .nil))))) (.keep [1, 6]))
def l6b : Ls := (.cons l6_0 (.cons l6_1 (.cons l6_2 .nil)))
def l6 : L := (.for_ (.rng1 (.int 3)) (.name 5) (.keep [1]) l6b (.keep [1]))
def l5 : L := (.st (.for_ (.val (.var 3)) (.name 4) (.cons (.if_ (.not_ (.call 17 (.cons (.var 4) .nil))) (.cons (.ret (.bl false))
      .nil) .nil)
      .nil)) (.keep [1]))
def l4 : L := (.st (.if_ (.cmp .ne (.fn .sum (.cons (.comp (.val (.var 3)) (.name 4) .no (.bin .pow (.call 6 (.cons (.var 4) .nil)) (.int 2)) [("partition", 4)]) .nil)) (.call 13 (.cons (.var 2) .nil))) (.cons (.ret (.bl false))
      .nil) .nil) (.keep [1, 3]))
def l3 : L := (.st (.if_ (.or_ (.not_ (.call 11 (.cons (.call 1 (.cons (.var 2) .nil)) (.cons (.fn .tuple (.cons (.var 3) .nil)) .nil)))) (.cmp .ne (.var 3) (.rev (.fn .sorted (.cons (.var 3) .nil))))) (.cons (.ret (.bl false))
      .nil) .nil) (.keep [1, 2, 3]))
def l2 : L := (.st (.asg (.name 3) (.call 14 (.cons (.var 2) (.cons (.var 2) .nil)))) (.keep [1, 2, 3]))
def l1 : L := (.st (.asg (.name 2) (.bin .add (.int 1) (.call 8 (.cons (.var 1) (.cons (.int 6) .nil))))) (.keep [1, 2]))
def l0 : L := (.st (.asg (.name 1) (.call 7 (.cons (.var 0) .nil))) (.keep [1]))
def lawL : Ls := (.cons l0 (.cons l1 (.cons l2 (.cons l3 (.cons l4 (.cons l5 (.cons l6 (.cons l7 .nil))))))))
def fs : List Df := [d0, d1, d2, d3, d4, d5, d6, d7, d8, d9, d10, d11, d12, d13, d14, d15, d16, d17]
/-! ### the text -/
def rowAt (i : Nat) : Stmt := PySem.Challenge.pw_lawsfollow_k41_partitions_fillings_and_h.main.body.getD i (.Pass ⟨0, 0, 0, 0⟩)
abbrev t0 : Stmt := rowAt 1
abbrev t1 : Stmt := rowAt 2
abbrev t2 : Stmt := rowAt 3
abbrev t3 : Stmt := rowAt 4
abbrev t4 : Stmt := rowAt 5
abbrev t5 : Stmt := rowAt 6
abbrev t6 : Stmt := rowAt 7
abbrev t7 : Stmt := rowAt 9
abbrev t8 : Stmt := rowAt 10
abbrev t9 : Stmt := rowAt 11
abbrev t10 : Stmt := rowAt 12
abbrev t11 : Stmt := rowAt 13
abbrev t12 : Stmt := rowAt 14
abbrev t13 : Stmt := rowAt 15
abbrev t14 : Stmt := rowAt 16
abbrev t15 : Stmt := rowAt 17
abbrev t16 : Stmt := rowAt 18
abbrev t17 : Stmt := rowAt 19
abbrev tLaw : Stmt := rowAt 20
theorem look0 : chkDf fs d0 t0 = true := by decide +kernel
theorem look1 : chkDf fs d1 t1 = true := by decide +kernel
theorem look2 : chkDf fs d2 t2 = true := by decide +kernel
theorem look3 : chkDf fs d3 t3 = true := by decide +kernel
theorem look4 : chkDf fs d4 t4 = true := by decide +kernel
theorem look5 : chkDf fs d5 t5 = true := by decide +kernel
theorem look6 : chkDf fs d6 t6 = true := by decide +kernel
theorem look7 : chkDf fs d7 t7 = true := by decide +kernel
theorem look8 : chkDf fs d8 t8 = true := by decide +kernel
theorem look9 : chkDf fs d9 t9 = true := by decide +kernel
theorem look10 : chkDf fs d10 t10 = true := by decide +kernel
theorem look11 : chkDf fs d11 t11 = true := by decide +kernel
theorem look12 : chkDf fs d12 t12 = true := by decide +kernel
theorem look13 : chkDf fs d13 t13 = true := by decide +kernel
theorem look14 : chkDf fs d14 t14 = true := by decide +kernel
theorem look15 : chkDf fs d15 t15 = true := by decide +kernel
theorem look16 : chkDf fs d16 t16 = true := by decide +kernel
theorem look17 : chkDf fs d17 t17 = true := by decide +kernel
theorem lookS : scB lawN scN (defScope tLaw) = true := by decide +kernel
theorem lookL : chkLs fs lawN lawL (defScope tLaw) fnbT (defBody tLaw) = true := by decide +kernel
/-! ### the law's run in the small machine -/
/-- the draws' state alone -/
def h0 : LH := [.opq, .st 0]
def z0 : LS × LH := ([none, some (.ref 1), none, none, none, none, none], h0)
def zn (n : Int) : LS × LH := ([none, some (.ref 1), some (.int n), none, none, none, none], h0)
def zm (n : Int) : LS × LH := ([none, some (.ref 1), none, none, none, none, some (.int n)], h0)
theorem runA : intoB (evLs (evCall fs 40) (Ls.app [l0, l1] .nil) 0 (startLS lawN [.scr]) []) [zn 1, zn 2, zn 3, zn 4, zn 5, zn 6] = true := by decide +kernel
def fits (n : Int) : Bool := intoB (evLs (evCall fs 40) (Ls.app [l2, l3, l4, l5] .nil) 0 (zn n).1 (zn n).2) [z0]
theorem run1 : fits 1 = true := by decide +kernel
theorem run2 : fits 2 = true := by decide +kernel
theorem run3 : fits 3 = true := by decide +kernel
theorem run4 : fits 4 = true := by decide +kernel
theorem run5 : fits 5 = true := by decide +kernel
theorem run6 : fits 6 = true := by decide +kernel
theorem runB : intoB (evLs (evCall fs 40) (Ls.app [l6_0] .nil) 2 z0.1 z0.2) [zm 7, zm 8, zm 9] = true := by decide +kernel
def fitsM (n : Int) : Bool := intoB (evLs (evCall fs 40) (Ls.app [l6_1, l6_2] .nil) 2 (zm n).1 (zm n).2) [z0]
theorem run7 : fitsM 7 = true := by decide +kernel
theorem run8 : fitsM 8 = true := by decide +kernel
theorem run9 : fitsM 9 = true := by decide +kernel
theorem turns : ∃ outs, evL (evCall fs 40) l6 0 z0.1 z0.2 = some outs ∧ ∀ o ∈ outs, ∃ s ∈ [z0], o = (.nx, s.1, s.2) := by
  refine Run.loop (nn := 3) (S := [z0]) (S' := [z0]) rfl (List.mem_singleton_self _) (fun s hs i hi => ?_) (fun s hs => ?_) (fun s hs => ?_)
  · obtain rfl := List.mem_singleton.mp hs
    exact ⟨_, rfl, z0, List.mem_singleton_self _, rfl⟩
  · obtain rfl := List.mem_singleton.mp hs
    refine Run.cut (p := [l6_0]) [zm 7, zm 8, zm 9] runB fun s hs => ?_
    simp only [List.mem_cons, List.not_mem_nil, or_false] at hs
    rcases hs with rfl | rfl | rfl
    · exact Run.into run7
    · exact Run.into run8
    · exact Run.into run9
  · obtain rfl := List.mem_singleton.mp hs
    exact ⟨z0, List.mem_singleton_self _, rfl⟩
theorem runs : lawR fs 40 lawN lawL := by
  refine Run.cut (p := [l0, l1]) [zn 1, zn 2, zn 3, zn 4, zn 5, zn 6] runA fun s hs => ?_
  have main : ∀ n, fits n = true → Run (evCall fs 40) (.cons l2 (.cons l3 (.cons l4 (.cons l5 (.cons l6 (.cons l7 .nil)))))) 0 (zn n).1 (zn n).2 fun r => r.1 = .ret (.bl true) := fun n hn => by
    refine Run.cut (p := [l2, l3, l4, l5]) [z0] hn fun s hs => ?_
    obtain rfl := List.mem_singleton.mp hs
    refine Run.cons ?_
    obtain ⟨outs, e, h⟩ := turns
    refine ⟨outs, e, fun o ho => ?_⟩
    obtain ⟨s, hs, rfl⟩ := h o ho
    obtain rfl := List.mem_singleton.mp hs
    exact ⟨z0, rfl, Run.yes (by decide +kernel)⟩
  simp only [List.mem_cons, List.not_mem_nil, or_false] at hs
  rcases hs with rfl | rfl | rfl | rfl | rfl | rfl
  · exact main 1 run1
  · exact main 2 run2
  · exact main 3 run3
  · exact main 4 run4
  · exact main 5 run5
  · exact main 6 run6
/-! ### what the top has written -/
theorem all_mk {l : PySem.W.OpenLaw} {w : World} {K : PySem.W.Frag} {h : Heap} {mg : Str → Option Value} {fa : Addr} (X : K.In h) (G : h.Ns mainGlobals mg) (hfa : mg "law" = some (.ref fa))
    {g0 : Addr} {u0 v0 w0 x0 y0 z0 : Value} {p0 q0 : Option Addr} {r0 : Array (Option Value)}
    (a0 : PySem.W.nsIn K mainGlobals "parts_below" = some (some (.ref g0))) (l0 : K.lookup g0 = some ⟨u0, p0, .func (PySem.W.fnOf "parts_below" "parts_below" (defArgs t0) (defBody t0) (defScope t0) .none v0 w0 x0 q0 y0 z0), r0⟩) (c0 : PySem.W.codeIn K y0 "parts_below" = true) (k0 : PySem.W.keepIn K (.ref g0) = true)
    {g1 : Addr} {u1 v1 w1 x1 y1 z1 : Value} {p1 q1 : Option Addr} {r1 : Array (Option Value)}
    (a1 : PySem.W.nsIn K mainGlobals "partitions" = some (some (.ref g1))) (l1 : K.lookup g1 = some ⟨u1, p1, .func (PySem.W.fnOf "partitions" "partitions" (defArgs t1) (defBody t1) (defScope t1) .none v1 w1 x1 q1 y1 z1), r1⟩) (c1 : PySem.W.codeIn K y1 "partitions" = true) (k1 : PySem.W.keepIn K (.ref g1) = true)
    {g2 : Addr} {u2 v2 w2 x2 y2 z2 : Value} {p2 q2 : Option Addr} {r2 : Array (Option Value)}
    (a2 : PySem.W.nsIn K mainGlobals "grown" = some (some (.ref g2))) (l2 : K.lookup g2 = some ⟨u2, p2, .func (PySem.W.fnOf "grown" "grown" (defArgs t2) (defBody t2) (defScope t2) .none v2 w2 x2 q2 y2 z2), r2⟩) (c2 : PySem.W.codeIn K y2 "grown" = true) (k2 : PySem.W.keepIn K (.ref g2) = true)
    {g3 : Addr} {u3 v3 w3 x3 y3 z3 : Value} {p3 q3 : Option Addr} {r3 : Array (Option Value)}
    (a3 : PySem.W.nsIn K mainGlobals "fillings" = some (some (.ref g3))) (l3 : K.lookup g3 = some ⟨u3, p3, .func (PySem.W.fnOf "fillings" "fillings" (defArgs t3) (defBody t3) (defScope t3) .none v3 w3 x3 q3 y3 z3), r3⟩) (c3 : PySem.W.codeIn K y3 "fillings" = true) (k3 : PySem.W.keepIn K (.ref g3) = true)
    {g4 : Addr} {u4 v4 w4 x4 y4 z4 : Value} {p4 q4 : Option Addr} {r4 : Array (Option Value)}
    (a4 : PySem.W.nsIn K mainGlobals "columns_of" = some (some (.ref g4))) (l4 : K.lookup g4 = some ⟨u4, p4, .func (PySem.W.fnOf "columns_of" "columns_of" (defArgs t4) (defBody t4) (defScope t4) .none v4 w4 x4 q4 y4 z4), r4⟩) (c4 : PySem.W.codeIn K y4 "columns_of" = true) (k4 : PySem.W.keepIn K (.ref g4) = true)
    {g5 : Addr} {u5 v5 w5 x5 y5 z5 : Value} {p5 q5 : Option Addr} {r5 : Array (Option Value)}
    (a5 : PySem.W.nsIn K mainGlobals "hooks" = some (some (.ref g5))) (l5 : K.lookup g5 = some ⟨u5, p5, .func (PySem.W.fnOf "hooks" "hooks" (defArgs t5) (defBody t5) (defScope t5) .none v5 w5 x5 q5 y5 z5), r5⟩) (c5 : PySem.W.codeIn K y5 "hooks" = true) (k5 : PySem.W.keepIn K (.ref g5) = true)
    {g6 : Addr} {u6 v6 w6 x6 y6 z6 : Value} {p6 q6 : Option Addr} {r6 : Array (Option Value)}
    (a6 : PySem.W.nsIn K mainGlobals "dimension" = some (some (.ref g6))) (l6 : K.lookup g6 = some ⟨u6, p6, .func (PySem.W.fnOf "dimension" "dimension" (defArgs t6) (defBody t6) (defScope t6) .none v6 w6 x6 q6 y6 z6), r6⟩) (c6 : PySem.W.codeIn K y6 "dimension" = true) (k6 : PySem.W.keepIn K (.ref g6) = true)
    {g7 : Addr} {u7 v7 w7 x7 y7 z7 : Value} {p7 q7 : Option Addr} {r7 : Array (Option Value)}
    (a7 : PySem.W.nsIn K mainGlobals "_law_start" = some (some (.ref g7))) (l7 : K.lookup g7 = some ⟨u7, p7, .func (PySem.W.fnOf "_law_start" "_law_start" (defArgs t7) (defBody t7) (defScope t7) .none v7 w7 x7 q7 y7 z7), r7⟩) (c7 : PySem.W.codeIn K y7 "_law_start" = true) (k7 : PySem.W.keepIn K (.ref g7) = true)
    {g8 : Addr} {u8 v8 w8 x8 y8 z8 : Value} {p8 q8 : Option Addr} {r8 : Array (Option Value)}
    (a8 : PySem.W.nsIn K mainGlobals "_law_draw" = some (some (.ref g8))) (l8 : K.lookup g8 = some ⟨u8, p8, .func (PySem.W.fnOf "_law_draw" "_law_draw" (defArgs t8) (defBody t8) (defScope t8) .none v8 w8 x8 q8 y8 z8), r8⟩) (c8 : PySem.W.codeIn K y8 "_law_draw" = true) (k8 : PySem.W.keepIn K (.ref g8) = true)
    {g9 : Addr} {u9 v9 w9 x9 y9 z9 : Value} {p9 q9 : Option Addr} {r9 : Array (Option Value)}
    (a9 : PySem.W.nsIn K mainGlobals "_law_one_of" = some (some (.ref g9))) (l9 : K.lookup g9 = some ⟨u9, p9, .func (PySem.W.fnOf "_law_one_of" "_law_one_of" (defArgs t9) (defBody t9) (defScope t9) .none v9 w9 x9 q9 y9 z9), r9⟩) (c9 : PySem.W.codeIn K y9 "_law_one_of" = true) (k9 : PySem.W.keepIn K (.ref g9) = true)
    {g10 : Addr} {u10 v10 w10 x10 y10 z10 : Value} {p10 q10 : Option Addr} {r10 : Array (Option Value)}
    (a10 : PySem.W.nsIn K mainGlobals "_law_is_int" = some (some (.ref g10))) (l10 : K.lookup g10 = some ⟨u10, p10, .func (PySem.W.fnOf "_law_is_int" "_law_is_int" (defArgs t10) (defBody t10) (defScope t10) .none v10 w10 x10 q10 y10 z10), r10⟩) (c10 : PySem.W.codeIn K y10 "_law_is_int" = true) (k10 : PySem.W.keepIn K (.ref g10) = true)
    {g11 : Addr} {u11 v11 w11 x11 y11 z11 : Value} {p11 q11 : Option Addr} {r11 : Array (Option Value)}
    (a11 : PySem.W.nsIn K mainGlobals "_law_same" = some (some (.ref g11))) (l11 : K.lookup g11 = some ⟨u11, p11, .func (PySem.W.fnOf "_law_same" "_law_same" (defArgs t11) (defBody t11) (defScope t11) .none v11 w11 x11 q11 y11 z11), r11⟩) (c11 : PySem.W.codeIn K y11 "_law_same" = true) (k11 : PySem.W.keepIn K (.ref g11) = true)
    {g12 : Addr} {u12 v12 w12 x12 y12 z12 : Value} {p12 q12 : Option Addr} {r12 : Array (Option Value)}
    (a12 : PySem.W.nsIn K mainGlobals "_law_words_of" = some (some (.ref g12))) (l12 : K.lookup g12 = some ⟨u12, p12, .func (PySem.W.fnOf "_law_words_of" "_law_words_of" (defArgs t12) (defBody t12) (defScope t12) .none v12 w12 x12 q12 y12 z12), r12⟩) (c12 : PySem.W.codeIn K y12 "_law_words_of" = true) (k12 : PySem.W.keepIn K (.ref g12) = true)
    {g13 : Addr} {u13 v13 w13 x13 y13 z13 : Value} {p13 q13 : Option Addr} {r13 : Array (Option Value)}
    (a13 : PySem.W.nsIn K mainGlobals "_law_factorial" = some (some (.ref g13))) (l13 : K.lookup g13 = some ⟨u13, p13, .func (PySem.W.fnOf "_law_factorial" "_law_factorial" (defArgs t13) (defBody t13) (defScope t13) .none v13 w13 x13 q13 y13 z13), r13⟩) (c13 : PySem.W.codeIn K y13 "_law_factorial" = true) (k13 : PySem.W.keepIn K (.ref g13) = true)
    {g14 : Addr} {u14 v14 w14 x14 y14 z14 : Value} {p14 q14 : Option Addr} {r14 : Array (Option Value)}
    (a14 : PySem.W.nsIn K mainGlobals "_law_parts_of" = some (some (.ref g14))) (l14 : K.lookup g14 = some ⟨u14, p14, .func (PySem.W.fnOf "_law_parts_of" "_law_parts_of" (defArgs t14) (defBody t14) (defScope t14) .none v14 w14 x14 q14 y14 z14), r14⟩) (c14 : PySem.W.codeIn K y14 "_law_parts_of" = true) (k14 : PySem.W.keepIn K (.ref g14) = true)
    {g15 : Addr} {u15 v15 w15 x15 y15 z15 : Value} {p15 q15 : Option Addr} {r15 : Array (Option Value)}
    (a15 : PySem.W.nsIn K mainGlobals "_law_hook" = some (some (.ref g15))) (l15 : K.lookup g15 = some ⟨u15, p15, .func (PySem.W.fnOf "_law_hook" "_law_hook" (defArgs t15) (defBody t15) (defScope t15) .none v15 w15 x15 q15 y15 z15), r15⟩) (c15 : PySem.W.codeIn K y15 "_law_hook" = true) (k15 : PySem.W.keepIn K (.ref g15) = true)
    {g16 : Addr} {u16 v16 w16 x16 y16 z16 : Value} {p16 q16 : Option Addr} {r16 : Array (Option Value)}
    (a16 : PySem.W.nsIn K mainGlobals "_law_hooks_of" = some (some (.ref g16))) (l16 : K.lookup g16 = some ⟨u16, p16, .func (PySem.W.fnOf "_law_hooks_of" "_law_hooks_of" (defArgs t16) (defBody t16) (defScope t16) .none v16 w16 x16 q16 y16 z16), r16⟩) (c16 : PySem.W.codeIn K y16 "_law_hooks_of" = true) (k16 : PySem.W.keepIn K (.ref g16) = true)
    {g17 : Addr} {u17 v17 w17 x17 y17 z17 : Value} {p17 q17 : Option Addr} {r17 : Array (Option Value)}
    (a17 : PySem.W.nsIn K mainGlobals "_law_is_told" = some (some (.ref g17))) (l17 : K.lookup g17 = some ⟨u17, p17, .func (PySem.W.fnOf "_law_is_told" "_law_is_told" (defArgs t17) (defBody t17) (defScope t17) .none v17 w17 x17 q17 y17 z17), r17⟩) (c17 : PySem.W.codeIn K y17 "_law_is_told" = true) (k17 : PySem.W.keepIn K (.ref g17) = true)
    {g18 : Addr} {u18 v18 w18 x18 y18 z18 : Value} {p18 q18 : Option Addr} {r18 : Array (Option Value)}
    (a18 : PySem.W.nsIn K mainGlobals "law" = some (some (.ref g18))) (l18 : K.lookup g18 = some ⟨u18, p18, .func (PySem.W.fnOf "law" "law" (defArgs tLaw) (defBody tLaw) (defScope tLaw) .none v18 w18 x18 q18 y18 z18), r18⟩) (c18 : PySem.W.codeIn K y18 "law" = true) (k18 : PySem.W.keepIn K (.ref g18) = true)
    (b0 : PySem.W.nsIn K mainGlobals "len" = some none)
    (b1 : PySem.W.nsIn K mainGlobals "tuple" = some none)
    (b2 : PySem.W.nsIn K mainGlobals "list" = some none)
    (b3 : PySem.W.nsIn K mainGlobals "sum" = some none)
    (b4 : PySem.W.nsIn K mainGlobals "sorted" = some none)
    (b5 : PySem.W.nsIn K mainGlobals "any" = some none)
    (b6 : PySem.W.nsIn K mainGlobals "all" = some none)
    (b7 : PySem.W.nsIn K mainGlobals "abs" = some none)
    (b8 : PySem.W.nsIn K mainGlobals "min" = some none)
    (b9 : PySem.W.nsIn K mainGlobals "max" = some none)
    (b10 : PySem.W.nsIn K mainGlobals "int" = some none)
    (b11 : PySem.W.nsIn K mainGlobals "bool" = some none)
    (b12 : PySem.W.nsIn K mainGlobals "str" = some none)
    (b13 : PySem.W.nsIn K mainGlobals "dict" = some none)
    (b14 : PySem.W.nsIn K mainGlobals "isinstance" = some none)
    (b15 : PySem.W.nsIn K mainGlobals "range" = some none)
    (b16 : PySem.W.nsIn K mainGlobals "enumerate" = some none)
    (b17 : PySem.W.nsIn K mainGlobals "zip" = some none)
    : ∃ fd : FuncData, (∀ (s : Shared) (v : Value), BindsTo s fd ⟨[v], []⟩ [("script", v)]) ∧ ∀ base : Heap, K.In base → base.Ns mainGlobals mg → FnOk l.prog w K mg base CX0 41 fa fd ["script"] (spLaw K) := by
  have e := hfa.symm.trans (PySem.W.mg_of X G a18)
  cases e
  have M : Modl K mg fs := by
    refine ⟨fun g f e => ?_, fun x hx => ?_⟩
    · match g, e with
      | 0, e =>
        obtain rfl : d0 = f := Option.some.inj e
        exact ⟨_, _, t0, fun_mk (st := t0) l0 c0 k0, PySem.W.mg_of X G a0, (fun_mk (st := t0) l0 c0 k0).binds fun _ _ _ _ _ _ us hl => match us, hl with | [_, _], _ => rfl, look0⟩
      | 1, e =>
        obtain rfl : d1 = f := Option.some.inj e
        exact ⟨_, _, t1, fun_mk (st := t1) l1 c1 k1, PySem.W.mg_of X G a1, (fun_mk (st := t1) l1 c1 k1).binds fun _ _ _ _ _ _ us hl => match us, hl with | [_], _ => rfl, look1⟩
      | 2, e =>
        obtain rfl : d2 = f := Option.some.inj e
        exact ⟨_, _, t2, fun_mk (st := t2) l2 c2 k2, PySem.W.mg_of X G a2, (fun_mk (st := t2) l2 c2 k2).binds fun _ _ _ _ _ _ us hl => match us, hl with | [_, _], _ => rfl, look2⟩
      | 3, e =>
        obtain rfl : d3 = f := Option.some.inj e
        exact ⟨_, _, t3, fun_mk (st := t3) l3 c3 k3, PySem.W.mg_of X G a3, (fun_mk (st := t3) l3 c3 k3).binds fun _ _ _ _ _ _ us hl => match us, hl with | [_], _ => rfl, look3⟩
      | 4, e =>
        obtain rfl : d4 = f := Option.some.inj e
        exact ⟨_, _, t4, fun_mk (st := t4) l4 c4 k4, PySem.W.mg_of X G a4, (fun_mk (st := t4) l4 c4 k4).binds fun _ _ _ _ _ _ us hl => match us, hl with | [_], _ => rfl, look4⟩
      | 5, e =>
        obtain rfl : d5 = f := Option.some.inj e
        exact ⟨_, _, t5, fun_mk (st := t5) l5 c5 k5, PySem.W.mg_of X G a5, (fun_mk (st := t5) l5 c5 k5).binds fun _ _ _ _ _ _ us hl => match us, hl with | [_], _ => rfl, look5⟩
      | 6, e =>
        obtain rfl : d6 = f := Option.some.inj e
        exact ⟨_, _, t6, fun_mk (st := t6) l6 c6 k6, PySem.W.mg_of X G a6, (fun_mk (st := t6) l6 c6 k6).binds fun _ _ _ _ _ _ us hl => match us, hl with | [_], _ => rfl, look6⟩
      | 7, e =>
        obtain rfl : d7 = f := Option.some.inj e
        exact ⟨_, _, t7, fun_mk (st := t7) l7 c7 k7, PySem.W.mg_of X G a7, (fun_mk (st := t7) l7 c7 k7).binds fun _ _ _ _ _ _ us hl => match us, hl with | [_], _ => rfl, look7⟩
      | 8, e =>
        obtain rfl : d8 = f := Option.some.inj e
        exact ⟨_, _, t8, fun_mk (st := t8) l8 c8 k8, PySem.W.mg_of X G a8, (fun_mk (st := t8) l8 c8 k8).binds fun _ _ _ _ _ _ us hl => match us, hl with | [_, _], _ => rfl, look8⟩
      | 9, e =>
        obtain rfl : d9 = f := Option.some.inj e
        exact ⟨_, _, t9, fun_mk (st := t9) l9 c9 k9, PySem.W.mg_of X G a9, (fun_mk (st := t9) l9 c9 k9).binds fun _ _ _ _ _ _ us hl => match us, hl with | [_, _], _ => rfl, look9⟩
      | 10, e =>
        obtain rfl : d10 = f := Option.some.inj e
        exact ⟨_, _, t10, fun_mk (st := t10) l10 c10 k10, PySem.W.mg_of X G a10, (fun_mk (st := t10) l10 c10 k10).binds fun _ _ _ _ _ _ us hl => match us, hl with | [_], _ => rfl, look10⟩
      | 11, e =>
        obtain rfl : d11 = f := Option.some.inj e
        exact ⟨_, _, t11, fun_mk (st := t11) l11 c11 k11, PySem.W.mg_of X G a11, (fun_mk (st := t11) l11 c11 k11).binds fun _ _ _ _ _ _ us hl => match us, hl with | [_, _], _ => rfl, look11⟩
      | 12, e =>
        obtain rfl : d12 = f := Option.some.inj e
        exact ⟨_, _, t12, fun_mk (st := t12) l12 c12 k12, PySem.W.mg_of X G a12, (fun_mk (st := t12) l12 c12 k12).binds fun _ _ _ _ _ _ us hl => match us, hl with | [_], _ => rfl, look12⟩
      | 13, e =>
        obtain rfl : d13 = f := Option.some.inj e
        exact ⟨_, _, t13, fun_mk (st := t13) l13 c13 k13, PySem.W.mg_of X G a13, (fun_mk (st := t13) l13 c13 k13).binds fun _ _ _ _ _ _ us hl => match us, hl with | [_], _ => rfl, look13⟩
      | 14, e =>
        obtain rfl : d14 = f := Option.some.inj e
        exact ⟨_, _, t14, fun_mk (st := t14) l14 c14 k14, PySem.W.mg_of X G a14, (fun_mk (st := t14) l14 c14 k14).binds fun _ _ _ _ _ _ us hl => match us, hl with | [_, _], _ => rfl, look14⟩
      | 15, e =>
        obtain rfl : d15 = f := Option.some.inj e
        exact ⟨_, _, t15, fun_mk (st := t15) l15 c15 k15, PySem.W.mg_of X G a15, (fun_mk (st := t15) l15 c15 k15).binds fun _ _ _ _ _ _ us hl => match us, hl with | [_, _, _], _ => rfl, look15⟩
      | 16, e =>
        obtain rfl : d16 = f := Option.some.inj e
        exact ⟨_, _, t16, fun_mk (st := t16) l16 c16 k16, PySem.W.mg_of X G a16, (fun_mk (st := t16) l16 c16 k16).binds fun _ _ _ _ _ _ us hl => match us, hl with | [_], _ => rfl, look16⟩
      | 17, e =>
        obtain rfl : d17 = f := Option.some.inj e
        exact ⟨_, _, t17, fun_mk (st := t17) l17 c17 k17, PySem.W.mg_of X G a17, (fun_mk (st := t17) l17 c17 k17).binds fun _ _ _ _ _ _ us hl => match us, hl with | [_], _ => rfl, look17⟩
      | g + 18, e => exact absurd e (by simp [fs])
    · simp only [bltNames, List.mem_cons, List.not_mem_nil, or_false] at hx
      rcases hx with rfl | rfl | rfl | rfl | rfl | rfl | rfl | rfl | rfl | rfl | rfl | rfl | rfl | rfl | rfl | rfl | rfl | rfl
      · exact PySem.W.mg_none_of X G b0
      · exact PySem.W.mg_none_of X G b1
      · exact PySem.W.mg_none_of X G b2
      · exact PySem.W.mg_none_of X G b3
      · exact PySem.W.mg_none_of X G b4
      · exact PySem.W.mg_none_of X G b5
      · exact PySem.W.mg_none_of X G b6
      · exact PySem.W.mg_none_of X G b7
      · exact PySem.W.mg_none_of X G b8
      · exact PySem.W.mg_none_of X G b9
      · exact PySem.W.mg_none_of X G b10
      · exact PySem.W.mg_none_of X G b11
      · exact PySem.W.mg_none_of X G b12
      · exact PySem.W.mg_none_of X G b13
      · exact PySem.W.mg_none_of X G b14
      · exact PySem.W.mg_none_of X G b15
      · exact PySem.W.mg_none_of X G b16
      · exact PySem.W.mg_none_of X G b17
  exact ⟨_, fun s v => .of_eq rfl, fun base _ _ => law_ok M (fun_mk (st := tLaw) l18 c18 k18) lookS lookL runs⟩
end My
open PySem PySem.W PyProof.Rows
set_option maxHeartbeats 0 in
theorem PySem.Challenge.cw_lawsfollow_k41_partitions_fillings_and_h_holds : PySem.Challenge.rw_lawsfollow_k41_partitions_fillings_and_h.Holds := by
  w_on; o_law; k_head; (case hw => w_witness2)
  k_fill
  refine L2.walk_of (l := PySem.Challenge.rw_lawsfollow_k41_partitions_fillings_and_h) (n := 63) (k := 41) (x := "script") (CX := fun _ => L2.CX0) (sp := fun w => G.spLaw _) rfl (by decide) rfl ⟨rfl, by decide, by decide⟩ (fun w h Y => PySem.W.kIn_of Y) ?F (fun _ _ a ns hl hO hS => ⟨a, ns, rfl, G.sqF_of hO hS, fun _ => rfl⟩) (fun _ _ _ _ _ h => h)
  case F =>
    intro w mg fa h KX GN hmg
    refine' My.all_mk KX GN hmg ?a0 ?l0 ?c0 ?k0 ?a1 ?l1 ?c1 ?k1 ?a2 ?l2 ?c2 ?k2 ?a3 ?l3 ?c3 ?k3 ?a4 ?l4 ?c4 ?k4 ?a5 ?l5 ?c5 ?k5 ?a6 ?l6 ?c6 ?k6 ?a7 ?l7 ?c7 ?k7 ?a8 ?l8 ?c8 ?k8 ?a9 ?l9 ?c9 ?k9 ?a10 ?l10 ?c10 ?k10 ?a11 ?l11 ?c11 ?k11 ?a12 ?l12 ?c12 ?k12 ?a13 ?l13 ?c13 ?k13 ?a14 ?l14 ?c14 ?k14 ?a15 ?l15 ?c15 ?k15 ?a16 ?l16 ?c16 ?k16 ?a17 ?l17 ?c17 ?k17 ?a18 ?l18 ?c18 ?k18 ?b0 ?b1 ?b2 ?b3 ?b4 ?b5 ?b6 ?b7 ?b8 ?b9 ?b10 ?b11 ?b12 ?b13 ?b14 ?b15 ?b16 ?b17
    (case a0 => k_is)
    (case l0 => k_is)
    (case c0 => k_is)
    (case k0 => k_is)
    (case a1 => k_is)
    (case l1 => k_is)
    (case c1 => k_is)
    (case k1 => k_is)
    (case a2 => k_is)
    (case l2 => k_is)
    (case c2 => k_is)
    (case k2 => k_is)
    (case a3 => k_is)
    (case l3 => k_is)
    (case c3 => k_is)
    (case k3 => k_is)
    (case a4 => k_is)
    (case l4 => k_is)
    (case c4 => k_is)
    (case k4 => k_is)
    (case a5 => k_is)
    (case l5 => k_is)
    (case c5 => k_is)
    (case k5 => k_is)
    (case a6 => k_is)
    (case l6 => k_is)
    (case c6 => k_is)
    (case k6 => k_is)
    (case a7 => k_is)
    (case l7 => k_is)
    (case c7 => k_is)
    (case k7 => k_is)
    (case a8 => k_is)
    (case l8 => k_is)
    (case c8 => k_is)
    (case k8 => k_is)
    (case a9 => k_is)
    (case l9 => k_is)
    (case c9 => k_is)
    (case k9 => k_is)
    (case a10 => k_is)
    (case l10 => k_is)
    (case c10 => k_is)
    (case k10 => k_is)
    (case a11 => k_is)
    (case l11 => k_is)
    (case c11 => k_is)
    (case k11 => k_is)
    (case a12 => k_is)
    (case l12 => k_is)
    (case c12 => k_is)
    (case k12 => k_is)
    (case a13 => k_is)
    (case l13 => k_is)
    (case c13 => k_is)
    (case k13 => k_is)
    (case a14 => k_is)
    (case l14 => k_is)
    (case c14 => k_is)
    (case k14 => k_is)
    (case a15 => k_is)
    (case l15 => k_is)
    (case c15 => k_is)
    (case k15 => k_is)
    (case a16 => k_is)
    (case l16 => k_is)
    (case c16 => k_is)
    (case k16 => k_is)
    (case a17 => k_is)
    (case l17 => k_is)
    (case c17 => k_is)
    (case k17 => k_is)
    (case a18 => k_is)
    (case l18 => k_is)
    (case c18 => k_is)
    (case k18 => k_is)
    (case b0 => k_is)
    (case b1 => k_is)
    (case b2 => k_is)
    (case b3 => k_is)
    (case b4 => k_is)
    (case b5 => k_is)
    (case b6 => k_is)
    (case b7 => k_is)
    (case b8 => k_is)
    (case b9 => k_is)
    (case b10 => k_is)
    (case b11 => k_is)
    (case b12 => k_is)
    (case b13 => k_is)
    (case b14 => k_is)
    (case b15 => k_is)
    (case b16 => k_is)
    (case b17 => k_is)
