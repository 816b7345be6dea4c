import PyProof.Rows.All
import Wide.All
import OpenK.AllK
import Wide.FinOn
import HandS.ForMost
import HandS.Exc
import HandS.ExcOwn
import HandS.ExcValue
import HandS.TryOnly
import HandS.More
import HandS.Lambda
import PyProof.P3Statements
import HandS.TupAny
import HandS.Style
import HandS.Deep
import HandS.TupLe
import HandS.Text
import HandS.StrMore
import HandS.RaiseMore
import HandS.Iter
import HandS.Comp
import HandS.SortOrd
import KE.KSortTupAny
import HandS.SortRule
import KE.KSortKey
import HandS.SortKw
import HandS.Nested
import KE.KLam
import HandS.DictTup
import HandS.Conv
import KE.KDictCopyH
import KE.KDictSum
import HandS.TupSets
import KE.KeyNested
import HandS.SetBool
import KE.KDictWalk
import HandS.IsInst
import HandS.Codes
import HandS.Dict
import HandS.WordsExc
import HandS.EndTab
import KE.KNestM
import PyProof.Rows.Walk
import PySem.Challenge.RW_namefall_k12_whole_squeezed
set_option Elab.async false
/-! One text of many; each in a section of its own. -/

section -- NfSem
set_option linter.all false
/-! The plain meaning of a small language: data, a store of objects, a meaning for every construct that the text uses. -/
namespace NF
open PySem (Str PyData)

/-- data: a text is its code points; ref n: the n-th object of the store -/
inductive D where
  | non | bl (b : Bool) | int (i : Int) | str (x : List Nat) | tup (ds : List D) | ref (n : Nat)
  deriving Inhabited

/-- own classes -/
inductive Cl where | row | copy | town
  deriving DecidableEq
/-- exception classes -/
inductive Ex where | fall | badDeed | noRow | taken | badName | badNumber | nothing | badText
  deriving DecidableEq
/-- objects -/
inductive O where
  | lst (ds : List D)
  | rol (ds : List D)
  | dct (kvs : List ((Int × Int) × D))
  | dck (kvs : List (List Nat × D))
  | rod (kvs : List (List Nat × D))
  | ins (c : Cl) (fs : List D)
  | exc (c : Ex)
  | lck (kvs : List ((Int × Int) × D))
  deriving Inhabited
abbrev Store := List O
abbrev Env := List (Option D)

inductive Res (α : Type) where
  | ok (a : α) (S : Store) | exn (c : Ex) (S : Store) | bad
abbrev M (α : Type) := Store → Res α
def bnd {α β : Type} (m : M α) (f : α → M β) : M β := fun S => match m S with
  | .ok a S' => f a S'
  | .exn c S' => .exn c S'
  | .bad => .bad
def ret {α : Type} (a : α) : M α := fun S => .ok a S
def bad {α : Type} : M α := fun _ => .bad
def thr {α : Type} (c : Ex) : M α := fun S => .exn c S
instance : Monad M where
  pure := ret
  bind := bnd
/-- a new object, at the store's end -/
def new (o : O) : M D := fun S => .ok (.ref S.length) (S ++ [o])
def obj (n : Nat) : M O := fun S => match S[n]? with
  | some o => .ok o S
  | none => .bad
def put (n : Nat) (o : O) : M Unit := fun S => .ok () (S.set n o)
def orBad {α : Type} : Option α → M α
  | some a => ret a
  | none => bad
def guardB (b : Bool) : M Unit := if b then ret () else bad
/-- sizes are kept below a line -/
def line : Nat := 1000000

/-! ### pure data -/
def isFlat : D → Bool
  | .non | .bl _ | .int _ | .str _ => true
  | _ => false
def asPair : D → Option (Int × Int)
  | .tup [.int a, .int b] => some (a, b)
  | _ => none
def strOf (x : List Nat) : Str := ⟨x.toArray⟩
def mapO {α β : Type} (f : α → Option β) : List α → Option (List β)
  | [] => some []
  | x :: r => match f x, mapO f r with
    | some y, some ys => some (y :: ys)
    | _, _ => none
/-- data as a tree, lists and tuples opened -/
def tree (S : Store) : Nat → D → Option PyData
  | _, .non => some .none
  | _, .bl b => some (.bool b)
  | _, .int i => some (.int i)
  | _, .str x => some (.str (strOf x))
  | k + 1, .tup ds => (mapO (tree S k) ds).map .tuple
  | k + 1, .ref n => match S[n]? with
    | some (.lst ds) => (mapO (tree S k) ds).map .list
    | some (.rol ds) => (mapO (tree S k) ds).map .list
    | _ => none
  | 0, .tup _ => none
  | 0, .ref _ => none
/-- == of data -/
def eqT (S : Store) (d e : D) : Option Bool := match tree S 8 d, tree S 8 e with
  | some s, some t => some (PyData.eqv s t)
  | _, _ => none
def kvGet {κ : Type} [DecidableEq κ] (kvs : List (κ × D)) (k : κ) : Option D := (kvs.find? fun kv => decide (kv.1 = k)).map (·.2)
def dctOf (S : Store) : D → Option (List ((Int × Int) × D))
  | .ref n => match S[n]? with
    | some (.dct kvs) => some kvs
    | _ => none
  | _ => none
/-- ==, of two dicts too -/
def eqD (S : Store) (d e : D) : Option Bool := match dctOf S d, dctOf S e with
  | some a, some b => if a.length = b.length then (mapO (fun (kv : (Int × Int) × D) => match kvGet b kv.1 with
      | some v => eqT S kv.2 v
      | none => some false) a).map (·.all id) else some false
  | _, _ => eqT S d e

def cmpI (a b : Int) : Ordering := if a < b then .lt else if b < a then .gt else .eq
def cmpL : List Nat → List Nat → Ordering
  | [], [] => .eq
  | [], _ :: _ => .lt
  | _ :: _, [] => .gt
  | a :: r, b :: q => if a < b then .lt else if b < a then .gt else cmpL r q
mutual
def beqD : D → D → Bool
  | .non, .non => true
  | .bl a, .bl b => a == b
  | .int a, .int b => a == b
  | .str a, .str b => a == b
  | .tup a, .tup b => beqDs a b
  | .ref a, .ref b => a == b
  | _, _ => false
def beqDs : List D → List D → Bool
  | [], [] => true
  | a :: r, b :: q => beqD a b && beqDs r q
  | _, _ => false
end
mutual
theorem beqD_iff : ∀ a b : D, beqD a b = true ↔ a = b
  | .non, b => by cases b <;> simp [beqD]
  | .bl _, b => by cases b <;> simp [beqD]
  | .int _, b => by cases b <;> simp [beqD]
  | .str _, b => by cases b <;> simp [beqD]
  | .tup a, b => by
    cases b with
    | tup b => simp only [beqD, D.tup.injEq]; exact beqDs_iff a b
    | _ => simp [beqD]
  | .ref _, b => by cases b <;> simp [beqD]
theorem beqDs_iff : ∀ a b : List D, beqDs a b = true ↔ a = b
  | [], b => by cases b <;> simp [beqDs]
  | a :: r, b => by
    cases b with
    | nil => simp [beqDs]
    | cons b q =>
      simp only [beqDs, Bool.and_eq_true, List.cons.injEq]
      rw [beqD_iff a b, beqDs_iff r q]
end
instance : DecidableEq D := fun a b => if h : beqD a b = true then isTrue ((beqD_iff a b).mp h) else isFalse fun e => h ((beqD_iff a b).mpr e)
mutual
/-- the order of pure data, three ways -/
def cmpD : D → D → Ordering
  | .non, .non => .eq
  | .non, _ => .lt
  | .bl _, .non => .gt
  | .bl a, .bl b => if a = b then .eq else if b then .lt else .gt
  | .bl _, _ => .lt
  | .int _, .non => .gt
  | .int _, .bl _ => .gt
  | .int a, .int b => cmpI a b
  | .int _, _ => .lt
  | .str _, .non => .gt
  | .str _, .bl _ => .gt
  | .str _, .int _ => .gt
  | .str a, .str b => cmpL a b
  | .str _, _ => .lt
  | .tup _, .ref _ => .lt
  | .tup a, .tup b => cmpDs a b
  | .tup _, _ => .gt
  | .ref a, .ref b => cmpI a b
  | .ref _, _ => .gt
def cmpDs : List D → List D → Ordering
  | [], [] => .eq
  | [], _ :: _ => .lt
  | _ :: _, [] => .gt
  | a :: r, b :: q => match cmpD a b with
    | .eq => cmpDs r q
    | o => o
end
def ltD (a b : D) : Bool := cmpD a b == .lt
mutual
/-- the two may be compared by < -/
def cmpb : D → D → Bool
  | .int _, .int _ => true
  | .str _, .str _ => true
  | .tup a, .tup b => cmpbs a b
  | _, _ => false
/-- item by item up to the first that differ: comparable there -/
def cmpbs : List D → List D → Bool
  | a :: r, b :: q => if cmpD a b = .eq then cmpbs r q else cmpb a b
  | _, _ => true
end
/-- no object in it, no truth; to a depth -/
def pureN : Nat → D → Bool
  | _, .int _ => true
  | _, .str _ => true
  | k + 1, .tup ds => ds.all (pureN k)
  | _, _ => false
abbrev pureD : D → Bool := pureN 8
/-- the stable sort: the first of equal ones first -/
def sortBy {α : Type} (lt : α → α → Bool) : List α → List α
  | [] => []
  | x :: r => insBy lt x (sortBy lt r)
where
  insBy (lt : α → α → Bool) (x : α) : List α → List α
    | [] => [x]
    | y :: r => if lt y x then y :: insBy lt x r else x :: y :: r
def noNil : D → Bool
  | .tup [] => false
  | _ => true
def allCmp (ds : List D) : Bool := ds.all fun x => pureD x && noNil x && ds.all fun y => cmpb x y
def ixOf (n : Nat) (i : Int) : Option Nat := if 0 ≤ i then (if i < n then some i.toNat else none) else if -(n : Int) ≤ i then some (i + n).toNat else none
def sIx (n d : Nat) : Option Int → Nat
  | none => d
  | some i => if i < 0 then (i + n).toNat else min i.toNat n
def cut {α : Type} (xs : List α) (lo hi : Option Int) : List α := (xs.drop (sIx xs.length 0 lo)).take (sIx xs.length xs.length hi - sIx xs.length 0 lo)
def kvPut {κ : Type} [DecidableEq κ] (kvs : List (κ × D)) (k : κ) (v : D) : List (κ × D) :=
  if kvs.any fun kv => decide (kv.1 = k) then kvs.map fun kv => if kv.1 = k then (kv.1, v) else kv else kvs ++ [(k, v)]
def kvDrop {κ : Type} [DecidableEq κ] (kvs : List (κ × D)) (k : κ) : List (κ × D) := kvs.filter fun kv => decide (kv.1 ≠ k)

/-! ### the language -/
inductive Bop where | add | sub | mul | md | fd | pw
inductive Cop where | eq | ne | lt | le | gt | ge | inn | nin
/-- built-in functions -/
inductive Bi where | len | list | tuple | all | any | max1 | max2 | min2 | sorted | str | int | dict
/-- methods of built-in types -/
inductive Bm where | append | extend | insert | count | index | join | split | startswith | get | popD | pop1 | pop0
/-- what is walked -/
inductive Ik where | seq | rng1 | rng2 | keys | vals
/-- built-in types asked by isinstance -/
inductive Ty where | tuple | str | int | list | dict
/-- targets -/
inductive Tg where | nm (i : Nat) | tup (is : List Nat)

mutual
inductive E where
  | var (i : Nat) | int (i : Int) | str (x : List Nat) | bl (b : Bool) | non | neg (i : Int)
  | glb (x : String) (d : D)
  | tup (es : List E) | lst (es : List E) | dctT | dctK | disp (ks : List (List Nat)) (es : List E)
  | bin (op : Bop) (a b : E) | cmp (op : Cop) (a b : E) | chain (o p : Cop) (a b c : E)
  | isn (neg : Bool) (a : E) | andv (es : List E) | orv (es : List E) | notv (a : E) | ife (c : T) (a b : E)
  | idx (a b : E) | dix (a b : E) | slc (a : E) (lo hi : Option E) | rev (a : E)
  | att (c : Cl) (i : Nat) (a : E)
  | call (f : String) (es : List E) | mk (c : Cl) (es : List E) | meth (c : Cl) (m : String) (a : E) (es : List E)
  | bi (b : Bi) (es : List E) | bm (m : Bm) (a : E) (es : List E)
  | lenset (a : E) | sortset (a : E) | sortkeys (a : E) | listkeys (a : E)
  | sortk (p : Nat) (a body : E) | sortf (f : String) (a : E)
  | isTy (a : E) (t : Ty) | isEx (a : E) (c : Ex)
  | lc (elt : E) (tg : Tg) (k : Ik) (its : List E) (cond : Option T) (own : List Nat)
inductive T where
  | ex (e : E) | not (t : T) | and (ts : List T) | or (ts : List T) | ife (c a b : T)
end

inductive St where
  | asg (i : Nat) (e : E) | unp (is : List Nat) (e : E) | par (is : List Nat) (es : List E)
  | sat (c : Cl) (i : Nat) (o e : E) | ssub (o ix e : E) | dsub (o ix e : E) | swap (o i j : E)
  | exp (e : E) | ret (e : E) | retN | pass | cont
  | ife (c : T) (a b : List St) | for_ (tg : Tg) (k : Ik) (its : List E) (body : List St) | whl (fuel : Nat) (c : T) (body : List St)
  | raise (c : Ex)
  | tryA (body : List St) (c : Ex) (i : Nat) (v : Nat)
  | tryF (body : List St) (c : Ex) (i : Nat) (e : E)

/-- how a def answers -/
abbrev Or := String → List D → M D
def Cl.name : Cl → String | .row => "Row" | .copy => "Copy" | .town => "Town"
def Cl.dot (c : Cl) (m : String) : String := c.name ++ "." ++ m

def intB (f : Int → Int → M D) : D → D → M D
  | .int i, .int j => f i j
  | _, _ => bad
def lstOf (d : D) : M (List D) := match d with
  | .ref n => bnd (obj n) fun o => match o with
    | .lst ds => ret ds
    | .rol ds => ret ds
    | _ => bad
  | _ => bad
def addD (x y : D) : M D := match x, y with
  | .int i, .int j => ret (.int (i + j))
  | .str a, .str b => if a.length + b.length ≤ line then ret (.str (a ++ b)) else bad
  | .tup a, .tup b => if a.length + b.length ≤ line then ret (.tup (a ++ b)) else bad
  | .ref n, .ref m => bnd (obj n) fun o => bnd (obj m) fun u => match o, u with
    | .lst a, .lst b => if a.length + b.length ≤ line then new (.lst (a ++ b)) else bad
    | _, _ => bad
  | _, _ => bad
def small (i : Int) : Bool := decide (-(2 ^ 62) < i) && decide (i < 2 ^ 62)
def mulD (x y : D) : M D := match x, y with
  | .int i, .int j => if small j || small i then ret (.int (i * j)) else bad
  | .ref n, .int k => bnd (obj n) fun o => match o with
    | .lst a => if small k && decide (a.length * k.toNat ≤ line) then new (.lst (List.replicate k.toNat a).flatten) else bad
    | _ => bad
  | _, _ => bad
def binD : Bop → D → D → M D
  | .add, x, y => addD x y
  | .sub, x, y => intB (fun i j => ret (.int (i - j))) x y
  | .mul, x, y => mulD x y
  | .md, x, y => intB (fun i j => if 0 < j then ret (.int (i % j)) else bad) x y
  | .fd, x, y => intB (fun i j => if 0 < j && decide (j < 1073741824) then ret (.int (i / j)) else bad) x y
  | .pw, x, y => intB (fun i j => if 0 ≤ j && decide (j ≤ 1000) && small i then ret (.int (i ^ j.toNat)) else bad) x y
def blM (o : Option Bool) : M D := match o with
  | some b => ret (.bl b)
  | none => bad
/-- y in d -/
def inD (x d : D) : M Bool := match d with
  | .str z => match x with
    | .str [c] => ret (z.contains c)
    | _ => bad
  | .tup ds => fun S => match tree S 8 x, mapO (fun y => eqT S y x) ds with
    | some _, some bs => .ok (bs.any id) S
    | _, _ => .bad
  | .ref n => bnd (obj n) fun o => match o with
    | .lst ds => fun S => match tree S 8 x, mapO (fun y => eqT S y x) ds with
      | some _, some bs => .ok (bs.any id) S
      | _, _ => .bad
    | .dct kvs => match asPair x with
      | some k => ret (kvGet kvs k).isSome
      | none => bad
    | .lck kvs => match asPair x with
      | some k => ret (kvGet kvs k).isSome
      | none => bad
    | .dck kvs => match x with
      | .str k => ret (kvGet kvs k).isSome
      | _ => bad
    | .rod kvs => match x with
      | .str k => ret (kvGet kvs k).isSome
      | _ => bad
    | _ => bad
  | _ => bad
def ordM (p : Ordering → Bool) (x y : D) : M D := if pureD x && pureD y && cmpb x y then ret (.bl (p (cmpD x y))) else bad
def cmpM : Cop → D → D → M D
  | .eq, x, y => fun S => blM (eqT S x y) S
  | .ne, x, y => fun S => blM ((eqT S x y).map (!·)) S
  | .lt, x, y => ordM (· == .lt) x y
  | .le, x, y => ordM (· != .gt) x y
  | .gt, x, y => ordM (· == .gt) x y
  | .ge, x, y => ordM (· != .lt) x y
  | .inn, x, y => bnd (inD x y) fun b => ret (.bl b)
  | .nin, x, y => bnd (inD x y) fun b => ret (.bl (!b))
def truthM (d : D) : M Bool := match d with
  | .non => ret false
  | .bl b => ret b
  | .int i => ret (i != 0)
  | .str x => if x.length ≤ line then ret (!x.isEmpty) else bad
  | .tup ds => ret (!ds.isEmpty)
  | .ref _ => bnd (lstOf d) fun ds => ret (!ds.isEmpty)
def isN : D → Bool
  | .non => true
  | _ => false
def idxM (x y : D) : M D := match x, y with
  | .tup ds, .int i => orBad ((ixOf ds.length i).bind fun j => ds[j]?)
  | .str z, .int i => if z.length ≤ line then orBad ((ixOf z.length i).bind fun j => z[j]?.map fun c => .str [c]) else bad
  | .ref _, .int i => bnd (lstOf x) fun ds => orBad ((ixOf ds.length i).bind fun j => ds[j]?)
  | _, _ => bad
def dixM (x y : D) : M D := match x with
  | .ref n => bnd (obj n) fun o => match o with
    | .dct kvs => orBad ((asPair y).bind fun k => kvGet kvs k)
    | .dck kvs => match y with
      | .str k => orBad (kvGet kvs k)
      | _ => bad
    | .rod kvs => match y with
      | .str k => orBad (kvGet kvs k)
      | _ => bad
    | _ => bad
  | _ => bad
def slcM (x : D) (lo hi : Option Int) : M D := match x with
  | .tup ds => ret (.tup (cut ds lo hi))
  | .str z => if z.length ≤ line then ret (.str (cut z lo hi)) else bad
  | .ref _ => bnd (lstOf x) fun ds => new (.lst (cut ds lo hi))
  | _ => bad
def intO : Option D → M (Option Int)
  | none => ret none
  | some (.int i) => if small i then ret (some i) else bad
  | some _ => bad
def insOf (c : Cl) (d : D) : M (Nat × List D) := match d with
  | .ref n => bnd (obj n) fun o => match o with
    | .ins c' fs => if c' = c then ret (n, fs) else bad
    | _ => bad
  | _ => bad
def sortM (ds : List D) : M (List D) := if allCmp ds then ret (sortBy ltD ds) else bad
def dedup : List D → List D
  | [] => []
  | d :: r => if r.any fun e => cmpD d e = .eq then dedup r else d :: dedup r
def isTupD : D → Bool
  | .tup _ => true
  | _ => false
def isStrD : D → Bool
  | .str _ => true
  | _ => false
/-- what may be put into a set here -/
def setOk (ds : List D) : Bool := ds.all pureD && decide (ds.length < 64) && (ds.all isTupD || ds.all isStrD)
def isTyD (d : D) (t : Ty) : M Bool := match d, t with
  | .non, _ => ret false
  | .bl _, .int => ret true
  | .bl _, _ => ret false
  | .int _, .int => ret true
  | .int _, _ => ret false
  | .str _, .str => ret true
  | .str _, _ => ret false
  | .tup _, .tuple => ret true
  | .tup _, _ => ret false
  | .ref n, t => bnd (obj n) fun o => match o, t with
    | .lst _, .list => ret true
    | .lst _, _ => ret false
    | .dct _, .dict => ret true
    | .dct _, _ => ret false
    | .dck _, .dict => ret true
    | .dck _, _ => ret false
    | _, _ => bad
def subEx : Ex → Ex → Bool
  | _, .fall => true
  | a, b => decide (a = b)
def isExD (d : D) (c : Ex) : M Bool := match d with
  | .ref n => bnd (obj n) fun o => match o with
    | .exc e => ret (subEx e c)
    | _ => bad
  | _ => bad
def numL (i : Int) : List Nat := (toString i).toList.map Char.toNat
def isNum (x : List Nat) : Bool := decide (1 ≤ x.length) && decide (x.length ≤ 3) && x.all fun c => decide (48 ≤ c) && decide (c ≤ 57)
def numOf (x : List Nat) : Int := x.foldl (fun (n : Int) (c : Nat) => n * 10 + ((c : Int) - 48)) 0
def asEntry : D → Option ((Int × Int) × D)
  | .tup [k, v] => (asPair k).map fun p => (p, v)
  | _ => none
def arg1 (f : D → M D) : List D → M D
  | [d] => f d
  | _ => bad
def arg2 (f : D → D → M D) : List D → M D
  | [d, e] => f d e
  | _ => bad
def blO : D → Option Bool
  | .bl b => some b
  | _ => none
def intOf : D → Option Int
  | .int b => some b
  | _ => none
def strO : D → Option (List Nat)
  | .str b => some b
  | _ => none
def lenM (d : D) : M D := match d with
  | .str x => if x.length ≤ line then ret (.int x.length) else bad
  | .tup ds => ret (.int ds.length)
  | .ref _ => bnd (lstOf d) fun ds => ret (.int ds.length)
  | _ => bad
def listM (d : D) : M D := match d with
  | .tup ds => new (.lst ds)
  | .ref _ => bnd (lstOf d) fun ds => new (.lst ds)
  | _ => bad
def tupleM (d : D) : M D := bnd (lstOf d) fun ds => ret (.tup ds)
def allM (d : D) : M D := bnd (lstOf d) fun ds => bnd (orBad (mapO blO ds)) fun bs => ret (.bl (bs.all id))
def anyM (d : D) : M D := bnd (lstOf d) fun ds => bnd (orBad (mapO blO ds)) fun bs => ret (.bl (bs.any id))
def maxL : List Int → Option Int
  | [] => none
  | i :: is => some (is.foldl max i)
def maxM (d : D) : M D := bnd (lstOf d) fun ds => bnd (orBad ((mapO intOf ds).bind maxL)) fun i => ret (.int i)
def sortedM (d : D) : M D := bnd (lstOf d) fun ds => bnd (sortM ds) fun es => new (.lst es)
def strM (d : D) : M D := match d with
  | .int i => if i.natAbs < 1000000 then ret (.str (numL i)) else bad
  | .str x => ret (.str x)
  | _ => bad
def intM (d : D) : M D := match d with
  | .bl b => ret (.int (if b then 1 else 0))
  | .int i => ret (.int i)
  | .str x => if isNum x then ret (.int (numOf x)) else bad
  | _ => bad
def dictM (d : D) : M D := bnd (lstOf d) fun ds => bnd (orBad (mapO asEntry ds)) fun kvs => new (.dct (kvs.foldl (fun acc kv => kvPut acc kv.1 kv.2) []))
def biM : Bi → List D → M D
  | .len => arg1 lenM
  | .list => arg1 listM
  | .tuple => arg1 tupleM
  | .all => arg1 allM
  | .any => arg1 anyM
  | .max1 => arg1 maxM
  | .max2 => arg2 (intB fun i j => ret (.int (if j > i then j else i)))
  | .min2 => arg2 (intB fun i j => ret (.int (if j < i then j else i)))
  | .sorted => arg1 sortedM
  | .str => arg1 strM
  | .int => arg1 intM
  | .dict => arg1 dictM
/-- s.split(sep), sep of one sign -/
def splitL (c : Nat) : List Nat → List (List Nat)
  | [] => [[]]
  | a :: r => if a = c then [] :: splitL c r else match splitL c r with
    | [] => [[a]]
    | p :: ps => (a :: p) :: ps
def joinL (s : List Nat) : List (List Nat) → List Nat
  | [] => []
  | [x] => x
  | x :: r => x ++ s ++ joinL s r
/-- a list that may be written -/
def mlst (d : D) : M (Nat × List D) := match d with
  | .ref n => bnd (obj n) fun o => match o with
    | .lst ds => ret (n, ds)
    | _ => bad
  | _ => bad
def appendM (x d : D) : M D := bnd (mlst x) fun p => if p.2.length < line then bnd (put p.1 (.lst (p.2 ++ [d]))) fun _ => ret .non else bad
def extendM (x d : D) : M D := bnd (mlst x) fun p => bnd (mlst d) fun q => if p.2.length + q.2.length ≤ line then bnd (put p.1 (.lst (p.2 ++ q.2))) fun _ => ret .non else bad
def insertM (x i d : D) : M D := bnd (mlst x) fun p => match i with
  | .int i => if p.2.length < line && decide (0 ≤ i) && decide (i ≤ p.2.length) then bnd (put p.1 (.lst (p.2.take i.toNat ++ [d] ++ p.2.drop i.toNat))) fun _ => ret .non else bad
  | _ => bad
def eqAll (S : Store) (x : D) (ds : List D) : Option (List Bool) := match tree S 8 x, mapO (fun y => eqT S y x) ds with
  | some _, some bs => some bs
  | _, _ => none
def countM (l x : D) : M D := bnd (lstOf l) fun ds => fun S => bnd (orBad (eqAll S x ds)) (fun bs => ret (.int (bs.count true))) S
def indexM (l x : D) : M D := bnd (lstOf l) fun ds => fun S => bnd (orBad ((eqAll S x ds).bind fun bs => bs.findIdx? id)) (fun i => ret (.int i)) S
def joinM (x l : D) : M D := bnd (orBad (strO x)) fun s => bnd (lstOf l) fun ds => bnd (orBad (mapO strO ds)) fun xs =>
  if (joinL s xs).length + s.length ≤ line then ret (.str (joinL s xs)) else bad
def splitM (x c : D) : M D := match x, c with
  | .str s, .str [c] => if s.length + 2 ≤ line then new (.lst ((splitL c s).map D.str)) else bad
  | _, _ => bad
def startM (x p : D) : M D := match x, p with
  | .str s, .str p => ret (.bl (p.isPrefixOf s))
  | _, _ => bad
def getM (x k d : D) : M D := match x with
  | .ref n => bnd (obj n) fun o => match o with
    | .dct kvs => bnd (orBad (asPair k)) fun p => ret ((kvGet kvs p).getD d)
    | .dck kvs => bnd (orBad (strO k)) fun p => ret ((kvGet kvs p).getD d)
    | _ => bad
  | _ => bad
def popDM (x k d : D) : M D := match x with
  | .ref n => bnd (obj n) fun o => match o with
    | .dct kvs => bnd (orBad (asPair k)) fun p => match kvGet kvs p with
      | some v => bnd (put n (.dct (kvDrop kvs p))) fun _ => ret v
      | none => ret d
    | _ => bad
  | _ => bad
def pop0M (x : D) : M D := bnd (mlst x) fun p => bnd (orBad p.2.getLast?) fun d => bnd (put p.1 (.lst p.2.dropLast)) fun _ => ret d
def pop1M (x i : D) : M D := bnd (mlst x) fun p => match i with
  | .int i => if 0 ≤ i && small i then bnd (orBad p.2[i.toNat]?) fun d => bnd (put p.1 (.lst (p.2.eraseIdx i.toNat))) fun _ => ret d else bad
  | _ => bad
def isDctM (x : D) : M Unit := match x with
  | .ref n => bnd (obj n) fun o => match o with
    | .dct _ => ret ()
    | .dck _ => ret ()
    | _ => bad
  | _ => bad
/-- the receiver's type -/
def bmTy : Bm → D → M Unit
  | .join, x | .split, x | .startswith, x => bnd (orBad (strO x)) fun _ => ret ()
  | .get, x | .popD, x => isDctM x
  | _, x => bnd (lstOf x) fun _ => ret ()
def bmM : Bm → D → List D → M D
  | .append, x => arg1 (appendM x)
  | .extend, x => arg1 (extendM x)
  | .insert, x => arg2 (insertM x)
  | .count, x => arg1 (countM x)
  | .index, x => arg1 (indexM x)
  | .join, x => arg1 (joinM x)
  | .split, x => arg1 (splitM x)
  | .startswith, x => arg1 (startM x)
  | .get, x => arg2 (getM x)
  | .popD, x => arg2 (popDM x)
  | .pop1, x => arg1 (pop1M x)
  | .pop0, x => fun ds => if ds.isEmpty then pop0M x else bad
def pairD (k : Int × Int) : D := .tup [.int k.1, .int k.2]

/-! ### what is walked -/
inductive Wk where
  | lst (n : Nat) (ds : List D) | fix (ds : List D) | dict (n : Nat) (kvs : List ((Int × Int) × D)) (ds : List D)
def Wk.items : Wk → List D
  | .lst _ ds => ds
  | .fix ds => ds
  | .dict _ _ ds => ds
def wkOf : Ik → List D → M Wk
  | .seq, [d] => match d with
    | .tup ds => ret (.fix ds)
    | .str x => ret (.fix (x.map fun c => .str [c]))
    | .ref n => bnd (lstOf d) fun ds => ret (.lst n ds)
    | _ => bad
  | .rng1, [.int j] => if small j then ret (.fix ((List.range j.toNat).map fun (i : Nat) => .int (0 + (i : Int)))) else bad
  | .rng2, [.int i, .int j] => if small i && small j then ret (.fix ((List.range (j - i).toNat).map fun (k : Nat) => .int (i + (k : Int)))) else bad
  | .keys, [.ref n] => bnd (obj n) fun o => match o with
    | .dct kvs => bnd (put n (.lck kvs)) fun _ => ret (.dict n kvs (kvs.map fun kv => pairD kv.1))
    | _ => bad
  | .vals, [.ref n] => bnd (obj n) fun o => match o with
    | .dct kvs => bnd (put n (.lck kvs)) fun _ => ret (.dict n kvs (kvs.map (·.2)))
    | _ => bad
  | _, _ => bad
/-- between two turns the list stands as it stood -/
def Wk.still (w : Wk) : M Unit := match w with
  | .lst n ds => bnd (lstOf (.ref n)) fun es => if es = ds then ret () else bad
  | _ => ret ()
def Wk.leave (w : Wk) : M Unit := match w with
  | .dict n kvs _ => bnd (obj n) fun o => match o with
    | .lck _ => put n (.dct kvs)
    | _ => bad
  | _ => ret ()

/-! ### expressions -/
def setAll : List Nat → List D → Env → Env
  | i :: is, d :: ds, ρ => setAll is ds (ρ.set i (some d))
  | _, _, ρ => ρ
def Tg.bind (t : Tg) (d : D) (ρ : Env) : M Env := match t with
  | .nm i => ret (ρ.set i (some d))
  | .tup is => match d with
    | .tup ds => if ds.length = is.length then ret (setAll is ds ρ) else bad
    | _ => bad
def wipeE (ρ : Env) : List Nat → Env
  | [] => ρ
  | v :: vs => (wipeE ρ vs).set v none
/-- turn by turn; what is raised within is not served -/
def collect (wk : Wk) (turn : D → M (Option D)) : List D → M (List D)
  | [] => bnd wk.still fun _ => ret []
  | x :: r => bnd wk.still fun _ => bnd (turn x) fun o => bnd (collect wk turn r) fun ds => ret (match o with | some d => d :: ds | none => ds)
def noExn {α : Type} (m : M α) : M α := fun S => match m S with
  | .exn _ _ => .bad
  | r => r
def mapM' (f : D → M D) : List D → M (List D)
  | [] => ret []
  | x :: r => bnd (f x) fun y => bnd (mapM' f r) fun ys => ret (y :: ys)
/-- sorted by a key -/
def sortKM (m : D → M D) (ds : List D) : M D := bnd (noExn (mapM' m ds)) fun ks => if allCmp ks then new (.lst ((sortBy (fun a b => ltD a.1 b.1) (ks.zip ds)).map (·.2))) else bad

mutual
def semE (cl : Or) : E → Env → M D
  | .var i, ρ => orBad (ρ[i]?.join)
  | .int i, _ => ret (.int i)
  | .str x, _ => ret (.str x)
  | .bl b, _ => ret (.bl b)
  | .non, _ => ret .non
  | .neg i, _ => ret (.int (-i))
  | .glb _ d, _ => ret d
  | .tup es, ρ => bnd (semEs cl es ρ) fun ds => ret (.tup ds)
  | .lst es, ρ => bnd (semEs cl es ρ) fun ds => new (.lst ds)
  | .dctT, _ => new (.dct [])
  | .dctK, _ => new (.dck [])
  | .disp ks es, ρ => bnd (semEs cl es ρ) fun ds => if ks.length = ds.length && decide (ks.length ≤ 15) then new (.dck ((ks.zip ds).foldl (fun acc kv => kvPut acc kv.1 kv.2) [])) else bad
  | .bin op a b, ρ => bnd (semE cl a ρ) fun x => bnd (semE cl b ρ) fun y => binD op x y
  | .cmp op a b, ρ => bnd (semE cl a ρ) fun x => bnd (semE cl b ρ) fun y => cmpM op x y
  | .chain o p a b c, ρ => bnd (semE cl a ρ) fun x => bnd (semE cl b ρ) fun y => bnd (cmpM o x y) fun k => match k with
    | .bl true => bnd (semE cl c ρ) fun z => cmpM p y z
    | .bl false => ret (.bl false)
    | _ => bad
  | .isn neg a, ρ => bnd (semE cl a ρ) fun x => ret (.bl (if neg then !isN x else isN x))
  | .andv es, ρ => semAnd cl es ρ
  | .orv es, ρ => semOr cl es ρ
  | .notv a, ρ => bnd (semE cl a ρ) fun x => match x with | .bl b => ret (.bl (!b)) | _ => bad
  | .ife c a b, ρ => bnd (semT cl c ρ) fun k => if k then semE cl a ρ else semE cl b ρ
  | .idx a b, ρ => bnd (semE cl a ρ) fun x => bnd (semE cl b ρ) fun y => idxM x y
  | .dix a b, ρ => bnd (semE cl a ρ) fun x => bnd (semE cl b ρ) fun y => dixM x y
  | .slc a lo hi, ρ => bnd (semE cl a ρ) fun x => bnd (semO cl lo ρ) fun l => bnd (semO cl hi ρ) fun h => slcM x l h
  | .rev a, ρ => bnd (semE cl a ρ) fun x => bnd (lstOf x) fun ds => new (.lst ds.reverse)
  | .att c i a, ρ => bnd (semE cl a ρ) fun x => bnd (insOf c x) fun p => orBad (p.2[i]?)
  | .call f es, ρ => bnd (semEs cl es ρ) fun ds => cl f ds
  | .mk c es, ρ => bnd (semEs cl es ρ) fun ds => bnd (new (.ins c [])) fun x => bnd (cl (c.dot "__init__") (x :: ds)) fun r => if isN r then ret x else bad
  | .meth c m a es, ρ => bnd (semE cl a ρ) fun x => bnd (insOf c x) fun _ => bnd (semEs cl es ρ) fun ds => cl (c.dot m) (x :: ds)
  | .bi b es, ρ => bnd (semEs cl es ρ) fun ds => biM b ds
  | .bm m a es, ρ => bnd (semE cl a ρ) fun x => bnd (bmTy m x) fun _ => bnd (semEs cl es ρ) fun ds => bmM m x ds
  | .lenset a, ρ => bnd (semE cl a ρ) fun x => bnd (lstOf x) fun ds => if setOk ds then ret (.int (dedup ds).length) else bad
  | .sortset a, ρ => bnd (semE cl a ρ) fun x => bnd (lstOf x) fun ds => if setOk ds then bnd (sortM ds) fun es => new (.lst (dedup es)) else bad
  | .sortkeys a, ρ => bnd (semE cl a ρ) fun x => match x with
    | .ref n => bnd (obj n) fun o => match o with
      | .dct kvs => bnd (sortM (kvs.map fun kv => pairD kv.1)) fun es => new (.lst es)
      | _ => bad
    | _ => bad
  | .listkeys a, ρ => bnd (semE cl a ρ) fun x => match x with
    | .ref n => bnd (obj n) fun o => match o with
      | .dct kvs => new (.lst (kvs.map fun kv => pairD kv.1))
      | _ => bad
    | _ => bad
  | .sortk _ a body, ρ => bnd (semE cl a ρ) fun x => bnd (lstOf x) fun ds => sortKM (fun d => semE cl body [some d]) ds
  | .sortf f a, ρ => bnd (semE cl a ρ) fun x => bnd (lstOf x) fun ds => sortKM (fun d => cl f [d]) ds
  | .isTy a t, ρ => bnd (semE cl a ρ) fun x => bnd (isTyD x t) fun b => ret (.bl b)
  | .isEx a c, ρ => bnd (semE cl a ρ) fun x => bnd (isExD x c) fun b => ret (.bl b)
  | .lc elt tg k its cond own, ρ => bnd (semEs cl its ρ) fun vs => bnd (wkOf k vs) fun wk =>
      bnd (collect wk (fun d => noExn (bnd (tg.bind d (wipeE ρ own)) fun ρ' => bnd (semC cl cond ρ') fun b => if b then bnd (semE cl elt ρ') fun y => ret (some y) else ret none)) wk.items) fun ds =>
      bnd wk.leave fun _ => if ds.length ≤ line then new (.lst ds) else bad
def semEs (cl : Or) : List E → Env → M (List D)
  | [], _ => ret []
  | e :: es, ρ => bnd (semE cl e ρ) fun d => bnd (semEs cl es ρ) fun ds => ret (d :: ds)
def semO (cl : Or) : Option E → Env → M (Option Int)
  | none, _ => ret none
  | some e, ρ => bnd (semE cl e ρ) fun d => intO (some d)
def semC (cl : Or) : Option T → Env → M Bool
  | none, _ => ret true
  | some e, ρ => semT cl e ρ
/-- a test -/
def semT (cl : Or) : T → Env → M Bool
  | .ex e, ρ => bnd (semE cl e ρ) truthM
  | .not a, ρ => bnd (semT cl a ρ) fun b => ret (!b)
  | .and es, ρ => semTAnd cl es ρ
  | .or es, ρ => semTOr cl es ρ
  | .ife c a b, ρ => bnd (semT cl c ρ) fun k => if k then semT cl a ρ else semT cl b ρ
def semAnd (cl : Or) : List E → Env → M D
  | [], _ => bad
  | [e], ρ => semE cl e ρ
  | e :: es, ρ => bnd (semE cl e ρ) fun d => match d with
    | .bl true => semAnd cl es ρ
    | .bl false => ret (.bl false)
    | _ => bad
def semOr (cl : Or) : List E → Env → M D
  | [], _ => bad
  | [e], ρ => semE cl e ρ
  | e :: es, ρ => bnd (semE cl e ρ) fun d => match d with
    | .bl false => semOr cl es ρ
    | .bl true => ret (.bl true)
    | _ => bad
def semTAnd (cl : Or) : List T → Env → M Bool
  | [], _ => ret true
  | e :: es, ρ => bnd (semT cl e ρ) fun b => if b then semTAnd cl es ρ else ret false
def semTOr (cl : Or) : List T → Env → M Bool
  | [], _ => ret false
  | e :: es, ρ => bnd (semT cl e ρ) fun b => if b then ret true else semTOr cl es ρ
end

/-! ### statements -/
inductive Fl where | nx (ρ : Env) | ct (ρ : Env) | rt (d : D)
/-- a statement's answer; an exception tells the names' values where it is raised -/
inductive SR where | ok (f : Fl) (S : Store) | exn (c : Ex) (ρ : Env) (S : Store) | bad
abbrev SM := Store → SR
def liftM {α : Type} (m : M α) (ρ : Env) (k : α → SM) : SM := fun S => match m S with
  | .ok a S' => k a S'
  | .exn c S' => .exn c ρ S'
  | .bad => .bad
def sret (f : Fl) : SM := fun S => .ok f S
def sbad : SM := fun _ => .bad
def seq (m : SM) (k : Env → SM) : SM := fun S => match m S with
  | .ok (.nx ρ) S' => k ρ S'
  | r => r
def forL (wk : Wk) (body : D → Env → SM) : List D → Env → SM
  | [], ρ => liftM wk.still ρ fun _ => sret (.nx ρ)
  | x :: r, ρ => liftM wk.still ρ fun _ => fun S => match body x ρ S with
    | .ok (.nx ρ') S' => forL wk body r ρ' S'
    | .ok (.ct ρ') S' => forL wk body r ρ' S'
    | .ok (.rt d) S' => .ok (.rt d) S'
    | .exn c ρ' S' => .exn c ρ' S'
    | .bad => .bad
def whlL (c : Env → M Bool) (body : Env → SM) : Nat → Env → SM
  | 0, _ => sbad
  | n + 1, ρ => liftM (c ρ) ρ fun b => if b then fun S => match body ρ S with
    | .ok (.nx ρ') S' => whlL c body n ρ' S'
    | .ok (.ct ρ') S' => whlL c body n ρ' S'
    | .ok (.rt d) S' => .ok (.rt d) S'
    | .exn c ρ' S' => .exn c ρ' S'
    | .bad => .bad else sret (.nx ρ)
/-- a tuple or a list of that length -/
def unpM (n : Nat) (d : D) : M (List D) := match d with
  | .tup ds => if ds.length = n then ret ds else bad
  | .ref _ => bnd (lstOf d) fun ds => if ds.length = n then ret ds else bad
  | _ => bad
def satM (c : Cl) (i : Nat) (o e : D) : M Unit := bnd (insOf c o) fun p =>
  if i < p.2.length then put p.1 (.ins c (p.2.set i e)) else if i = p.2.length then put p.1 (.ins c (p.2 ++ [e])) else bad
def ssubM (o ix e : D) : M Unit := match o, ix with
  | .ref n, .int i => bnd (obj n) fun u => match u with
    | .lst ds => match ixOf ds.length i with
      | some j => put n (.lst (ds.set j e))
      | none => bad
    | _ => bad
  | _, _ => bad
def dsubM (o ix e : D) : M Unit := match o with
  | .ref n => bnd (obj n) fun u => match u with
    | .dct kvs => match asPair ix with
      | some k => if kvs.length < line then put n (.dct (kvPut kvs k e)) else bad
      | none => bad
    | .dck kvs => match ix with
      | .str k => if kvs.length < line then put n (.dck (kvPut kvs k e)) else bad
      | _ => bad
    | _ => bad
  | _ => bad

mutual
def semS (cl : Or) : St → Env → SM
  | .asg i e, ρ => liftM (semE cl e ρ) ρ fun d => sret (.nx (ρ.set i (some d)))
  | .unp is e, ρ => liftM (bnd (semE cl e ρ) (unpM is.length)) ρ fun ds => sret (.nx (setAll is ds ρ))
  | .par is es, ρ => liftM (semEs cl es ρ) ρ fun ds => if ds.length = is.length then sret (.nx (setAll is ds ρ)) else sbad
  | .sat c i o e, ρ => liftM (bnd (semE cl e ρ) fun d => bnd (semE cl o ρ) fun x => satM c i x d) ρ fun _ => sret (.nx ρ)
  | .ssub o ix e, ρ => liftM (bnd (semE cl e ρ) fun d => bnd (semE cl o ρ) fun x => bnd (semE cl ix ρ) fun y => ssubM x y d) ρ fun _ => sret (.nx ρ)
  | .dsub o ix e, ρ => liftM (bnd (semE cl e ρ) fun d => bnd (semE cl o ρ) fun x => bnd (semE cl ix ρ) fun y => dsubM x y d) ρ fun _ => sret (.nx ρ)
  | .swap o i j, ρ => liftM (bnd (semE cl o ρ) fun x => bnd (semE cl i ρ) fun a => bnd (semE cl j ρ) fun b => bnd (idxM x b) fun d => bnd (idxM x a) fun e => bnd (ssubM x a d) fun _ => ssubM x b e) ρ fun _ => sret (.nx ρ)
  | .exp e, ρ => liftM (semE cl e ρ) ρ fun _ => sret (.nx ρ)
  | .ret e, ρ => liftM (semE cl e ρ) ρ fun d => sret (.rt d)
  | .retN, _ => sret (.rt .non)
  | .pass, ρ => sret (.nx ρ)
  | .cont, ρ => sret (.ct ρ)
  | .ife c a b, ρ => liftM (semT cl c ρ) ρ fun k => if k then semSs cl a ρ else semSs cl b ρ
  | .for_ tg k its body, ρ => liftM (bnd (semEs cl its ρ) fun vs => wkOf k vs) ρ fun wk =>
      seq (forL wk (fun d ρ' => liftM (tg.bind d ρ') ρ' fun ρ2 => semSs cl body ρ2) wk.items ρ) fun ρ' => liftM wk.leave ρ' fun _ => sret (.nx ρ')
  | .whl n c body, ρ => whlL (semT cl c) (semSs cl body) n ρ
  | .raise c, ρ => fun S => .exn c ρ S
  | .tryA body c _ v, ρ => fun S => match semSs cl body ρ S with
    | .exn e ρ' S' => if subEx e c then (bnd (new (.exc e)) fun d => ret d) S' |> fun r => match r with
      | .ok d S2 => .ok (.nx (ρ'.set v (some d))) S2
      | _ => .bad else .exn e ρ' S'
    | r => r
  | .tryF body c i e, ρ => fun S => match semSs cl body ρ S with
    | .exn x ρ' S' => if subEx x c then liftM (semE cl e ρ') ρ' (fun d => sret (.nx (ρ'.set i (some d)))) S' else .exn x ρ' S'
    | r => r
def semSs (cl : Or) : List St → Env → SM
  | [], ρ => sret (.nx ρ)
  | s :: ss, ρ => seq (semS cl s ρ) (semSs cl ss)
end
/-- a def: how many parameters, how many names, its body -/
structure Fn where
  ps : Nat
  ns : Nat
  body : List St
def Fn.run (cl : Or) (f : Fn) (ds : List D) : M D := fun S =>
  if ds.length = f.ps then match semSs cl f.body (ds.map some ++ List.replicate (f.ns - f.ps) none) S with
    | .ok (.rt d) S' => .ok d S'
    | .ok (.nx _) S' => .ok .non S'
    | .exn c _ S' => .exn c S'
    | _ => .bad else .bad
/-- a text's defs, called to a depth -/
def callF (Δ : String → Option Fn) : Nat → Or
  | 0 => fun _ _ => bad
  | k + 1 => fun f ds => match Δ f with
    | some fn => fn.run (callF Δ k) ds
    | none => bad
end NF
end -- NfSem

section -- NfRel
set_option linter.all false
set_option autoImplicit false
set_option maxRecDepth 100000
/-! What the language's data and store are in the layer's abstract heap. -/
namespace NF
open PySem PySem.Spec PyProof.Rows L2

/-- where the top has laid the classes -/
structure Cfg where
  cad : Ex → Addr
  kad : Cl → Addr
  w : World
  pre : List Addr
  tab : List (Addr × Str)
def Cl.fields : Cl → List Str
  | .row => ["key", "name", "since", "worth", "is_dropped"]
  | .copy => ["hand", "heard", "stamp", "own"]
  | .town => ["delays", "copies", "gaps", "coming", "time"]

/-- signs that are signs -/
def okS (x : List Nat) : Bool := x.all fun c => decide (c < 0x110000)
mutual
def DV (H : Hp) (ι : List Addr) : D → V → Prop
  | .non, v => v = .non
  | .bl b, v => v = .bl b
  | .int i, v => v = .int i
  | .str x, v => v = .str (strOf x) ∧ okS x = true
  | .tup ds, v => ∃ a vs, v = .ref a ∧ H a = some (.tup vs) ∧ DVs H ι ds vs
  | .ref n, v => ∃ a, v = .ref a ∧ ι[n]? = some a
def DVs (H : Hp) (ι : List Addr) : List D → List V → Prop
  | [], vs => vs = []
  | d :: ds, vs => ∃ v r, vs = v :: r ∧ DV H ι d v ∧ DVs H ι ds r
end
def keyD (k : Int × Int) : List Key := [.inl k.1, .inl k.2]
def KTs (H : Hp) (ι : List Addr) : List ((Int × Int) × D) → List (List Key × V) → Prop
  | [], ws => ws = []
  | (k, d) :: r, ws => ∃ v q, ws = (keyD k, v) :: q ∧ DV H ι d v ∧ KTs H ι r q
def KKs (H : Hp) (ι : List Addr) : List (List Nat × D) → List (Key × V) → Prop
  | [], ws => ws = []
  | (k, d) :: r, ws => ∃ v q, ws = (.inr (strOf k), v) :: q ∧ DV H ι d v ∧ KKs H ι r q
/-- a list that is never written: the script -/
def RolAt (K : PySem.W.Frag) (H : Hp) (a : Addr) (vs : List V) : Prop :=
  (∃ o, H a = some (.frz o (.lst vs))) ∨
    ∃ (o : Obj) (its : Array Value) (n : Nat), K.lookup a = some o ∧ o.cls = .type "list" ∧ o.dict = none ∧ o.data = .seq its n ∧ its.size ≤ sizeLine ∧ Vals vs its.toList
/-- a dict of the module's own, never written: texts to ints -/
def RodAt (K : PySem.W.Frag) (w : World) (a : Addr) (kvs : List (List Nat × D)) : Prop :=
  ∃ es n, KDict K w a es n ∧ ∀ k : List Nat, match kvGet kvs k with
    | some d => ∃ i u, d = .int i ∧ PySem.W.nsIn K a (strOf k) = some (some u) ∧ RelV (.int i) u
    | none => PySem.W.nsIn K a (strOf k) = some none
/-- a caught exception, of the class c -/
def ExAt (cls : Value) (a : Addr) : HO := .ext fun h => ∃ oe : Obj, h.get? a = some oe ∧ Zc cls none oe ∧ ∃ vs, oe.data = .fields vs
def OA (C : Cfg) (K : PySem.W.Frag) (H : Hp) (ι : List Addr) (a : Addr) : O → Prop
  | .lst ds => ∃ vs, H a = some (.lst vs) ∧ DVs H ι ds vs
  | .rol ds => ∃ vs, RolAt K H a vs ∧ DVs H ι ds vs
  | .dct kvs => ∃ ws, H a = some (.dT ws) ∧ KTs H ι kvs ws
  | .dck kvs => ∃ ws, H a = some (.dK ws) ∧ KKs H ι kvs ws
  | .rod kvs => RodAt K C.w a kvs
  | .ins c fs => ∃ dx gs, H a = some (.ins (C.kad c) dx gs) ∧ gs.map (·.1) = c.fields.take fs.length ∧ fs.length ≤ c.fields.length ∧ DVs H ι fs (gs.map (·.2))
  | .exc c => H a = some (ExAt (.ref (C.cad c)) a)
  | .lck kvs => ∃ o ws, H a = some (.frz o (.dT ws)) ∧ KTs H ι kvs ws
def fixed : O → Bool
  | .rol _ => true
  | .rod _ => true
  | _ => false
structure StR (C : Cfg) (K : PySem.W.Frag) (H : Hp) (ι : List Addr) (S : Store) : Prop where
  len : ι.length = S.length
  pre : ∀ (n : Nat) (a : Addr), C.pre[n]? = some a → ι[n]? = some a
  obj : ∀ (n : Nat) (o : O) (a : Addr), S[n]? = some o → ι[n]? = some a → OA C K H ι a o
  nd : ∀ (n m : Nat) (o u : O) (a : Addr), S[n]? = some o → S[m]? = some u → ι[n]? = some a → ι[m]? = some a → n = m ∨ fixed o = true ∨ fixed u = true
  two : 2 ≤ S.length
  fix : ∀ (n : Nat) (o : O), S[n]? = some o → (fixed o = true ↔ n < 2)
  tabs : LamX.Tabs C.tab H
structure Ext (H : Hp) (ι : List Addr) (H' : Hp) (ι' : List Addr) : Prop where
  pre : ι <+: ι'
  tup : ∀ a vs, H a = some (.tup vs) → H' a = some (.tup vs)
  frame : ∀ a o, H a = some o → (∀ ps, o ≠ .tbl ps) → a ∉ ι.drop 2 → H' a = some o
  fresh : ∀ a, a ∈ ι'.drop 2 → a ∈ ι.drop 2 ∨ ∀ o, H a = some o → ∃ ps, o = .tbl ps
  lck : ∀ a o u, H a = some (.frz o u) → H' a = some (.frz o u)
theorem Ext.refl (H : Hp) (ι : List Addr) : Ext H ι H ι := ⟨List.prefix_refl _, fun _ _ h => h, fun _ _ h _ _ => h, fun _ h => .inl h, fun _ _ _ h => h⟩
theorem Ext.trans {H H1 H2 : Hp} {ι ι1 ι2 : List Addr} (a : Ext H ι H1 ι1) (b : Ext H1 ι1 H2 ι2) : Ext H ι H2 ι2 := by
  have nof : ∀ x o, H x = some o → (∀ ps, o ≠ .tbl ps) → x ∉ ι.drop 2 → x ∉ ι1.drop 2 := fun x o h ht hn hm => by
    rcases a.fresh x hm with z | z
    · exact hn z
    · obtain ⟨ps, e⟩ := z o h
      exact ht ps e
  refine ⟨a.pre.trans b.pre, fun x vs h => b.tup x vs (a.tup x vs h), fun x o h ht hn => b.frame x o (a.frame x o h ht hn) ht (nof x o h ht hn), fun x hx => ?_, fun x o u h => b.lck x o u (a.lck x o u h)⟩
  rcases b.fresh x hx with z | z
  · exact a.fresh x z
  · by_cases hm : x ∈ ι.drop 2
    · exact .inl hm
    · refine .inr fun o h => ?_
      by_cases ht : ∀ ps, o ≠ .tbl ps
      · exact z o (a.frame x o h ht hm)
      · obtain ⟨ps, ht⟩ := Classical.not_forall.mp ht
        exact ⟨ps, Classical.not_not.mp ht⟩
/-- what data need -/
structure Ex0 (H : Hp) (ι : List Addr) (H' : Hp) (ι' : List Addr) : Prop where
  pre : ι <+: ι'
  tup : ∀ a vs, H a = some (.tup vs) → H' a = some (.tup vs)
theorem Ext.ex0 {H H' : Hp} {ι ι' : List Addr} (e : Ext H ι H' ι') : Ex0 H ι H' ι' := ⟨e.pre, e.tup⟩
section
variable {H H' : Hp} {ι ι' : List Addr}
theorem Ex0.at (e : Ex0 H ι H' ι') {n : Nat} {a : Addr} (h : ι[n]? = some a) : ι'[n]? = some a := by
  obtain ⟨t, rfl⟩ := e.pre
  rw [List.getElem?_append_left (by exact (List.getElem?_eq_some_iff.mp h).1)]
  exact h
theorem Ext.at (e : Ext H ι H' ι') {n : Nat} {a : Addr} (h : ι[n]? = some a) : ι'[n]? = some a := e.ex0.at h
mutual
theorem DV.ext0 (e : Ex0 H ι H' ι') : ∀ (d : D) (v : V), DV H ι d v → DV H' ι' d v
  | .non, _, h => h
  | .bl _, _, h => h
  | .int _, _, h => h
  | .str _, _, h => h
  | .tup ds, v, h => by
    simp only [DV] at h ⊢
    obtain ⟨a, vs, rfl, ha, hd⟩ := h
    exact ⟨a, vs, rfl, e.tup a vs ha, DVs.ext0 e ds vs hd⟩
  | .ref n, v, h => by
    simp only [DV] at h ⊢
    obtain ⟨a, rfl, ha⟩ := h
    exact ⟨a, rfl, e.at ha⟩
theorem DVs.ext0 (e : Ex0 H ι H' ι') : ∀ (ds : List D) (vs : List V), DVs H ι ds vs → DVs H' ι' ds vs
  | [], _, h => h
  | d :: ds, vs, h => by
    simp only [DVs] at h ⊢
    obtain ⟨v, r, rfl, h1, h2⟩ := h
    exact ⟨v, r, rfl, DV.ext0 e d v h1, DVs.ext0 e ds r h2⟩
end
theorem KTs.ext0 (e : Ex0 H ι H' ι') : ∀ (kvs : List ((Int × Int) × D)) (ws : List (List Key × V)), KTs H ι kvs ws → KTs H' ι' kvs ws
  | [], _, h => h
  | (k, d) :: r, ws, h => by
    obtain ⟨v, q, rfl, h1, h2⟩ := h
    exact ⟨v, q, rfl, DV.ext0 e d v h1, KTs.ext0 e r q h2⟩
theorem KKs.ext0 (e : Ex0 H ι H' ι') : ∀ (kvs : List (List Nat × D)) (ws : List (Key × V)), KKs H ι kvs ws → KKs H' ι' kvs ws
  | [], _, h => h
  | (k, d) :: r, ws, h => by
    obtain ⟨v, q, rfl, h1, h2⟩ := h
    exact ⟨v, q, rfl, DV.ext0 e d v h1, KKs.ext0 e r q h2⟩
theorem DV.ext (e : Ext H ι H' ι') (d : D) (v : V) (h : DV H ι d v) : DV H' ι' d v := DV.ext0 e.ex0 d v h
theorem DVs.ext (e : Ext H ι H' ι') (ds : List D) (vs : List V) (h : DVs H ι ds vs) : DVs H' ι' ds vs := DVs.ext0 e.ex0 ds vs h
theorem KTs.ext (e : Ext H ι H' ι') (kvs : List ((Int × Int) × D)) (ws : List (List Key × V)) (h : KTs H ι kvs ws) : KTs H' ι' kvs ws := KTs.ext0 e.ex0 kvs ws h
theorem KKs.ext (e : Ext H ι H' ι') (kvs : List (List Nat × D)) (ws : List (Key × V)) (h : KKs H ι kvs ws) : KKs H' ι' kvs ws := KKs.ext0 e.ex0 kvs ws h
theorem DVs.len : ∀ {ds : List D} {vs : List V}, DVs H ι ds vs → vs.length = ds.length
  | [], _, h => by simp only [DVs] at h; subst h; rfl
  | d :: ds, vs, h => by
    simp only [DVs] at h
    obtain ⟨v, r, rfl, _, h2⟩ := h
    rw [List.length_cons, List.length_cons, DVs.len h2]
theorem DVs.get : ∀ {ds : List D} {vs : List V} {i : Nat} {d : D}, DVs H ι ds vs → ds[i]? = some d → ∃ v, vs[i]? = some v ∧ DV H ι d v
  | [], _, _, _, _, e => by simp at e
  | d :: ds, vs, 0, x, h, e => by
    simp only [DVs] at h
    obtain ⟨v, r, rfl, h1, _⟩ := h
    simp at e; subst e
    exact ⟨v, rfl, h1⟩
  | d :: ds, vs, i + 1, x, h, e => by
    simp only [DVs] at h
    obtain ⟨v, r, rfl, _, h2⟩ := h
    simpa using DVs.get (i := i) h2 (by simpa using e)
theorem DVs.app : ∀ {as : List D} {vs : List V} {bs : List D} {us : List V}, DVs H ι as vs → DVs H ι bs us → DVs H ι (as ++ bs) (vs ++ us)
  | [], _, _, _, h, g => by simp only [DVs] at h; subst h; exact g
  | a :: as, vs, bs, us, h, g => by
    simp only [DVs] at h
    obtain ⟨v, r, rfl, h1, h2⟩ := h
    exact ⟨v, r ++ us, rfl, h1, DVs.app h2 g⟩
theorem DVs.one {d : D} {v : V} (h : DV H ι d v) : DVs H ι [d] [v] := ⟨v, [], rfl, h, rfl⟩
theorem DVs.take : ∀ {ds : List D} {vs : List V} (n : Nat), DVs H ι ds vs → DVs H ι (ds.take n) (vs.take n)
  | _, _, 0, _ => by simp [DVs]
  | [], _, n + 1, h => by simp only [DVs] at h; subst h; simp [DVs]
  | d :: ds, vs, n + 1, h => by
    simp only [DVs] at h
    obtain ⟨v, r, rfl, h1, h2⟩ := h
    exact ⟨v, r.take n, rfl, h1, DVs.take n h2⟩
theorem DVs.drop : ∀ {ds : List D} {vs : List V} (n : Nat), DVs H ι ds vs → DVs H ι (ds.drop n) (vs.drop n)
  | _, _, 0, h => h
  | [], _, n + 1, h => by simp only [DVs] at h; subst h; simp [DVs]
  | d :: ds, vs, n + 1, h => by
    simp only [DVs] at h
    obtain ⟨v, r, rfl, h1, h2⟩ := h
    exact DVs.drop n h2
theorem DVs.set {x : D} {y : V} (hx : DV H ι x y) : ∀ {ds : List D} {vs : List V} (i : Nat), DVs H ι ds vs → DVs H ι (ds.set i x) (vs.set i y)
  | [], _, i, h => by simp only [DVs] at h; subst h; simp [DVs]
  | d :: ds, vs, 0, h => by
    simp only [DVs] at h
    obtain ⟨v, r, rfl, h1, h2⟩ := h
    exact ⟨y, r, rfl, hx, h2⟩
  | d :: ds, vs, i + 1, h => by
    simp only [DVs] at h
    obtain ⟨v, r, rfl, h1, h2⟩ := h
    exact ⟨v, r.set i y, rfl, h1, DVs.set hx i h2⟩
theorem DVs.rev : ∀ {ds : List D} {vs : List V}, DVs H ι ds vs → DVs H ι ds.reverse vs.reverse
  | [], _, h => by simp only [DVs] at h; subst h; simp [DVs]
  | d :: ds, vs, h => by
    simp only [DVs] at h
    obtain ⟨v, r, rfl, h1, h2⟩ := h
    rw [List.reverse_cons, List.reverse_cons]
    exact DVs.app (DVs.rev h2) (DVs.one h1)
theorem DVs.isEmpty {ds : List D} {vs : List V} (h : DVs H ι ds vs) : vs.isEmpty = ds.isEmpty := by
  have := h.len
  cases ds <;> cases vs <;> simp_all
end
/-! which objects may be written, and what an update leaves -/
section
variable {C : Cfg} {K : PySem.W.Frag} {H : Hp} {ι ι' : List Addr} {S : Store}
/-- an object that stands where p doesn't -/
theorem OA.upd {a p : Addr} {o : O} {u : HO} (h : OA C K H ι a o) (ne : fixed o = true ∨ a ≠ p) (nf : ∀ ob x, H p ≠ some (.frz ob (.lst x))) (e : Ex0 H ι (upd H p u) ι') : OA C K (upd H p u) ι' a o := by
  have at_ : ∀ x, a ≠ p → H a = some x → L2.upd H p u a = some x := fun x n q => by rw [upd_ne n]; exact q
  cases o with
  | rol ds =>
    obtain ⟨vs, hr, hd⟩ := h
    refine ⟨vs, ?_, hd.ext0 e⟩
    rcases hr with ⟨ob, hr⟩ | hr
    · refine .inl ⟨ob, ?_⟩
      rw [upd_ne]
      · exact hr
      · rintro rfl; exact nf _ _ hr
    · exact .inr hr
  | rod kvs => exact h
  | lst ds =>
    obtain ⟨vs, h1, h2⟩ := h
    exact ⟨vs, at_ _ (ne.resolve_left (by simp [fixed])) h1, h2.ext0 e⟩
  | dct kvs =>
    obtain ⟨vs, h1, h2⟩ := h
    exact ⟨vs, at_ _ (ne.resolve_left (by simp [fixed])) h1, h2.ext0 e⟩
  | dck kvs =>
    obtain ⟨vs, h1, h2⟩ := h
    exact ⟨vs, at_ _ (ne.resolve_left (by simp [fixed])) h1, h2.ext0 e⟩
  | ins c fs =>
    obtain ⟨dx, gs, h1, h2, h3, h4⟩ := h
    exact ⟨dx, gs, at_ _ (ne.resolve_left (by simp [fixed])) h1, h2, h3, h4.ext0 e⟩
  | exc c => exact at_ _ (ne.resolve_left (by simp [fixed])) h
  | lck kvs =>
    obtain ⟨ob, ws, h1, h2⟩ := h
    exact ⟨ob, ws, at_ _ (ne.resolve_left (by simp [fixed])) h1, h2.ext0 e⟩
/-- not fixed: tracked -/
theorem OA.some {a : Addr} {o : O} (h : OA C K H ι a o) (hf : fixed o = false) : ∃ u, H a = some u ∧ (∀ vs, u ≠ .tup vs) := by
  cases o with
  | rol _ => simp [fixed] at hf
  | rod _ => simp [fixed] at hf
  | lst ds => obtain ⟨vs, h1, _⟩ := h; exact ⟨_, h1, fun _ z => by cases z⟩
  | dct ds => obtain ⟨vs, h1, _⟩ := h; exact ⟨_, h1, fun _ z => by cases z⟩
  | dck ds => obtain ⟨vs, h1, _⟩ := h; exact ⟨_, h1, fun _ z => by cases z⟩
  | ins c fs => obtain ⟨dx, gs, h1, _⟩ := h; exact ⟨_, h1, fun _ z => by cases z⟩
  | exc c => exact ⟨_, h, fun _ z => by unfold ExAt at z; cases z⟩
  | lck kvs => obtain ⟨ob, ws, h1, _⟩ := h; exact ⟨_, h1, fun _ z => by cases z⟩
/-- what may be written is no code -/
theorem OA.noCode {a : Addr} {o : O} (h : OA C K H ι a o) (hf : fixed o = false) (hx : ∀ c, o ≠ .exc c) : (∀ ps, H a ≠ Option.some (.tbl ps)) ∧ ∀ φ, H a ≠ Option.some (.ext φ) := by
  cases o with
  | rol _ => simp [fixed] at hf
  | rod _ => simp [fixed] at hf
  | lst ds => obtain ⟨vs, h1, _⟩ := h; rw [h1]; exact ⟨fun _ z => (by cases z), fun _ z => (by cases z)⟩
  | dct ds => obtain ⟨vs, h1, _⟩ := h; rw [h1]; exact ⟨fun _ z => (by cases z), fun _ z => (by cases z)⟩
  | dck ds => obtain ⟨vs, h1, _⟩ := h; rw [h1]; exact ⟨fun _ z => (by cases z), fun _ z => (by cases z)⟩
  | ins c fs => obtain ⟨dx, gs, h1, _⟩ := h; rw [h1]; exact ⟨fun _ z => (by cases z), fun _ z => (by cases z)⟩
  | exc c => exact absurd rfl (hx c)
  | lck kvs => obtain ⟨ob, ws, h1, _⟩ := h; rw [h1]; exact ⟨fun _ z => (by cases z), fun _ z => (by cases z)⟩
theorem tabs_upd {T : List (Addr × Str)} {a : Addr} {u : HO} (t : LamX.Tabs T H) (h1 : ∀ ps, H a ≠ Option.some (.tbl ps)) (h2 : ∀ φ, H a ≠ Option.some (.ext φ)) : LamX.Tabs T (upd H a u) := fun p hp => by
  obtain ⟨ps, e1, e2, e3⟩ := t p hp
  refine ⟨ps, by rw [upd_ne (by rintro rfl; exact h1 _ e1)]; exact e1, e2, fun pos cv hc => ?_⟩
  obtain ⟨c, e4, e5⟩ := e3 pos cv hc
  refine ⟨c, e4, ?_⟩
  rw [upd_ne (by rintro rfl; unfold LamX.CodeO at e5; exact h2 _ e5)]
  exact e5
/-- a new object that the store does not tell (a tuple, a garbage list) -/
theorem Ext.new {p : Addr} {u : HO} (hp : H p = none) : Ext H ι (upd H p u) ι :=
  ⟨List.prefix_refl _, fun a vs h => by rw [upd_ne (ne_of_none h hp)]; exact h, fun a o h _ _ => by rw [upd_ne (ne_of_none h hp)]; exact h, fun _ h => .inl h, fun a o u h => by rw [upd_ne (ne_of_none h hp)]; exact h⟩
theorem StR.hid {p : Addr} {u : HO} (s : StR C K H ι S) (hp : H p = none) : StR C K (upd H p u) ι S := by
  refine ⟨s.len, s.pre, fun n o a hn ha => (s.obj n o a hn ha).upd ?_ (fun _ _ z => by rw [hp] at z; cases z) (Ext.new hp).ex0, s.nd, s.two, s.fix, s.tabs.ext fun b o e => by rw [upd_ne (ne_of_none e hp)]; exact e⟩
  cases hf : fixed o with
  | true => exact .inl rfl
  | false =>
    obtain ⟨x, hx, _⟩ := (s.obj n o a hn ha).some hf
    exact .inr (ne_of_none hx hp)
/-- a new object at the store's end -/
theorem mem_drop_app {ι : List Addr} {p a : Addr} (h : a ∈ (ι ++ [p]).drop 2) : a ∈ ι.drop 2 ∨ a = p := by
  rw [List.drop_append] at h
  rcases List.mem_append.mp h with z | z
  · exact .inl z
  · have := List.mem_of_mem_drop z
    simp at this
    exact .inr this
theorem Ext.laid {p : Addr} {u : HO} (hp : H p = none) : Ext H ι (upd H p u) (ι ++ [p]) :=
  ⟨List.prefix_append _ _, fun a vs h => by rw [upd_ne (ne_of_none h hp)]; exact h, fun a o h _ _ => by rw [upd_ne (ne_of_none h hp)]; exact h, fun a h => by
    rcases mem_drop_app h with z | z
    · exact .inl z
    · subst z; exact .inr fun o q => by (rw [hp] at q; cases q), fun a o u h => by rw [upd_ne (ne_of_none h hp)]; exact h⟩
theorem upd_self {H : Hp} {p : Addr} {u : HO} (h : H p = some u) : upd H p u = H := by
  funext b
  by_cases e : b = p
  · rw [e, upd_same, h]
  · rw [upd_ne e]
theorem StR.unf {n : Nat} {o : O} {a : Addr} (s : StR C K H ι S) (hn : S[n]? = some o) (hf : fixed o = false) (ha : ι[n]? = some a) : a ∈ ι.drop 2 := by
  have h2 : 2 ≤ n := by
    by_cases h : n < 2
    · rw [(s.fix n o hn).mpr h] at hf; cases hf
    · omega
  refine List.mem_of_getElem? (i := n - 2) ?_
  rw [List.getElem?_drop, show 2 + (n - 2) = n from by omega]
  exact ha
/-- a thing that stands there joins the store -/
theorem StR.app {p : Addr} {u : HO} {o : O} (s : StR C K H ι S) (hp : p ∉ ι.drop 2) (hu : H p = some u) (nf : ∀ ob x, u ≠ .frz ob (.lst x)) (ho : OA C K H (ι ++ [p]) p o) (hf : fixed o = false) : StR C K H (ι ++ [p]) (S ++ [o]) := by
  have e : Ex0 H ι H (ι ++ [p]) := ⟨List.prefix_append _ _, fun _ _ h => h⟩
  have old : ∀ {n : Nat} {x : O} {a : Addr}, n < S.length → (S ++ [o])[n]? = some x → (ι ++ [p])[n]? = some a → S[n]? = some x ∧ ι[n]? = some a := fun {n x a} hn h1 h2 => by
    rw [List.getElem?_append_left hn] at h1
    rw [List.getElem?_append_left (by rw [s.len]; exact hn)] at h2
    exact ⟨h1, h2⟩
  have last : ∀ {n : Nat} {x : O} {a : Addr}, ¬ n < S.length → (S ++ [o])[n]? = some x → (ι ++ [p])[n]? = some a → n = S.length ∧ x = o ∧ a = p := fun {n x a} hn h1 h2 => by
    have hl : n < (S ++ [o]).length := (List.getElem?_eq_some_iff.mp h1).1
    rw [List.length_append] at hl
    have en : n = S.length := by simp at hl; omega
    subst en
    rw [List.getElem?_append_right (Nat.le_refl _)] at h1
    rw [← s.len, List.getElem?_append_right (Nat.le_refl _)] at h2
    simp at h1 h2
    exact ⟨rfl, h1.symm, h2.symm⟩
  have ne : ∀ {n : Nat} {x : O} {a : Addr}, S[n]? = some x → ι[n]? = some a → fixed x = true ∨ a ≠ p := fun {n x a} h1 h2 => by
    cases hf : fixed x with
    | true => exact .inl rfl
    | false => exact .inr fun z => hp (z ▸ s.unf h1 hf h2)
  refine ⟨by rw [List.length_append, List.length_append, s.len] <;> rfl, fun n a h => e.at (s.pre n a h), fun n x a h1 h2 => ?_, fun n m x y a h1 h2 h3 h4 => ?_, by rw [List.length_append]; have := s.two; omega, fun n x h => ?_, s.tabs⟩
  · by_cases hn : n < S.length
    · obtain ⟨h1, h2⟩ := old hn h1 h2
      have q := (s.obj n x a h1 h2).upd (p := p) (u := u) (ι' := ι ++ [p]) (ne h1 h2) (fun ob x z => by rw [hu] at z; exact nf ob x (Option.some.inj z)) (by rw [upd_self hu]; exact e)
      rw [upd_self hu] at q
      exact q
    · obtain ⟨rfl, rfl, rfl⟩ := last hn h1 h2
      exact ho
  · by_cases hn : n < S.length
    · obtain ⟨q1, q3⟩ := old hn h1 h3
      by_cases hm : m < S.length
      · obtain ⟨q2, q4⟩ := old hm h2 h4
        exact s.nd n m x y a q1 q2 q3 q4
      · obtain ⟨rfl, rfl, rfl⟩ := last hm h2 h4
        rcases ne q1 q3 with z | z
        · exact .inr (.inl z)
        · exact absurd rfl z
    · obtain ⟨rfl, rfl, rfl⟩ := last hn h1 h3
      by_cases hm : m < S.length
      · obtain ⟨q2, q4⟩ := old hm h2 h4
        rcases ne q2 q4 with z | z
        · exact .inr (.inr z)
        · exact absurd rfl z
      · obtain ⟨em, _, _⟩ := last hm h2 h4
        exact .inl em.symm
  · by_cases hn : n < S.length
    · rw [List.getElem?_append_left hn] at h
      exact s.fix n x h
    · have hl : n < (S ++ [o]).length := (List.getElem?_eq_some_iff.mp h).1
      rw [List.length_append] at hl
      have en : n = S.length := by simp at hl; omega
      subst en
      rw [List.getElem?_append_right (Nat.le_refl _)] at h
      simp at h
      subst h
      have := s.two
      constructor
      · intro q; rw [hf] at q; cases q
      · intro q; omega
theorem StR.laid {p : Addr} {u : HO} {o : O} (s : StR C K H ι S) (hp : H p = none) (ho : OA C K (upd H p u) (ι ++ [p]) p o) (hf : fixed o = false) : StR C K (upd H p u) (ι ++ [p]) (S ++ [o]) := by
  have hp2 : p ∉ ι.drop 2 := fun hm => by
    obtain ⟨i, hi⟩ := List.mem_iff_getElem?.mp hm
    rw [List.getElem?_drop] at hi
    have hlt : 2 + i < S.length := by rw [← s.len]; exact (List.getElem?_eq_some_iff.mp hi).1
    have hS : S[2 + i]? = some S[2 + i] := List.getElem?_eq_getElem hlt
    cases hf' : fixed S[2 + i] with
    | true => have := (s.fix _ _ hS).mp hf'; omega
    | false =>
      obtain ⟨x, hx, _⟩ := (s.obj _ _ _ hS hi).some hf'
      rw [hp] at hx; cases hx
  by_cases nf : ∀ ob x, u ≠ .frz ob (.lst x)
  · exact (s.hid hp).app hp2 upd_same nf ho hf
  · exfalso
    obtain ⟨ob, nf⟩ := Classical.not_forall.mp nf
    obtain ⟨x, nf⟩ := Classical.not_forall.mp nf
    have nf := Classical.not_not.mp nf
    subst nf
    cases o with
    | rol _ => simp [fixed] at hf
    | rod _ => simp [fixed] at hf
    | lst ds => obtain ⟨vs, h1, _⟩ := ho; rw [upd_same] at h1; cases h1
    | dct ds => obtain ⟨vs, h1, _⟩ := ho; rw [upd_same] at h1; cases h1
    | dck ds => obtain ⟨vs, h1, _⟩ := ho; rw [upd_same] at h1; cases h1
    | ins c fs => obtain ⟨dx, gs, h1, _⟩ := ho; rw [upd_same] at h1; cases h1
    | exc c => have h1 : upd H p _ p = _ := ho; rw [upd_same] at h1; unfold ExAt at h1; cases h1
    | lck kvs => obtain ⟨ob, ws, h1, _⟩ := ho; rw [upd_same] at h1; cases h1
/-- an object of the store is written -/
theorem Ext.put {a : Addr} {u : HO} (ha : a ∈ ι.drop 2) (hn : ∀ vs, H a ≠ some (.tup vs)) (nf : ∀ ob x, H a ≠ some (.frz ob x)) : Ext H ι (upd H a u) ι :=
  ⟨List.prefix_refl _, fun b vs h => by rw [upd_ne (by rintro rfl; exact hn vs h)]; exact h, fun b o h _ hb => by rw [upd_ne (by rintro rfl; exact hb ha)]; exact h, fun _ h => .inl h, fun b o x h => by rw [upd_ne (by rintro rfl; exact nf _ _ h)]; exact h⟩
theorem StR.put0 {n : Nat} {a : Addr} {u : HO} {o o' : O} (s : StR C K H ι S) (hn : S[n]? = some o) (hf : fixed o = false) (ha : ι[n]? = some a) (nf : ∀ ob x, H a ≠ some (.frz ob (.lst x))) (hf' : fixed o' = false) (ho : OA C K (upd H a u) ι a o') (hx : ∀ c, o ≠ .exc c) :
    StR C K (upd H a u) ι (S.set n o') := by
  obtain ⟨x, hxx, hnt⟩ := (s.obj n o a hn ha).some hf
  have e : Ex0 H ι (upd H a u) ι := ⟨List.prefix_refl _, fun b vs h => by rw [upd_ne (by rintro rfl; rw [hxx] at h; exact hnt vs (Option.some.inj h))]; exact h⟩
  have hlt : n < S.length := (List.getElem?_eq_some_iff.mp hn).1
  refine ⟨by rw [List.length_set]; exact s.len, s.pre, fun m y b h1 h2 => ?_, fun m k y z b h1 h2 h3 h4 => ?_, by rw [List.length_set]; exact s.two, fun m y h => ?_, tabs_upd s.tabs ((s.obj n o a hn ha).noCode hf hx).1 ((s.obj n o a hn ha).noCode hf hx).2⟩
  · by_cases hm : m = n
    · subst hm
      rw [List.getElem?_set_self hlt] at h1
      cases h1
      rw [ha] at h2; cases h2
      exact ho
    · rw [List.getElem?_set_ne (Ne.symm hm)] at h1
      refine (s.obj m y b h1 h2).upd ?_ nf e
      cases hfy : fixed y with
      | true => exact .inl rfl
      | false =>
        right
        rintro rfl
        rcases s.nd m n y o b h1 hn h2 ha with q | q | q
        · exact hm q
        · rw [hfy] at q; cases q
        · rw [hf] at q; cases q
  · have back : ∀ {m : Nat} {y : O}, (S.set n o')[m]? = some y → ∃ y', S[m]? = some y' ∧ (fixed y' = true → fixed y = true) := fun {m y} h => by
      by_cases hm : m = n
      · subst hm
        rw [List.getElem?_set_self hlt] at h
        cases h
        exact ⟨o, hn, fun q => by rw [hf] at q; cases q⟩
      · rw [List.getElem?_set_ne (Ne.symm hm)] at h
        exact ⟨y, h, fun q => q⟩
    obtain ⟨y', q1, g1⟩ := back h1
    obtain ⟨z', q2, g2⟩ := back h2
    rcases s.nd m k y' z' b q1 q2 h3 h4 with q | q | q
    · exact .inl q
    · exact .inr (.inl (g1 q))
    · exact .inr (.inr (g2 q))
  · by_cases hm : m = n
    · subst hm
      rw [List.getElem?_set_self hlt] at h
      cases h
      have q := s.fix m o hn
      rw [hf] at q
      rw [hf']
      exact q
    · rw [List.getElem?_set_ne (Ne.symm hm)] at h
      exact s.fix m y h
theorem StR.put {n : Nat} {a : Addr} {u : HO} {o o' : O} (s : StR C K H ι S) (hn : S[n]? = some o) (hf : fixed o = false) (ha : ι[n]? = some a) (nf : ∀ ob x, H a ≠ some (.frz ob x)) (hf' : fixed o' = false) (ho : OA C K (upd H a u) ι a o') (hx : ∀ c, o ≠ .exc c) :
    StR C K (upd H a u) ι (S.set n o') ∧ Ext H ι (upd H a u) ι := by
  obtain ⟨x, hxx, hnt⟩ := (s.obj n o a hn ha).some hf
  exact ⟨s.put0 hn hf ha (fun ob x z => nf _ _ z) hf' ho hx, Ext.put (s.unf hn hf ha) (fun vs z => by rw [hxx] at z; exact hnt vs (Option.some.inj z)) nf⟩
end
end NF
end -- NfRel

section -- NfExp
set_option linter.all false
set_option autoImplicit false
set_option maxRecDepth 100000
set_option maxHeartbeats 1000000
/-! Each construct of the language is the reading of its PySem tree. -/
namespace NF
open PySem PySem.Spec PyProof.Rows L2

def ER (H : Hp) (ι : List Addr) (σ : L2.St) (ρ : Env) : Prop :=
  σ.length = ρ.length ∧ ∀ (i : Nat) (d : D), ρ[i]? = some (some d) → ∃ v, σ[i]? = some (some v) ∧ DV H ι d v
theorem ER.ext {H H' : Hp} {ι ι' : List Addr} {σ : L2.St} {ρ : Env} (e : Ext H ι H' ι') (h : ER H ι σ ρ) : ER H' ι' σ ρ :=
  ⟨h.1, fun i d q => let ⟨v, h1, h2⟩ := h.2 i d q; ⟨v, h1, h2.ext e⟩⟩

/-- what an answer asks -/
def Post {α β : Type} (C : Cfg) (K : PySem.W.Frag) (W : WX) (σ : L2.St) (dv : Hp → List Addr → α → β → Prop) (H : Hp) (ι : List Addr) (r : Res α) (Q : β → Hp → Prop) : Prop := match r with
  | .ok a S => ∀ b H' ι', Ext H ι H' ι' → StR C K H' ι' S → dv H' ι' a b → Q b H'
  | .exn c S => ∀ H' ι', Ext H ι H' ι' → StR C K H' ι' S → W (.ref (C.cad c)) none σ H'
  | .bad => False
def tG {α β : Type} (C : Cfg) (K : PySem.W.Frag) (W : WX) (dv : Hp → List Addr → α → β → Prop) (m : Env → M α) : L2.St → Hp → (β → Hp → Prop) → Prop := fun σ H Q =>
  ∃ ρ S ι, ER H ι σ ρ ∧ StR C K H ι S ∧ Post C K W σ dv H ι (m ρ S) Q
abbrev BV : Hp → List Addr → Bool → Bool → Prop := fun _ _ a b => b = a
abbrev UV : Hp → List Addr → Unit → Unit → Prop := fun _ _ _ _ => True
abbrev IV : Hp → List Addr → Option Int → Option Int → Prop := fun _ _ a b => b = a
abbrev tD (C : Cfg) (K : PySem.W.Frag) (W : WX) (m : Env → M D) : TE := tG C K W DV m
abbrev tDs (C : Cfg) (K : PySem.W.Frag) (W : WX) (m : Env → M (List D)) : TA := tG C K W DVs m
abbrev tT (C : Cfg) (K : PySem.W.Frag) (W : WX) (m : Env → M Bool) : TT := tG C K W BV m

section
variable {X : Cx} {e : Expr}
theorem _root_.L2.PE.imp {t t' : TE} (h : PE X e t) (w : ∀ σ H Q, t' σ H Q → t σ H Q) : PE X e t' := ⟨fun pins s σ H Q I q => h.run pins s σ H Q I (w σ H Q q)⟩
theorem _root_.L2.PT.imp {t t' : TT} (h : PT X e t) (w : ∀ σ H Q, t' σ H Q → t σ H Q) : PT X e t' := ⟨fun pins s σ H Q I q => h.run pins s σ H Q I (w σ H Q q)⟩
theorem _root_.L2.PW.imp {t t' : TT} (h : PW X e t) (w : ∀ σ H Q, t' σ H Q → t σ H Q) : PW X e t' := ⟨fun wh pins s σ H Q I q => h.run wh pins s σ H Q I (w σ H Q q)⟩
theorem _root_.L2.PA.imp {es : List Expr} {t t' : TA} (h : PA X es t) (w : ∀ σ H Q, t' σ H Q → t σ H Q) : PA X es t' := ⟨fun pos pins s σ H Q I q => h.run pos pins s σ H Q I (w σ H Q q)⟩
theorem _root_.L2.PO.imp {eo : Option Expr} {t t' : TO} (h : PO X eo t) (w : ∀ σ H Q, t' σ H Q → t σ H Q) : PO X eo t' := ⟨fun pins s σ H Q I q => h.run pins s σ H Q I (w σ H Q q)⟩
end

section
variable {α β γ δ : Type} {C : Cfg} {K : PySem.W.Frag} {W : WX} {σ : L2.St} {H H' : Hp} {ι ι' : List Addr} {S : Store}
theorem Post.mono {dv : Hp → List Addr → α → β → Prop} {r : Res α} {Q Q' : β → Hp → Prop} (p : Post C K W σ dv H ι r Q) (h : ∀ b H', Q b H' → Q' b H') : Post C K W σ dv H ι r Q' := by
  cases r with
  | ok a S => exact fun b H' ι' e s d => h b H' (p b H' ι' e s d)
  | exn c S => exact p
  | bad => exact p
theorem Post.ext {dv : Hp → List Addr → α → β → Prop} {r : Res α} {Q : β → Hp → Prop} (p : Post C K W σ dv H ι r Q) (e : Ext H ι H' ι') : Post C K W σ dv H' ι' r Q := by
  cases r with
  | ok a S => exact fun b H2 ι2 e2 s d => p b H2 ι2 (e.trans e2) s d
  | exn c S => exact fun H2 ι2 e2 s => p H2 ι2 (e.trans e2) s
  | bad => exact p
theorem Post.bnd {dv : Hp → List Addr → α → β → Prop} {dw : Hp → List Addr → γ → δ → Prop} {m : M γ} {f : γ → M α} {Q : β → Hp → Prop} (p : Post C K W σ dv H ι (NF.bnd m f S) Q) :
    Post C K W σ dw H ι (m S) (fun d H1 => ∃ c S1 ι1, Ext H ι H1 ι1 ∧ StR C K H1 ι1 S1 ∧ dw H1 ι1 c d ∧ Post C K W σ dv H1 ι1 (f c S1) Q) := by
  unfold NF.bnd at p
  cases h : m S with
  | ok a S1 =>
    rw [h] at p
    exact fun d H1 ι1 e s q => ⟨a, S1, ι1, e, s, q, p.ext e⟩
  | exn c S1 => rw [h] at p; exact p
  | bad => rw [h] at p; exact p
theorem Post.ret {dv : Hp → List Addr → α → β → Prop} {a : α} {b : β} {Q : β → Hp → Prop} (p : Post C K W σ dv H ι (.ok a S) Q) (s : StR C K H ι S) (d : dv H ι a b) : Q b H := p b H ι (Ext.refl _ _) s d
/-- a new tuple -/
theorem Post.tup {ds : List D} {vs : List V} {p : Addr} {Q : VK} (h : Post C K W σ DV H ι (.ok (.tup ds) S) Q) (s : StR C K H ι S) (d : DVs H ι ds vs) (hp : H p = none) : Q (.ref p) (upd H p (.tup vs)) :=
  h _ _ ι (Ext.new hp) (s.hid hp) ⟨p, vs, rfl, upd_same, d.ext (Ext.new hp)⟩
/-- a new object of the store -/
theorem Post.new {o : O} {u : HO} {p : Addr} {Q : VK} (h : Post C K W σ DV H ι (NF.new o S) Q) (s : StR C K H ι S) (hp : H p = none) (hf : fixed o = false) (ho : OA C K (upd H p u) (ι ++ [p]) p o) : Q (.ref p) (upd H p u) := by
  refine h _ _ (ι ++ [p]) (Ext.laid hp) (s.laid hp ho hf) ⟨p, rfl, ?_⟩
  rw [← s.len, List.getElem?_append_right (Nat.le_refl _)]
  simp
theorem Post.lst {ds : List D} {vs : List V} {p : Addr} {Q : VK} (h : Post C K W σ DV H ι (NF.new (.lst ds) S) Q) (s : StR C K H ι S) (d : DVs H ι ds vs) (hp : H p = none) : Q (.ref p) (upd H p (.lst vs)) :=
  h.new s hp rfl ⟨vs, upd_same, d.ext (Ext.laid hp)⟩
/-- the store's object at n -/
theorem Post.obj {dv : Hp → List Addr → α → β → Prop} {n : Nat} {f : O → M α} {Q : β → Hp → Prop} (p : Post C K W σ dv H ι (NF.bnd (NF.obj n) f S) Q) : ∃ o, S[n]? = some o ∧ Post C K W σ dv H ι (f o S) Q := by
  unfold NF.bnd NF.obj at p
  cases h : S[n]? with
  | none => rw [h] at p; exact p.elim
  | some o => rw [h] at p; exact ⟨o, rfl, p⟩
theorem StR.look {n : Nat} {a : Addr} {o : O} (s : StR C K H ι S) (h : S[n]? = some o) (ha : ι[n]? = some a) : OA C K H ι a o := s.obj n o a h ha
theorem StR.put' {n : Nat} {a : Addr} {u : HO} {o o' : O} (s : StR C K H ι S) (hn : S[n]? = some o) (hf : fixed o = false) (ha : ι[n]? = some a) (nf : ∀ ob x, H a ≠ some (.frz ob x)) (hf' : fixed o' = false) (ho : Ext H ι (upd H a u) ι → OA C K (upd H a u) ι a o') (hx : ∀ c, o ≠ .exc c := by intro c h; cases h) :
    StR C K (upd H a u) ι (S.set n o') ∧ Ext H ι (upd H a u) ι := by
  obtain ⟨x, hxx, hnt⟩ := (s.obj n o a hn ha).some hf
  have e : Ext H ι (upd H a u) ι := Ext.put (s.unf hn hf ha) (fun vs z => by rw [hxx] at z; exact hnt vs (Option.some.inj z)) nf
  exact s.put hn hf ha nf hf' (ho e) hx
/-- a list is read -/
theorem Post.lstOf {dv : Hp → List Addr → α → β → Prop} {d : D} {v : V} {f : List D → M α} {Q : β → Hp → Prop} (p : Post C K W σ dv H ι (NF.bnd (NF.lstOf d) f S) Q) (s : StR C K H ι S) (r : DV H ι d v) :
    ∃ n a ds vs, d = .ref n ∧ v = .ref a ∧ ι[n]? = some a ∧ SqL K H a vs ∧ DVs H ι ds vs ∧ (S[n]? = some (.lst ds) ∧ H a = some (.lst vs) ∨ S[n]? = some (.rol ds) ∧ RolAt K H a vs) ∧ Post C K W σ dv H ι (f ds S) Q := by
  cases d with
  | ref n =>
    obtain ⟨a, rfl, ha⟩ := r
    unfold NF.lstOf at p
    unfold NF.bnd at p
    simp only at p
    unfold NF.obj at p
    cases h : S[n]? with
    | none => simp only [NF.bnd, h] at p; exact p.elim
    | some o =>
      simp only [NF.bnd, h] at p
      have q := s.look h ha
      cases o with
      | lst ds =>
        obtain ⟨vs, h1, h2⟩ := q
        exact ⟨n, a, ds, vs, rfl, rfl, ha, SqL.of h1, h2, .inl ⟨h, h1⟩, p⟩
      | rol ds =>
        obtain ⟨vs, h1, h2⟩ := q
        refine ⟨n, a, ds, vs, rfl, rfl, ha, ?_, h2, .inr ⟨h, h1⟩, p⟩
        rcases h1 with ⟨ob, h1⟩ | h1
        · exact .inl (.inr ⟨ob, h1⟩)
        · exact .inr h1
      | _ => exact p.elim
  | _ => exact p.elim
end

/-! ### by values -/
/-- f is what the layer's reading r asks -/
def BV2 (C : Cfg) (K : PySem.W.Frag) (f : D → D → M D) (r : R2) : Prop :=
  ∀ (W : WX) (σ : L2.St) (H : Hp) (ι : List Addr) (S : Store) (dx dy : D) (x y : V) (Q : VK), StR C K H ι S → DV H ι dx x → DV H ι dy y → Post C K W σ DV H ι (f dx dy S) Q → r x y H Q
def BV1s (C : Cfg) (K : PySem.W.Frag) (f : List D → M D) (r : List V → Hp → VK → Prop) : Prop :=
  ∀ (W : WX) (σ : L2.St) (H : Hp) (ι : List Addr) (S : Store) (ds : List D) (xs : List V) (Q : VK), StR C K H ι S → DVs H ι ds xs → Post C K W σ DV H ι (f ds S) Q → r xs H Q
section
variable {C : Cfg} {X : Cx} {W : WX} {a b : Expr} {ma mb : Env → M D} {pos : Pos}
abbrev bin (f : D → D → M D) (ma mb : Env → M D) : Env → M D := fun ρ => NF.bnd (ma ρ) fun x => NF.bnd (mb ρ) fun y => f x y
/-- two parts in a row -/
theorem two {α β : Type} {dv : Hp → List Addr → α → β → Prop} {ta tb : Env → M D} {σ : L2.St} {H : Hp} {Q : β → Hp → Prop} {g : D → D → Env → M α} {R : V → V → Hp → Prop}
    (h : tG C X.K W dv (fun ρ => NF.bnd (ta ρ) fun x => NF.bnd (tb ρ) fun y => g x y ρ) σ H Q)
    (k : ∀ ρ S ι dx dy x y H, ER H ι σ ρ → StR C X.K H ι S → DV H ι dx x → DV H ι dy y → Post C X.K W σ dv H ι (g dx dy ρ S) Q → R x y H) :
    tD C X.K W ta σ H fun x H1 => tD C X.K W tb σ H1 fun y H2 => R x y H2 := by
  obtain ⟨ρ, S, ι, er, sr, p⟩ := h
  refine ⟨ρ, S, ι, er, sr, (p.bnd (dw := DV)).mono ?_⟩
  rintro x H1 ⟨dx, S1, ι1, e1, s1, d1, p1⟩
  refine ⟨ρ, S1, ι1, er.ext e1, s1, (p1.bnd (dw := DV)).mono ?_⟩
  rintro y H2 ⟨dy, S2, ι2, e2, s2, d2, p2⟩
  exact k ρ S2 ι2 dx dy x y H2 ((er.ext e1).ext e2) s2 (d1.ext e2) d2 p2
theorem one {α β : Type} {dv : Hp → List Addr → α → β → Prop} {ta : Env → M D} {σ : L2.St} {H : Hp} {Q : β → Hp → Prop} {g : D → Env → M α} {R : V → Hp → Prop}
    (h : tG C X.K W dv (fun ρ => NF.bnd (ta ρ) fun x => g x ρ) σ H Q)
    (k : ∀ ρ S ι dx x H, ER H ι σ ρ → StR C X.K H ι S → DV H ι dx x → Post C X.K W σ dv H ι (g dx ρ S) Q → R x H) :
    tD C X.K W ta σ H fun x H1 => R x H1 := by
  obtain ⟨ρ, S, ι, er, sr, p⟩ := h
  refine ⟨ρ, S, ι, er, sr, (p.bnd (dw := DV)).mono ?_⟩
  rintro x H1 ⟨dx, S1, ι1, e1, s1, d1, p1⟩
  exact k ρ S1 ι1 dx x H1 (er.ext e1) s1 d1 p1
theorem ones {α β : Type} {dv : Hp → List Addr → α → β → Prop} {ta : Env → M (List D)} {σ : L2.St} {H : Hp} {Q : β → Hp → Prop} {g : List D → Env → M α} {R : List V → Hp → Prop}
    (h : tG C X.K W dv (fun ρ => NF.bnd (ta ρ) fun x => g x ρ) σ H Q)
    (k : ∀ ρ S ι dx x H, ER H ι σ ρ → StR C X.K H ι S → DVs H ι dx x → Post C X.K W σ dv H ι (g dx ρ S) Q → R x H) :
    tDs C X.K W ta σ H fun x H1 => R x H1 := by
  obtain ⟨ρ, S, ι, er, sr, p⟩ := h
  refine ⟨ρ, S, ι, er, sr, (p.bnd (dw := DVs)).mono ?_⟩
  rintro x H1 ⟨dx, S1, ι1, e1, s1, d1, p1⟩
  exact k ρ S1 ι1 dx x H1 (er.ext e1) s1 d1 p1
theorem me_op {op : Operator} {f : D → D → M D} {r : R2} (ho : OpR X (binaryOp op) r) (hb : BV2 C X.K f r) (ha : PE X a (tD C X.K W ma)) (hb' : PE X b (tD C X.K W mb)) :
    PE X (.BinOp a op b pos) (tD C X.K W (bin f ma mb)) :=
  (pe_op ho ha hb').imp fun σ H Q h => two (g := fun x y _ => f x y) h fun ρ S ι dx dy x y H2 er s d1 d2 p => hb W σ H2 ι S dx dy x y Q s d1 d2 p
theorem me_cmp {op : CmpOp} {f : D → D → M D} {r : R2} (ho : OpR X (compareOp op) r) (hb : BV2 C X.K f r) (hm : behindInMarks op b = false) (ha : PE X a (tD C X.K W ma)) (hb' : PE X b (tD C X.K W mb)) :
    PE X (.Compare a [op] [b] pos) (tD C X.K W (bin f ma mb)) :=
  (pe_cmpR ho ha hb' hm).imp fun σ H Q h => two (g := fun x y _ => f x y) h fun ρ S ι dx dy x y H2 er s d1 d2 p => hb W σ H2 ι S dx dy x y Q s d1 d2 p
end
/-- answers are truths -/
def Truths (f : D → D → M D) : Prop := ∀ x y S d S', f x y S = .ok d S' → ∃ b, d = .bl b
theorem truths_post {C : Cfg} {K : PySem.W.Frag} {W : WX} {σ : L2.St} {H : Hp} {ι : List Addr} {f : D → D → M D} (t : Truths f) {x y : D} {S : Store} {Q : Bool → Hp → Prop} (p : Post C K W σ BV H ι (NF.bnd (f x y) truthM S) Q) :
    Post C K W σ DV H ι (f x y S) fun v H' => ∃ k, v = .bl k ∧ Q k H' := by
  unfold NF.bnd at p
  cases h : f x y S with
  | ok d S1 =>
    obtain ⟨b, rfl⟩ := t x y S d S1 h
    rw [h] at p
    exact fun v H1 ι1 e s dv => ⟨b, dv, p b H1 ι1 e s rfl⟩
  | exn c S1 => rw [h] at p; exact p
  | bad => rw [h] at p; exact p
section
variable {C : Cfg} {X : Cx} {W : WX} {a b : Expr} {ma mb : Env → M D} {pos : Pos}
theorem bnd_assoc {α β γ : Type} (m : M α) (f : α → M β) (g : β → M γ) : NF.bnd (NF.bnd m f) g = NF.bnd m fun x => NF.bnd (f x) g := by
  funext S
  unfold NF.bnd
  cases m S <;> rfl
theorem mt_cmp {op : CmpOp} {f : D → D → M D} {r : R2} (ho : OpR X (compareOp op) r) (hb : BV2 C X.K f r) (t : Truths f) (hm : behindInMarks op b = false) (ha : PE X a (tD C X.K W ma)) (hb' : PE X b (tD C X.K W mb)) :
    PT X (.Compare a [op] [b] pos) (tT C X.K W fun ρ => NF.bnd (bin f ma mb ρ) truthM) :=
  (pt_cmpR ho ha hb' hm).imp fun σ H Q h => two (g := fun x y _ => NF.bnd (f x y) truthM) (by
      obtain ⟨ρ, S, ι, er, s, p⟩ := h
      refine ⟨ρ, S, ι, er, s, ?_⟩
      have e : NF.bnd (bin f ma mb ρ) truthM = NF.bnd (ma ρ) fun x => NF.bnd (mb ρ) fun y => NF.bnd (f x y) truthM := by
        unfold bin
        rw [bnd_assoc]
        congr 1
        funext x
        rw [bnd_assoc]
      have p' : Post C X.K W σ BV H ι (NF.bnd (bin f ma mb ρ) truthM S) Q := p
      rw [e] at p'
      exact p') fun ρ S ι dx dy x y H2 er s d1 d2 p => hb W σ H2 ι S dx dy x y _ s d1 d2 (truths_post t p)
end
theorem BV2.or {C : Cfg} {K : PySem.W.Frag} {f : D → D → M D} {r r' : R2} (h : ∀ (W : WX) (σ : L2.St) (H : Hp) (ι : List Addr) (S : Store) (dx dy : D) (x y : V) (Q : VK), StR C K H ι S → DV H ι dx x → DV H ι dy y → Post C K W σ DV H ι (f dx dy S) Q → r x y H Q ∨ r' x y H Q) :
    BV2 C K f (fun x y H Q => r x y H Q ∨ r' x y H Q) := h
end NF
end -- NfExp

section -- NfOps
set_option linter.all false
set_option autoImplicit false
set_option maxRecDepth 100000
set_option maxHeartbeats 1000000
/-! Operators by values. -/
namespace NF
open PySem PySem.Spec PyProof.Rows L2
section
variable {C : Cfg} {X : Cx}
theorem line_le : line ≤ sizeLine := by rw [sizeLine_eq]; decide
theorem strOf_len (x : List Nat) : (strOf x).length = x.length := by simp [strOf, Str.length]
theorem strOf_app (x y : List Nat) : strOf x ++ strOf y = strOf (x ++ y) := by
  show Str.append _ _ = _
  simp [strOf, Str.append]
theorem strOf_list (x : List Nat) : (strOf x).cps.toList = x := by simp [strOf]
theorem DVs.nil_iff {H : Hp} {ι : List Addr} {ds : List D} {vs : List V} (h : DVs H ι ds vs) : vs = [] ↔ ds = [] := by
  have := h.len
  cases ds <;> cases vs <;> simp_all
def rAddD (K : PySem.W.Frag) : R2 := fun x y H Q => (rI0 fun i j => .int (i + j)) x y H Q ∨ (∃ i j, x = .str i ∧ y = .str j ∧ i.length + j.length ≤ sizeLine ∧ Q (.str (i ++ j)) H) ∨ rCatA K x y H Q ∨ rCat x y H Q
theorem op_addD : OpR X (binaryOp .Add) (rAddD X.K) := op_add.or (op_add_str.or (op_catA.or op_cat))
theorem bv_add : BV2 C X.K addD (rAddD X.K) := by
  intro W σ H ι S dx dy x y Q s d1 d2 p
  cases dx <;> cases dy <;> try exact p.elim
  case int.int i j =>
    simp only [DV] at d1 d2
    exact .inl ⟨i, j, d1, d2, p.ret s rfl⟩
  case str.str i j =>
    simp only [DV] at d1 d2
    unfold addD at p
    simp only at p
    split at p
    · rename_i hl
      refine .inr (.inl ⟨_, _, d1.1, d2.1, by rw [strOf_len, strOf_len]; exact Nat.le_trans hl line_le, ?_⟩)
      exact p.ret s (by rw [DV, strOf_app]; exact ⟨rfl, by have a := d1.2; have b := d2.2; unfold okS at *; rw [List.all_append, a, b] <;> rfl⟩)
    · exact p.elim
  case tup.tup as bs =>
    simp only [DV] at d1 d2
    obtain ⟨a, vs, rfl, ha, ra⟩ := d1
    obtain ⟨b, us, rfl, hb, rb⟩ := d2
    unfold addD at p
    simp only at p
    split at p
    · rename_i hl
      refine .inr (.inr (.inl ⟨a, b, vs, us, rfl, rfl, SqT.of ha, SqT.of hb, by rw [ra.len, rb.len]; exact Nat.le_trans hl line_le, fun e => ?_, fun _ e => ?_, fun _ _ q hq => ?_⟩))
      · have e' := ra.nil_iff.mp e
        subst e'
        exact p.ret s ⟨b, us, rfl, hb, rb⟩
      · have e' := rb.nil_iff.mp e
        subst e'
        rw [List.append_nil] at p
        exact p.ret s ⟨a, vs, rfl, ha, ra⟩
      · exact p.tup s (ra.app rb) hq
    · exact p.elim
  case ref.ref n m =>
    obtain ⟨o, ho, p⟩ := Post.obj (f := fun o => NF.bnd (NF.obj m) fun u => match o, u with
      | .lst a, .lst b => if a.length + b.length ≤ line then NF.new (.lst (a ++ b)) else bad
      | _, _ => bad) p
    obtain ⟨u, hu, p⟩ := p.obj
    simp only [DV] at d1 d2
    obtain ⟨a, rfl, ha⟩ := d1
    obtain ⟨b, rfl, hb⟩ := d2
    cases o <;> try exact p.elim
    cases u <;> try exact p.elim
    rename_i as bs
    obtain ⟨vs, h1, r1⟩ := s.look ho ha
    obtain ⟨us, h2, r2⟩ := s.look hu hb
    simp only at p
    split at p
    · rename_i hl
      refine .inr (.inr (.inr ⟨a, b, vs, us, rfl, rfl, h1, h2, by rw [r1.len, r2.len]; exact Nat.le_trans hl line_le, fun q hq => ?_⟩))
      exact p.lst s (r1.app r2) hq
    · exact p.elim
theorem intB_post {K : PySem.W.Frag} {W : WX} {σ : L2.St} {H : Hp} {ι : List Addr} {S : Store} {f : Int → Int → M D} {dx dy : D} {x y : V} {Q : VK} (d1 : DV H ι dx x) (d2 : DV H ι dy y) (p : Post C K W σ DV H ι (intB f dx dy S) Q) :
    ∃ i j, x = .int i ∧ y = .int j ∧ Post C K W σ DV H ι (f i j S) Q := by
  cases dx <;> cases dy <;> try exact p.elim
  exact ⟨_, _, d1, d2, p⟩
theorem bv_sub : BV2 C X.K (binD .sub) (rI0 fun i j => .int (i - j)) := by
  intro W σ H ι S dx dy x y Q s d1 d2 p
  obtain ⟨i, j, e1, e2, p⟩ := intB_post d1 d2 p
  exact ⟨i, j, e1, e2, p.ret s rfl⟩
theorem bv_md : BV2 C X.K (binD .md) (rI (fun _ j => 0 < j) fun i j => .int (i % j)) := by
  intro W σ H ι S dx dy x y Q s d1 d2 p
  obtain ⟨i, j, e1, e2, p⟩ := intB_post d1 d2 p
  split at p
  · rename_i h
    exact ⟨i, j, e1, e2, h, p.ret s rfl⟩
  · exact p.elim
theorem bv_fd : BV2 C X.K (binD .fd) (rI CDiv fun i j => .int (i / j)) := by
  intro W σ H ι S dx dy x y Q s d1 d2 p
  obtain ⟨i, j, e1, e2, p⟩ := intB_post d1 d2 p
  split at p
  · rename_i h
    simp only [Bool.and_eq_true, decide_eq_true_eq] at h
    exact ⟨i, j, e1, e2, h, p.ret s rfl⟩
  · exact p.elim
theorem small_iff {i : Int} : small i = true ↔ -(2 ^ 62) < i ∧ i < 2 ^ 62 := by simp [small]
theorem bv_pw : BV2 C X.K (binD .pw) (rI CPow fun i j => .int (i ^ j.toNat)) := by
  intro W σ H ι S dx dy x y Q s d1 d2 p
  obtain ⟨i, j, e1, e2, p⟩ := intB_post d1 d2 p
  split at p
  · rename_i h
    simp only [Bool.and_eq_true, decide_eq_true_eq, small_iff] at h
    exact ⟨i, j, e1, e2, ⟨h.1.1, by omega, by omega⟩, p.ret s rfl⟩
  · exact p.elim
def rMulD : R2 := fun x y H Q => (rI CMul fun i j => .int (i * j)) x y H Q ∨ rRep x y H Q
theorem op_mulD : OpR X (binaryOp .Mult) rMulD := op_mul.or op_rep
theorem DVs.repl {H : Hp} {ι : List Addr} {ds : List D} {vs : List V} (h : DVs H ι ds vs) : ∀ k : Nat, DVs H ι (List.replicate k ds).flatten (List.replicate k vs).flatten
  | 0 => rfl
  | k + 1 => by
    rw [List.replicate_succ, List.replicate_succ, List.flatten_cons, List.flatten_cons]
    exact h.app (DVs.repl h k)
theorem bv_mul : BV2 C X.K mulD rMulD := by
  intro W σ H ι S dx dy x y Q s d1 d2 p
  cases dx <;> cases dy <;> try exact p.elim
  case int.int i j =>
    simp only [DV] at d1 d2
    unfold mulD at p
    simp only at p
    split at p
    · rename_i h
      refine .inl ⟨i, j, d1, d2, ?_, p.ret s rfl⟩
      simp only [Bool.or_eq_true, small_iff] at h
      unfold CMul
      omega
    · exact p.elim
  case ref.int n k =>
    obtain ⟨o, ho, p⟩ := Post.obj (f := fun o => match o with
      | .lst a => if small k && decide (a.length * k.toNat ≤ line) then NF.new (.lst (List.replicate k.toNat a).flatten) else bad
      | _ => bad) p
    simp only [DV] at d1 d2
    obtain ⟨a, rfl, ha⟩ := d1
    cases o <;> try exact p.elim
    obtain ⟨vs, h1, r1⟩ := s.look ho ha
    simp only at p
    split at p
    · rename_i h
      simp only [Bool.and_eq_true, decide_eq_true_eq, small_iff] at h
      refine .inr ⟨a, k, vs, rfl, d2, h1, by omega, by omega, ?_, fun q hq => p.lst s (r1.repl _) hq⟩
      rw [r1.len]
      exact Nat.le_trans h.2 line_le
    · exact p.elim

/-! ### == -/
mutual
theorem tree_dp {K : PySem.W.Frag} {H : Hp} {ι : List Addr} {S : Store} (s : StR C K H ι S) : ∀ (k : Nat) (d : D) (v : V) (t : PyData), tree S k d = some t → DV H ι d v → Dp K H v t
  | k, d, v, t, e, r => by
    cases d with
    | non => rw [tree] at e; cases e; rw [DV] at r; subst r; exact .non
    | bl b => rw [tree] at e; cases e; rw [DV] at r; subst r; exact .bl b
    | int i => rw [tree] at e; cases e; rw [DV] at r; subst r; exact .int i
    | str x => rw [tree] at e; cases e; rw [DV] at r; obtain ⟨rfl, _⟩ := r; exact .str _
    | tup ds =>
      cases k with
      | zero => rw [tree] at e; cases e
      | succ k =>
        rw [tree] at e
        cases h : mapO (tree S k) ds with
        | none => rw [h] at e; cases e
        | some ts =>
          rw [h] at e; cases e
          obtain ⟨a, vs, rfl, ha, rd⟩ := r
          exact .tup (SqT.of ha) (trees_dp s k ds vs ts h rd)
    | ref n =>
      cases k with
      | zero => rw [tree] at e; cases e
      | succ k =>
        rw [tree] at e
        obtain ⟨a, rfl, ha⟩ := r
        cases ho : S[n]? with
        | none => rw [ho] at e; cases e
        | some o =>
          rw [ho] at e
          have q := s.look ho ha
          cases o with
          | lst ds =>
            simp only at e
            obtain ⟨vs, h1, h2⟩ := q
            cases h : mapO (tree S k) ds with
            | none => rw [h] at e; cases e
            | some ts => rw [h] at e; cases e; exact .lst (SqL.of h1) (trees_dp s k ds vs ts h h2)
          | rol ds =>
            simp only at e
            obtain ⟨vs, h1, h2⟩ := q
            cases h : mapO (tree S k) ds with
            | none => rw [h] at e; cases e
            | some ts =>
              rw [h] at e; cases e
              refine .lst ?_ (trees_dp s k ds vs ts h h2)
              rcases h1 with ⟨ob, h1⟩ | h1
              · exact .inl (.inr ⟨ob, h1⟩)
              · exact .inr h1
          | _ => cases e
  termination_by k d => (k, 0, 0)
theorem trees_dp {K : PySem.W.Frag} {H : Hp} {ι : List Addr} {S : Store} (s : StR C K H ι S) : ∀ (k : Nat) (ds : List D) (vs : List V) (ts : List PyData), mapO (tree S k) ds = some ts → DVs H ι ds vs → DpAll K H vs ts
  | k, [], vs, ts, e, r => by
    rw [mapO] at e; cases e
    rw [DVs] at r; subst r
    exact .nil
  | k, d :: ds, vs, ts, e, r => by
    rw [mapO] at e
    obtain ⟨v, q, rfl, h1, h2⟩ := r
    cases e1 : tree S k d with
    | none => rw [e1] at e; cases e
    | some t =>
      cases e2 : mapO (tree S k) ds with
      | none => rw [e1, e2] at e; cases e
      | some us =>
        rw [e1, e2] at e; cases e
        exact .cons (tree_dp s k d v t e1 h1) (trees_dp s k ds q us e2 h2)
  termination_by k ds => (k, 1, ds.length)
end
mutual
theorem tree_lay {K : PySem.W.Frag} {H : Hp} {ι : List Addr} {S : Store} (s : StR C K H ι S) : ∀ (k : Nat) (d : D) (v : V) (t : PyData), tree S k d = some t → DV H ι d v → t.canLay0 = true ∧ t.depth ≤ k
  | k, d, v, t, e, r => by
    cases d with
    | non => rw [tree] at e; cases e; exact ⟨rfl, by simp [PyData.depth]⟩
    | bl b => rw [tree] at e; cases e; exact ⟨rfl, by simp [PyData.depth]⟩
    | int i => rw [tree] at e; cases e; exact ⟨rfl, by simp [PyData.depth]⟩
    | str x =>
      rw [tree] at e; cases e
      rw [DV] at r
      refine ⟨?_, by simp [PyData.depth]⟩
      have h := r.2
      unfold okS at h
      simpa [PyData.canLay0, PyData.strOk, strOf] using h
    | tup ds =>
      cases k with
      | zero => rw [tree] at e; cases e
      | succ k =>
        rw [tree] at e
        cases h : mapO (tree S k) ds with
        | none => rw [h] at e; cases e
        | some ts =>
          rw [h] at e; cases e
          obtain ⟨a, vs, rfl, ha, rd⟩ := r
          obtain ⟨h1, h2⟩ := trees_lay s k ds vs ts h rd
          exact ⟨h1, by rw [PyData.depth]; omega⟩
    | ref n =>
      cases k with
      | zero => rw [tree] at e; cases e
      | succ k =>
        rw [tree] at e
        obtain ⟨a, rfl, ha⟩ := r
        cases ho : S[n]? with
        | none => rw [ho] at e; cases e
        | some o =>
          rw [ho] at e
          have q := s.look ho ha
          cases o with
          | lst ds =>
            simp only at e
            obtain ⟨vs, _, rd⟩ := q
            cases h : mapO (tree S k) ds with
            | none => rw [h] at e; cases e
            | some ts =>
              rw [h] at e; cases e
              obtain ⟨h1, h2⟩ := trees_lay s k ds vs ts h rd
              exact ⟨h1, by rw [PyData.depth]; omega⟩
          | rol ds =>
            simp only at e
            obtain ⟨vs, _, rd⟩ := q
            cases h : mapO (tree S k) ds with
            | none => rw [h] at e; cases e
            | some ts =>
              rw [h] at e; cases e
              obtain ⟨h1, h2⟩ := trees_lay s k ds vs ts h rd
              exact ⟨h1, by rw [PyData.depth]; omega⟩
          | _ => cases e
  termination_by k d => (k, 0, 0)
theorem trees_lay {K : PySem.W.Frag} {H : Hp} {ι : List Addr} {S : Store} (s : StR C K H ι S) : ∀ (k : Nat) (ds : List D) (vs : List V) (ts : List PyData), mapO (tree S k) ds = some ts → DVs H ι ds vs → PyData.canLayAll0 ts = true ∧ PyData.depthAll ts ≤ k
  | k, [], vs, ts, e, r => by
    rw [mapO] at e; cases e
    exact ⟨rfl, by simp [PyData.depthAll]⟩
  | k, d :: ds, vs, ts, e, r => by
    rw [mapO] at e
    obtain ⟨v, q, rfl, h1, h2⟩ := r
    cases e1 : tree S k d with
    | none => rw [e1] at e; cases e
    | some t =>
      cases e2 : mapO (tree S k) ds with
      | none => rw [e1, e2] at e; cases e
      | some us =>
        rw [e1, e2] at e; cases e
        obtain ⟨a1, a2⟩ := tree_lay s k d v t e1 h1
        obtain ⟨b1, b2⟩ := trees_lay s k ds q us e2 h2
        exact ⟨by rw [PyData.canLayAll0, a1, b1] <;> rfl, by rw [PyData.depthAll]; omega⟩
  termination_by k ds => (k, 1, ds.length)
end
theorem tree_shaped {K : PySem.W.Frag} {H : Hp} {ι : List Addr} {S : Store} (s : StR C K H ι S) {d : D} {v : V} {t : PyData} (e : tree S 8 d = some t) (r : DV H ι d v) : SeqAt.shaped t = true := by
  obtain ⟨h1, h2⟩ := tree_lay s 8 d v t e r
  unfold SeqAt.shaped
  rw [h1, decide_eq_true (by omega : t.depth ≤ 64)] <;> rfl
end
end NF
end -- NfOps

section -- NfOrd0
set_option linter.all false
set_option autoImplicit false
set_option maxRecDepth 100000
set_option maxHeartbeats 4000000
/-! The order of tuples whose items are comparable up to the first that differ. -/
namespace NFO
open PySem PySem.SeqAt
open PySem.AutoSeq1 (wpAny_loadPart')
open PySem.MeetsSeq PySem.MeetsSeq2 PySem.MeetsSeq3

theorem ord_ltAt (l b : Addr) (items items2 : Array Value) (n n2 : Nat) (dd dd2 : Option Addr) (sl sl2 : Array (Option Value)) (e : Nat → Bool) (k : Nat) (res : Bool) :
    Meets (Builtin.«tuple.__lt__» ⟨[.ref l, .ref b], []⟩)
      (fun A R s => s.heap.get? l = some { cls := .type "tuple", dict := dd, data := .seq items n, slots := sl } ∧ s.heap.get? b = some { cls := .type "tuple", dict := dd2, data := .seq items2 n2, slots := sl2 } ∧
        (∀ j (h1 : j < items.size) (h2 : j < items2.size), EqAt A.in1 s items[j] items2[j] (e j)) ∧
        (k ≤ min items.size items2.size ∧ (∀ j, j < k → e j = true) ∧ (∀ (h1 : k < items.size) (h2 : k < items2.size), e k = false ∧ Ob.RcOp .Lt A.in1 s items[k] items2[k] res) ∧ (k = min items.size items2.size → res = decide (items.size < items2.size))) ∧
        R (.ok (.ret (.bool res))) s) :=
  .of_wp fun prog w A R s h => by
    obtain ⟨hp, g, d, tk, os⟩ := s
    obtain ⟨hl, hb, he, ⟨hk, hup, hat, hend⟩, h⟩ := h
    have f2 := AutoSeq1.sub_tuple_tuple
    have hZ : (items.toList.zip items2.toList).length = min items.size items2.size := by simp
    wp_walk using wpAny_loadPart' hl, wpAny_loadPart' hb, wpAny_forIn_list _ (fun rest b s' => b.1 = none ∧ s' = ⟨hp, g, d, tk, os⟩ ∧ ∃ i, i ≤ k ∧ rest = (items.toList.zip items2.toList).drop i) _
    case turn =>
      rintro ⟨y, x⟩ rest b s' ⟨hb', rfl, i, hik, hz⟩
      have hlt : i < (items.toList.zip items2.toList).length := by
        rcases Nat.lt_or_ge i (items.toList.zip items2.toList).length with h' | h'
        · exact h'
        · rw [List.drop_of_length_le h'] at hz
          cases hz
      have hm : i < min items.size items2.size := hZ ▸ hlt
      have h1 : i < items.size := Nat.lt_of_lt_of_le hm (Nat.min_le_left _ _)
      have h2 : i < items2.size := Nat.lt_of_lt_of_le hm (Nat.min_le_right _ _)
      rw [List.drop_eq_getElem_cons hlt] at hz
      injection hz with hyx hrest
      have hy : y = items[i] := by simpa using congrArg Prod.fst hyx
      have hx : x = items2[i] := by simpa using congrArg Prod.snd hyx
      subst hy hx
      refine wpAny_bind (he i h1 h2 prog w _ _ ?_)
      by_cases hi : i < k
      · rw [hup i hi]
        wp_walk
        exact ⟨rfl, rfl, i + 1, hi, hrest⟩
      · have ei : i = k := Nat.le_antisymm hik (Nat.not_lt.mp hi)
        subst ei
        obtain ⟨hek, hrk⟩ := hat h1 h2
        rw [hek]
        have hri := hrk prog w
        wp_walk using hri
        exact ⟨_, rfl, h⟩
    case fin =>
      rintro ⟨b1, b2⟩ s' ⟨hb', rfl, i, hik, hz⟩
      simp only at hb'
      subst hb'
      have hge : min items.size items2.size ≤ i := by
        rcases Nat.lt_or_ge i (items.toList.zip items2.toList).length with h' | h'
        · rw [List.drop_eq_getElem_cons h'] at hz
          cases hz
        · exact hZ ▸ h'
      have er := hend (by omega)
      wp_walk
      refine ⟨_, rfl, ?_⟩
      rw [er] at h
      simpa [Builtin.Tuple.tupleCompareSizes] using h
    case h => exact ⟨rfl, rfl, 0, Nat.zero_le _, rfl⟩
theorem rc_lt {A : Around} {s : Shared} {l b : Addr} {items items2 : Array Value} {e : Nat → Bool} {k : Nat} {res : Bool} (hl : s.heap.IsTuple l items) (hb : s.heap.IsTuple b items2) (hu : A.units < cLine)
    (he : ∀ j (h1 : j < items.size) (h2 : j < items2.size), EqAt A.in1 s items[j] items2[j] (e j)) (hk : k ≤ min items.size items2.size) (hup : ∀ j, j < k → e j = true)
    (hat : ∀ (h1 : k < items.size) (h2 : k < items2.size), e k = false ∧ Ob.RcOp .Lt A.in1 s items[k] items2[k] res) (hend : k = min items.size items2.size → res = decide (items.size < items2.size)) :
    Ob.RcOp .Lt A s (.ref l) (.ref b) res := fun prog w E Q h => by
  obtain ⟨⟨cls, dd, data, sl⟩, ho, hc, n, hd⟩ := id hl
  obtain ⟨⟨cls2, dd2, data2, sl2⟩, ho2, hc2, n2, hd2⟩ := id hb
  simp only at hc hd hc2 hd2
  subst hc hd hc2 hd2
  exact richCompare_meets_room (op := .Lt) ⟨_, ho, rfl⟩ ⟨_, ho2, rfl⟩ F.slot_tuple_lt F.entry_tuple_lt (F.args_tuple_lt_2 _ _) (ord_ltAt l b items items2 n n2 dd dd2 sl sl2 e k res)
    ⟨ho, ho2, he, ⟨hk, hup, hat, hend⟩, ⟨(fun x => nomatch x), h⟩⟩ hu

theorem ord_leAt (l b : Addr) (items items2 : Array Value) (n n2 : Nat) (dd dd2 : Option Addr) (sl sl2 : Array (Option Value)) (e : Nat → Bool) (k : Nat) (res : Bool) :
    Meets (Builtin.«tuple.__le__» ⟨[.ref l, .ref b], []⟩)
      (fun A R s => s.heap.get? l = some { cls := .type "tuple", dict := dd, data := .seq items n, slots := sl } ∧ s.heap.get? b = some { cls := .type "tuple", dict := dd2, data := .seq items2 n2, slots := sl2 } ∧
        (∀ j (h1 : j < items.size) (h2 : j < items2.size), EqAt A.in1 s items[j] items2[j] (e j)) ∧
        (k ≤ min items.size items2.size ∧ (∀ j, j < k → e j = true) ∧ (∀ (h1 : k < items.size) (h2 : k < items2.size), e k = false ∧ Ob.RcOp .LtE A.in1 s items[k] items2[k] res) ∧ (k = min items.size items2.size → res = decide (items.size ≤ items2.size))) ∧
        R (.ok (.ret (.bool res))) s) :=
  .of_wp fun prog w A R s h => by
    obtain ⟨hp, g, d, tk, os⟩ := s
    obtain ⟨hl, hb, he, ⟨hk, hup, hat, hend⟩, h⟩ := h
    have f2 := AutoSeq1.sub_tuple_tuple
    have hZ : (items.toList.zip items2.toList).length = min items.size items2.size := by simp
    wp_walk using wpAny_loadPart' hl, wpAny_loadPart' hb, wpAny_forIn_list _ (fun rest b s' => b.1 = none ∧ s' = ⟨hp, g, d, tk, os⟩ ∧ ∃ i, i ≤ k ∧ rest = (items.toList.zip items2.toList).drop i) _
    case turn =>
      rintro ⟨y, x⟩ rest b s' ⟨hb', rfl, i, hik, hz⟩
      have hlt : i < (items.toList.zip items2.toList).length := by
        rcases Nat.lt_or_ge i (items.toList.zip items2.toList).length with h' | h'
        · exact h'
        · rw [List.drop_of_length_le h'] at hz
          cases hz
      have hm : i < min items.size items2.size := hZ ▸ hlt
      have h1 : i < items.size := Nat.lt_of_lt_of_le hm (Nat.min_le_left _ _)
      have h2 : i < items2.size := Nat.lt_of_lt_of_le hm (Nat.min_le_right _ _)
      rw [List.drop_eq_getElem_cons hlt] at hz
      injection hz with hyx hrest
      have hy : y = items[i] := by simpa using congrArg Prod.fst hyx
      have hx : x = items2[i] := by simpa using congrArg Prod.snd hyx
      subst hy hx
      refine wpAny_bind (he i h1 h2 prog w _ _ ?_)
      by_cases hi : i < k
      · rw [hup i hi]
        wp_walk
        exact ⟨rfl, rfl, i + 1, hi, hrest⟩
      · have ei : i = k := Nat.le_antisymm hik (Nat.not_lt.mp hi)
        subst ei
        obtain ⟨hek, hrk⟩ := hat h1 h2
        rw [hek]
        have hri := hrk prog w
        wp_walk using hri
        exact ⟨_, rfl, h⟩
    case fin =>
      rintro ⟨b1, b2⟩ s' ⟨hb', rfl, i, hik, hz⟩
      simp only at hb'
      subst hb'
      have hge : min items.size items2.size ≤ i := by
        rcases Nat.lt_or_ge i (items.toList.zip items2.toList).length with h' | h'
        · rw [List.drop_eq_getElem_cons h'] at hz
          cases hz
        · exact hZ ▸ h'
      have er := hend (by omega)
      wp_walk
      refine ⟨_, rfl, ?_⟩
      rw [er] at h
      simpa [Builtin.Tuple.tupleCompareSizes] using h
    case h => exact ⟨rfl, rfl, 0, Nat.zero_le _, rfl⟩
theorem rc_le {A : Around} {s : Shared} {l b : Addr} {items items2 : Array Value} {e : Nat → Bool} {k : Nat} {res : Bool} (hl : s.heap.IsTuple l items) (hb : s.heap.IsTuple b items2) (hu : A.units < cLine)
    (he : ∀ j (h1 : j < items.size) (h2 : j < items2.size), EqAt A.in1 s items[j] items2[j] (e j)) (hk : k ≤ min items.size items2.size) (hup : ∀ j, j < k → e j = true)
    (hat : ∀ (h1 : k < items.size) (h2 : k < items2.size), e k = false ∧ Ob.RcOp .LtE A.in1 s items[k] items2[k] res) (hend : k = min items.size items2.size → res = decide (items.size ≤ items2.size)) :
    Ob.RcOp .LtE A s (.ref l) (.ref b) res := fun prog w E Q h => by
  obtain ⟨⟨cls, dd, data, sl⟩, ho, hc, n, hd⟩ := id hl
  obtain ⟨⟨cls2, dd2, data2, sl2⟩, ho2, hc2, n2, hd2⟩ := id hb
  simp only at hc hd hc2 hd2
  subst hc hd hc2 hd2
  exact richCompare_meets_room (op := .LtE) ⟨_, ho, rfl⟩ ⟨_, ho2, rfl⟩ F.slot_tuple_le F.entry_tuple_le (F.args_tuple_le_2 _ _) (ord_leAt l b items items2 n n2 dd dd2 sl sl2 e k res)
    ⟨ho, ho2, he, ⟨hk, hup, hat, hend⟩, ⟨(fun x => nomatch x), h⟩⟩ hu

theorem ord_gtAt (l b : Addr) (items items2 : Array Value) (n n2 : Nat) (dd dd2 : Option Addr) (sl sl2 : Array (Option Value)) (e : Nat → Bool) (k : Nat) (res : Bool) :
    Meets (Builtin.«tuple.__gt__» ⟨[.ref l, .ref b], []⟩)
      (fun A R s => s.heap.get? l = some { cls := .type "tuple", dict := dd, data := .seq items n, slots := sl } ∧ s.heap.get? b = some { cls := .type "tuple", dict := dd2, data := .seq items2 n2, slots := sl2 } ∧
        (∀ j (h1 : j < items.size) (h2 : j < items2.size), EqAt A.in1 s items[j] items2[j] (e j)) ∧
        (k ≤ min items.size items2.size ∧ (∀ j, j < k → e j = true) ∧ (∀ (h1 : k < items.size) (h2 : k < items2.size), e k = false ∧ Ob.RcOp .Gt A.in1 s items[k] items2[k] res) ∧ (k = min items.size items2.size → res = decide (items.size > items2.size))) ∧
        R (.ok (.ret (.bool res))) s) :=
  .of_wp fun prog w A R s h => by
    obtain ⟨hp, g, d, tk, os⟩ := s
    obtain ⟨hl, hb, he, ⟨hk, hup, hat, hend⟩, h⟩ := h
    have f2 := AutoSeq1.sub_tuple_tuple
    have hZ : (items.toList.zip items2.toList).length = min items.size items2.size := by simp
    wp_walk using wpAny_loadPart' hl, wpAny_loadPart' hb, wpAny_forIn_list _ (fun rest b s' => b.1 = none ∧ s' = ⟨hp, g, d, tk, os⟩ ∧ ∃ i, i ≤ k ∧ rest = (items.toList.zip items2.toList).drop i) _
    case turn =>
      rintro ⟨y, x⟩ rest b s' ⟨hb', rfl, i, hik, hz⟩
      have hlt : i < (items.toList.zip items2.toList).length := by
        rcases Nat.lt_or_ge i (items.toList.zip items2.toList).length with h' | h'
        · exact h'
        · rw [List.drop_of_length_le h'] at hz
          cases hz
      have hm : i < min items.size items2.size := hZ ▸ hlt
      have h1 : i < items.size := Nat.lt_of_lt_of_le hm (Nat.min_le_left _ _)
      have h2 : i < items2.size := Nat.lt_of_lt_of_le hm (Nat.min_le_right _ _)
      rw [List.drop_eq_getElem_cons hlt] at hz
      injection hz with hyx hrest
      have hy : y = items[i] := by simpa using congrArg Prod.fst hyx
      have hx : x = items2[i] := by simpa using congrArg Prod.snd hyx
      subst hy hx
      refine wpAny_bind (he i h1 h2 prog w _ _ ?_)
      by_cases hi : i < k
      · rw [hup i hi]
        wp_walk
        exact ⟨rfl, rfl, i + 1, hi, hrest⟩
      · have ei : i = k := Nat.le_antisymm hik (Nat.not_lt.mp hi)
        subst ei
        obtain ⟨hek, hrk⟩ := hat h1 h2
        rw [hek]
        have hri := hrk prog w
        wp_walk using hri
        exact ⟨_, rfl, h⟩
    case fin =>
      rintro ⟨b1, b2⟩ s' ⟨hb', rfl, i, hik, hz⟩
      simp only at hb'
      subst hb'
      have hge : min items.size items2.size ≤ i := by
        rcases Nat.lt_or_ge i (items.toList.zip items2.toList).length with h' | h'
        · rw [List.drop_eq_getElem_cons h'] at hz
          cases hz
        · exact hZ ▸ h'
      have er := hend (by omega)
      wp_walk
      refine ⟨_, rfl, ?_⟩
      rw [er] at h
      simpa [Builtin.Tuple.tupleCompareSizes] using h
    case h => exact ⟨rfl, rfl, 0, Nat.zero_le _, rfl⟩
theorem rc_gt {A : Around} {s : Shared} {l b : Addr} {items items2 : Array Value} {e : Nat → Bool} {k : Nat} {res : Bool} (hl : s.heap.IsTuple l items) (hb : s.heap.IsTuple b items2) (hu : A.units < cLine)
    (he : ∀ j (h1 : j < items.size) (h2 : j < items2.size), EqAt A.in1 s items[j] items2[j] (e j)) (hk : k ≤ min items.size items2.size) (hup : ∀ j, j < k → e j = true)
    (hat : ∀ (h1 : k < items.size) (h2 : k < items2.size), e k = false ∧ Ob.RcOp .Gt A.in1 s items[k] items2[k] res) (hend : k = min items.size items2.size → res = decide (items.size > items2.size)) :
    Ob.RcOp .Gt A s (.ref l) (.ref b) res := fun prog w E Q h => by
  obtain ⟨⟨cls, dd, data, sl⟩, ho, hc, n, hd⟩ := id hl
  obtain ⟨⟨cls2, dd2, data2, sl2⟩, ho2, hc2, n2, hd2⟩ := id hb
  simp only at hc hd hc2 hd2
  subst hc hd hc2 hd2
  exact richCompare_meets_room (op := .Gt) ⟨_, ho, rfl⟩ ⟨_, ho2, rfl⟩ F.slot_tuple_gt F.entry_tuple_gt (F.args_tuple_gt_2 _ _) (ord_gtAt l b items items2 n n2 dd dd2 sl sl2 e k res)
    ⟨ho, ho2, he, ⟨hk, hup, hat, hend⟩, ⟨(fun x => nomatch x), h⟩⟩ hu

theorem ord_geAt (l b : Addr) (items items2 : Array Value) (n n2 : Nat) (dd dd2 : Option Addr) (sl sl2 : Array (Option Value)) (e : Nat → Bool) (k : Nat) (res : Bool) :
    Meets (Builtin.«tuple.__ge__» ⟨[.ref l, .ref b], []⟩)
      (fun A R s => s.heap.get? l = some { cls := .type "tuple", dict := dd, data := .seq items n, slots := sl } ∧ s.heap.get? b = some { cls := .type "tuple", dict := dd2, data := .seq items2 n2, slots := sl2 } ∧
        (∀ j (h1 : j < items.size) (h2 : j < items2.size), EqAt A.in1 s items[j] items2[j] (e j)) ∧
        (k ≤ min items.size items2.size ∧ (∀ j, j < k → e j = true) ∧ (∀ (h1 : k < items.size) (h2 : k < items2.size), e k = false ∧ Ob.RcOp .GtE A.in1 s items[k] items2[k] res) ∧ (k = min items.size items2.size → res = decide (items.size ≥ items2.size))) ∧
        R (.ok (.ret (.bool res))) s) :=
  .of_wp fun prog w A R s h => by
    obtain ⟨hp, g, d, tk, os⟩ := s
    obtain ⟨hl, hb, he, ⟨hk, hup, hat, hend⟩, h⟩ := h
    have f2 := AutoSeq1.sub_tuple_tuple
    have hZ : (items.toList.zip items2.toList).length = min items.size items2.size := by simp
    wp_walk using wpAny_loadPart' hl, wpAny_loadPart' hb, wpAny_forIn_list _ (fun rest b s' => b.1 = none ∧ s' = ⟨hp, g, d, tk, os⟩ ∧ ∃ i, i ≤ k ∧ rest = (items.toList.zip items2.toList).drop i) _
    case turn =>
      rintro ⟨y, x⟩ rest b s' ⟨hb', rfl, i, hik, hz⟩
      have hlt : i < (items.toList.zip items2.toList).length := by
        rcases Nat.lt_or_ge i (items.toList.zip items2.toList).length with h' | h'
        · exact h'
        · rw [List.drop_of_length_le h'] at hz
          cases hz
      have hm : i < min items.size items2.size := hZ ▸ hlt
      have h1 : i < items.size := Nat.lt_of_lt_of_le hm (Nat.min_le_left _ _)
      have h2 : i < items2.size := Nat.lt_of_lt_of_le hm (Nat.min_le_right _ _)
      rw [List.drop_eq_getElem_cons hlt] at hz
      injection hz with hyx hrest
      have hy : y = items[i] := by simpa using congrArg Prod.fst hyx
      have hx : x = items2[i] := by simpa using congrArg Prod.snd hyx
      subst hy hx
      refine wpAny_bind (he i h1 h2 prog w _ _ ?_)
      by_cases hi : i < k
      · rw [hup i hi]
        wp_walk
        exact ⟨rfl, rfl, i + 1, hi, hrest⟩
      · have ei : i = k := Nat.le_antisymm hik (Nat.not_lt.mp hi)
        subst ei
        obtain ⟨hek, hrk⟩ := hat h1 h2
        rw [hek]
        have hri := hrk prog w
        wp_walk using hri
        exact ⟨_, rfl, h⟩
    case fin =>
      rintro ⟨b1, b2⟩ s' ⟨hb', rfl, i, hik, hz⟩
      simp only at hb'
      subst hb'
      have hge : min items.size items2.size ≤ i := by
        rcases Nat.lt_or_ge i (items.toList.zip items2.toList).length with h' | h'
        · rw [List.drop_eq_getElem_cons h'] at hz
          cases hz
        · exact hZ ▸ h'
      have er := hend (by omega)
      wp_walk
      refine ⟨_, rfl, ?_⟩
      rw [er] at h
      simpa [Builtin.Tuple.tupleCompareSizes] using h
    case h => exact ⟨rfl, rfl, 0, Nat.zero_le _, rfl⟩
theorem rc_ge {A : Around} {s : Shared} {l b : Addr} {items items2 : Array Value} {e : Nat → Bool} {k : Nat} {res : Bool} (hl : s.heap.IsTuple l items) (hb : s.heap.IsTuple b items2) (hu : A.units < cLine)
    (he : ∀ j (h1 : j < items.size) (h2 : j < items2.size), EqAt A.in1 s items[j] items2[j] (e j)) (hk : k ≤ min items.size items2.size) (hup : ∀ j, j < k → e j = true)
    (hat : ∀ (h1 : k < items.size) (h2 : k < items2.size), e k = false ∧ Ob.RcOp .GtE A.in1 s items[k] items2[k] res) (hend : k = min items.size items2.size → res = decide (items.size ≥ items2.size)) :
    Ob.RcOp .GtE A s (.ref l) (.ref b) res := fun prog w E Q h => by
  obtain ⟨⟨cls, dd, data, sl⟩, ho, hc, n, hd⟩ := id hl
  obtain ⟨⟨cls2, dd2, data2, sl2⟩, ho2, hc2, n2, hd2⟩ := id hb
  simp only at hc hd hc2 hd2
  subst hc hd hc2 hd2
  exact richCompare_meets_room (op := .GtE) ⟨_, ho, rfl⟩ ⟨_, ho2, rfl⟩ F.slot_tuple_ge F.entry_tuple_ge (F.args_tuple_ge_2 _ _) (ord_geAt l b items items2 n n2 dd dd2 sl sl2 e k res)
    ⟨ho, ho2, he, ⟨hk, hup, hat, hend⟩, ⟨(fun x => nomatch x), h⟩⟩ hu
end NFO
end -- NfOrd0

section -- NfOrd
set_option linter.all false
set_option autoImplicit false
set_option maxRecDepth 100000
set_option maxHeartbeats 1000000
/-! < <= > >= of pure data. -/
namespace NF
open PySem PySem.Spec PyProof.Rows L2

/-! ### the order in plain words -/
theorem cmpI_eq {a b : Int} : cmpI a b = .eq ↔ a = b := by
  unfold cmpI
  split
  · constructor
    · intro h; cases h
    · intro h; omega
  · split
    · constructor
      · intro h; cases h
      · intro h; omega
    · constructor
      · intro _; omega
      · intro _; rfl
theorem cmpL_eq : ∀ {a b : List Nat}, cmpL a b = .eq ↔ a = b
  | [], [] => by simp [cmpL]
  | [], _ :: _ => by simp [cmpL]
  | _ :: _, [] => by simp [cmpL]
  | a :: r, b :: q => by
    unfold cmpL
    split
    · constructor
      · intro h; cases h
      · intro h; injection h with h _; omega
    · split
      · constructor
        · intro h; cases h
        · intro h; injection h with h _; omega
      · have e : a = b := by omega
        rw [cmpL_eq]
        simp [e]
mutual
theorem cmpD_eq : ∀ {a b : D}, cmpD a b = .eq ↔ a = b
  | .non, b => by cases b <;> simp [cmpD]
  | .bl a, b => by
    cases b <;> simp [cmpD]
    rename_i b
    cases a <;> cases b <;> simp
  | .int a, b => by
    cases b <;> simp [cmpD]
    exact cmpI_eq
  | .str a, b => by
    cases b <;> simp [cmpD]
    exact cmpL_eq
  | .tup a, b => by
    cases b <;> simp [cmpD]
    exact cmpDs_eq
  | .ref a, b => by
    cases b <;> simp [cmpD]
    rw [cmpI_eq]
    omega
theorem cmpDs_eq : ∀ {a b : List D}, cmpDs a b = .eq ↔ a = b
  | [], [] => by simp [cmpDs]
  | [], _ :: _ => by simp [cmpDs]
  | _ :: _, [] => by simp [cmpDs]
  | a :: r, b :: q => by
    have h1 := cmpD_eq (a := a) (b := b)
    have h2 := cmpDs_eq (a := r) (b := q)
    unfold cmpDs
    cases h : cmpD a b with
    | eq => rw [h] at h1; simp at h1; simp [h1, h2]
    | lt => rw [h] at h1; simp at h1; simp [h1]
    | gt => rw [h] at h1; simp at h1; simp [h1]
end
/-- the first place where two lists differ -/
theorem first_diff : ∀ (as bs : List D), ∃ k, k ≤ min as.length bs.length ∧ (∀ j (h1 : j < as.length) (h2 : j < bs.length), j < k → as[j] = bs[j]) ∧
    (∀ (h1 : k < as.length) (h2 : k < bs.length), as[k] ≠ bs[k] ∧ cmpDs as bs = cmpD as[k] bs[k] ∧ (cmpbs as bs = true → cmpb as[k] bs[k] = true)) ∧ (k = min as.length bs.length → cmpDs as bs = cmpI as.length bs.length)
  | [], bs => ⟨0, by simp, fun j h1 => absurd h1 (Nat.not_lt_zero _), fun h1 => absurd h1 (Nat.not_lt_zero _), fun _ => by cases bs <;> simp [cmpDs, cmpI] <;> omega⟩
  | a :: r, [] => ⟨0, by simp, fun j _ h2 => absurd h2 (Nat.not_lt_zero _), fun _ h2 => absurd h2 (Nat.not_lt_zero _), fun _ => by
      simp only [cmpDs, cmpI, List.length_cons, List.length_nil]
      rw [if_neg (by omega), if_pos (by omega)]⟩
  | a :: r, b :: q => by
    by_cases hab : a = b
    · subst hab
      obtain ⟨k, hk, h1, h2, h3⟩ := first_diff r q
      have ee : cmpD a a = .eq := cmpD_eq.mpr rfl
      have ec : cmpDs (a :: r) (a :: q) = cmpDs r q := by rw [cmpDs, ee]
      have eb : cmpbs (a :: r) (a :: q) = cmpbs r q := by rw [cmpbs, ee]; simp
      refine ⟨k + 1, by simp only [List.length_cons]; omega, fun j g1 g2 hj => ?_, fun g1 g2 => ?_, fun e => ?_⟩
      · cases j with
        | zero => rfl
        | succ j => exact h1 j (by simpa using g1) (by simpa using g2) (by omega)
      · rw [ec, eb]
        exact h2 (by simpa using g1) (by simpa using g2)
      · rw [ec, h3 (by simp only [List.length_cons] at e; omega)]
        simp only [cmpI, List.length_cons]
        simp only [Int.natCast_add]
        congr 1
        · simp
        · congr 1
          simp
    · refine ⟨0, Nat.zero_le _, fun j _ _ hj => absurd hj (Nat.not_lt_zero _), fun _ _ => ⟨hab, ?_, ?_⟩, fun e => ?_⟩
      · have ne : cmpD a b ≠ .eq := fun z => hab (cmpD_eq.mp z)
        show cmpDs (a :: r) (b :: q) = cmpD a b
        rw [cmpDs]
        cases h : cmpD a b with
        | eq => exact absurd h ne
        | lt => rfl
        | gt => rfl
      · intro h
        have ne : cmpD a b ≠ .eq := fun z => hab (cmpD_eq.mp z)
        rw [cmpbs, if_neg ne] at h
        exact h
      · simp only [List.length_cons] at e; omega

/-! ### pure data as a tree -/
def pyD : Nat → D → PyData
  | _, .non => .none
  | _, .bl b => .bool b
  | _, .int i => .int i
  | _, .str x => .str (strOf x)
  | k + 1, .tup ds => .tuple (ds.map (pyD k))
  | _, _ => .none
theorem strOf_inj {x y : List Nat} (h : strOf x = strOf y) : x = y := by
  have := congrArg (fun s => s.cps.toList) h
  simpa [strOf_list] using this
section
variable {C : Cfg} {K : PySem.W.Frag} {H : Hp} {ι : List Addr}
mutual
theorem pure_dp : ∀ (k : Nat) (d : D) (v : V), pureN k d = true → DV H ι d v → Dp K H v (pyD k d) ∧ (pyD k d).canLay0 = true ∧ (pyD k d).depth ≤ k
  | k, d, v, h, r => by
    cases d with
    | int i => rw [DV] at r; subst r; cases k <;> exact ⟨.int i, rfl, by simp [pyD, PyData.depth]⟩
    | str x =>
      rw [DV] at r
      obtain ⟨rfl, hx⟩ := r
      have hl : (PyData.str (strOf x)).canLay0 = true := by
        unfold okS at hx
        simpa [PyData.canLay0, PyData.strOk, strOf] using hx
      cases k <;> exact ⟨.str _, hl, by simp [pyD, PyData.depth]⟩
    | tup ds =>
      cases k with
      | zero => simp [pureN] at h
      | succ k =>
        obtain ⟨a, vs, rfl, ha, rd⟩ := r
        rw [pureN] at h
        obtain ⟨h1, h2, h3⟩ := pures_dp k ds vs h rd
        exact ⟨.tup (SqT.of ha) h1, h2, by rw [pyD, PyData.depth]; omega⟩
    | non => cases k <;> simp [pureN] at h
    | bl b => cases k <;> simp [pureN] at h
    | ref n => cases k <;> simp [pureN] at h
  termination_by k d => (k, 0, 0)
theorem pures_dp : ∀ (k : Nat) (ds : List D) (vs : List V), ds.all (pureN k) = true → DVs H ι ds vs → DpAll K H vs (ds.map (pyD k)) ∧ PyData.canLayAll0 (ds.map (pyD k)) = true ∧ PyData.depthAll (ds.map (pyD k)) ≤ k
  | k, [], vs, _, r => by
    rw [DVs] at r; subst r
    exact ⟨.nil, rfl, by simp [PyData.depthAll]⟩
  | k, d :: ds, vs, h, r => by
    obtain ⟨v, q, rfl, h1, h2⟩ := r
    rw [List.all_cons, Bool.and_eq_true] at h
    obtain ⟨a1, a2, a3⟩ := pure_dp k d v h.1 h1
    obtain ⟨b1, b2, b3⟩ := pures_dp k ds q h.2 h2
    exact ⟨.cons a1 b1, by rw [List.map_cons, PyData.canLayAll0, a2, b2] <;> rfl, by rw [List.map_cons, PyData.depthAll]; omega⟩
  termination_by k ds => (k, 1, ds.length)
end
theorem pyD_int (k : Nat) (i : Int) : pyD k (.int i) = .int i := by cases k <;> rfl
theorem pyD_str (k : Nat) (x : List Nat) : pyD k (.str x) = .str (strOf x) := by cases k <;> rfl
theorem pureN_bad (k : Nat) : pureN k .non = false ∧ (∀ b, pureN k (.bl b) = false) ∧ ∀ n, pureN k (.ref n) = false := by cases k <;> simp [pureN]
theorem str_eqv (x y : List Nat) : PyData.eqv (.str (strOf x)) (.str (strOf y)) = decide (D.str x = D.str y) := by
  simp only [PyData.eqv]
  by_cases q : x = y
  · subst q; simp
  · have z : ¬ strOf x = strOf y := fun z => q (strOf_inj z)
    simp [q, z]
mutual
theorem pure_eqv : ∀ (k : Nat) (d e : D), pureN k d = true → pureN k e = true → PyData.eqv (pyD k d) (pyD k e) = decide (d = e)
  | k, .non, _, h, _ => by rw [(pureN_bad k).1] at h; cases h
  | k, .bl b, _, h, _ => by rw [(pureN_bad k).2.1] at h; cases h
  | k, .ref b, _, h, _ => by rw [(pureN_bad k).2.2] at h; cases h
  | k, _, .non, _, g => by rw [(pureN_bad k).1] at g; cases g
  | k, _, .bl b, _, g => by rw [(pureN_bad k).2.1] at g; cases g
  | k, _, .ref b, _, g => by rw [(pureN_bad k).2.2] at g; cases g
  | k, .int i, .int j, _, _ => by rw [pyD_int, pyD_int]; simp [PyData.eqv, Bool.beq_eq_decide_eq]
  | k, .int i, .str j, _, _ => by rw [pyD_int, pyD_str]; simp [PyData.eqv]
  | k, .str i, .int j, _, _ => by rw [pyD_int, pyD_str]; simp [PyData.eqv]
  | k, .str i, .str j, _, _ => by rw [pyD_str, pyD_str]; exact str_eqv i j
  | 0, .tup as, _, h, _ => by simp [pureN] at h
  | 0, _, .tup as, _, g => by simp [pureN] at g
  | k + 1, .int i, .tup bs, _, _ => by rw [pyD_int, pyD]; simp [PyData.eqv]
  | k + 1, .str i, .tup bs, _, _ => by rw [pyD_str, pyD]; simp [PyData.eqv]
  | k + 1, .tup bs, .int i, _, _ => by rw [pyD_int, pyD]; simp [PyData.eqv]
  | k + 1, .tup bs, .str i, _, _ => by rw [pyD_str, pyD]; simp [PyData.eqv]
  | k + 1, .tup as, .tup bs, h, g => by
    rw [pureN] at h g
    rw [pyD, pyD, PyData.eqv, pures_eqv k as bs h g]
    simp
  termination_by k d => (k, 0, 0)
theorem pures_eqv : ∀ (k : Nat) (ds es : List D), ds.all (pureN k) = true → es.all (pureN k) = true → PyData.eqvAll (ds.map (pyD k)) (es.map (pyD k)) = decide (ds = es)
  | k, [], [], _, _ => by simp [PyData.eqvAll]
  | k, [], _ :: _, _, _ => by simp [PyData.eqvAll]
  | k, _ :: _, [], _, _ => by simp [PyData.eqvAll]
  | k, d :: ds, e :: es, h, g => by
    rw [List.all_cons, Bool.and_eq_true] at h g
    simp only [List.map_cons, PyData.eqvAll]
    rw [pure_eqv k d e h.1 g.1, pures_eqv k ds es h.2 g.2]
    by_cases a : d = e <;> by_cases b : ds = es <;> simp [a, b]
  termination_by k ds => (k, 1, ds.length)
end
end

/-! ### an operator's facts -/
structure OrdB (op : CmpOp) (p : Ordering → Bool) : Prop where
  int : ∀ (A : Around) (s : Shared) (a b : Int) (t u : Tok), Ob.RcOp op A s (.int a t) (.int b u) (p (cmpI a b))
  str : ∀ (A : Around) (s : Shared) (a b : List Nat) (t u : Tok), Ob.RcOp op A s (.str (strOf a) t) (.str (strOf b) u) (p (cmpL a b))
  tup : ∀ {A : Around} {s : Shared} {l b : Addr} {items items2 : Array Value} {e : Nat → Bool} {k : Nat} {res : Bool}, s.heap.IsTuple l items → s.heap.IsTuple b items2 → A.units < cLine →
    (∀ j (h1 : j < items.size) (h2 : j < items2.size), SeqAt.EqAt A.in1 s items[j] items2[j] (e j)) → k ≤ min items.size items2.size → (∀ j, j < k → e j = true) →
    (∀ (h1 : k < items.size) (h2 : k < items2.size), e k = false ∧ Ob.RcOp op A.in1 s items[k] items2[k] res) → (k = min items.size items2.size → res = p (cmpI items.size items2.size)) → Ob.RcOp op A s (.ref l) (.ref b) res
theorem cmpL_lt : ∀ {a b : List Nat}, (cmpL a b == .lt) = decide (a < b)
  | [], [] => by simp [cmpL]
  | [], _ :: _ => by simp [cmpL]
  | _ :: _, [] => by simp [cmpL]
  | a :: r, b :: q => by
    unfold cmpL
    split
    · rename_i h; simp [List.cons_lt_cons_iff, h]
    · split
      · rename_i h1 h2
        have : ¬ a = b := by omega
        simp [List.cons_lt_cons_iff, h1, this]
      · rename_i h1 h2
        have : a = b := by omega
        subst this
        rw [cmpL_lt]
        simp [List.cons_lt_cons_iff]
theorem cmpL_gt : ∀ {a b : List Nat}, (cmpL a b == .gt) = decide (b < a)
  | [], [] => by simp [cmpL]
  | [], _ :: _ => by simp [cmpL]
  | _ :: _, [] => by simp [cmpL]
  | a :: r, b :: q => by
    unfold cmpL
    split
    · rename_i h
      have h1 : ¬ b < a := by omega
      have h2 : ¬ b = a := by omega
      simp [List.cons_lt_cons_iff, h1, h2]
    · split
      · rename_i h1 h2
        simp [List.cons_lt_cons_iff, h2]
      · rename_i h1 h2
        have : a = b := by omega
        subst this
        rw [cmpL_gt]
        simp [List.cons_lt_cons_iff]
theorem ne_of_beq (o : Ordering) : (o != .gt) = !(o == .gt) := by cases o <;> rfl
theorem ne_of_beq2 (o : Ordering) : (o != .lt) = !(o == .lt) := by cases o <;> rfl
theorem cmpI_lt {a b : Int} : (cmpI a b == .lt) = decide (a < b) := by
  unfold cmpI
  split
  · rename_i h; simp [h]
  · split <;> (rename_i h _; simp [h])
theorem cmpI_gt {a b : Int} : (cmpI a b == .gt) = decide (b < a) := by
  unfold cmpI
  split
  · rename_i h
    have : ¬ b < a := by omega
    simp [this]
  · split
    · rename_i h; simp [h]
    · rename_i h; simp [h]
theorem ord_lt : OrdB .Lt (· == .lt) where
  int := fun A s a b t u => by rw [cmpI_lt]; exact Ob.RcOp.lt_int a b t u
  str := fun A s a b t u => by
    rw [cmpL_lt]
    exact fun prog w E Q h => PyProof.Rows.lt_str (x := strOf a) (y := strOf b) (by rw [strOf_list, strOf_list]; exact h)
  tup := fun hl hb hu he hk hup hat hend => NFO.rc_lt hl hb hu he hk hup hat fun z => by rw [hend z, cmpI_lt]; simp
theorem ord_le : OrdB .LtE (· != .gt) where
  int := fun A s a b t u => by
    have e : (cmpI a b != .gt) = decide (a ≤ b) := by
      rw [ne_of_beq, cmpI_gt]
      by_cases h : a ≤ b
      · have : ¬ b < a := by omega
        simp [h]
      · have : b < a := by omega
        simp [h]
        omega
    rw [e]
    exact Ob.RcOp.le_int a b t u
  str := fun A s a b t u => by
    rw [ne_of_beq, cmpL_gt]
    exact fun prog w E Q h => PySem.P.le_str (x := strOf a) (y := strOf b) (by rw [strOf_list, strOf_list]; exact h)
  tup := fun {A s l b items items2 e k res} hl hb hu he hk hup hat hend => NFO.rc_le hl hb hu he hk hup hat fun z => by
    rw [hend z, ne_of_beq, cmpI_gt]
    by_cases h : items.size ≤ items2.size
    · have : ¬ (items2.size : Int) < items.size := by omega
      simp [h]
    · have : (items2.size : Int) < items.size := by omega
      simp [h]
      omega
theorem ord_gt : OrdB .Gt (· == .gt) where
  int := fun A s a b t u => by rw [cmpI_gt]; exact Ob.RcOp.gt_int a b t u
  str := fun A s a b t u => by
    rw [cmpL_gt]
    exact fun prog w E Q h => PySem.P.gt_str (x := strOf a) (y := strOf b) (by rw [strOf_list, strOf_list]; exact h)
  tup := fun hl hb hu he hk hup hat hend => NFO.rc_gt hl hb hu he hk hup hat fun z => by rw [hend z, cmpI_gt]; simp
theorem ord_ge : OrdB .GtE (· != .lt) where
  int := fun A s a b t u => by
    have e : (cmpI a b != .lt) = decide (b ≤ a) := by
      rw [ne_of_beq2, cmpI_lt]
      by_cases h : b ≤ a
      · have : ¬ a < b := by omega
        simp [h]
      · have : a < b := by omega
        simp [h]
        omega
    rw [e]
    exact Ob.RcOp.ge_int a b t u
  str := fun A s a b t u => by
    rw [ne_of_beq2, cmpL_lt]
    exact fun prog w E Q h => PySem.P.ge_str (x := strOf a) (y := strOf b) (by rw [strOf_list, strOf_list]; exact h)
  tup := fun {A s l b items items2 e k res} hl hb hu he hk hup hat hend => NFO.rc_ge hl hb hu he hk hup hat fun z => by
    rw [hend z, ne_of_beq2, cmpI_lt]
    by_cases h : items2.size ≤ items.size
    · have : ¬ (items.size : Int) < items2.size := by omega
      simp [h]
    · have : (items.size : Int) < items2.size := by omega
      simp [h]
      omega
theorem cmpb_cases {d e : D} (h : cmpb d e = true) : (∃ a b, d = .int a ∧ e = .int b) ∨ (∃ a b, d = .str a ∧ e = .str b) ∨ ∃ a b, d = .tup a ∧ e = .tup b ∧ cmpbs a b = true := by
  cases d <;> cases e <;> simp [cmpb] at h
  · exact .inl ⟨_, _, rfl, rfl⟩
  · exact .inr (.inl ⟨_, _, rfl, rfl⟩)
  · exact .inr (.inr ⟨_, _, rfl, rfl, h⟩)
theorem all_get {p : D → Bool} : ∀ {l : List D} {i : Nat} (h : i < l.length), l.all p = true → p l[i] = true
  | a :: r, 0, _, h => by rw [List.all_cons, Bool.and_eq_true] at h; exact h.1
  | a :: r, i + 1, hi, h => by rw [List.all_cons, Bool.and_eq_true] at h; exact all_get (i := i) (by simpa using hi) h.2
section
variable {X : Cx} {pins : List (Addr × Obj)} {σ : L2.St} {H : Hp} {s : Shared} {ι : List Addr} {op : CmpOp} {p : Ordering → Bool}
theorem vals_at {vs : List V} {us : List Value} (r : Vals vs us) {i : Nat} (h : i < vs.length) (g : i < us.toArray.size) : RelV vs[i] us.toArray[i] := by
  obtain ⟨u, hu, ru⟩ := r.get (i := i) (x := vs[i]) (List.getElem?_eq_getElem h)
  have e : us.toArray[i] = u := by
    have : us[i]? = some us[i] := List.getElem?_eq_getElem (by simpa using g)
    rw [this] at hu
    simpa using hu
  rw [e]
  exact ru
theorem dvs_at {ds : List D} {vs : List V} (r : DVs H ι ds vs) {i : Nat} (h : i < ds.length) (g : i < vs.length) : DV H ι ds[i] vs[i] := by
  obtain ⟨v, hv, rv⟩ := r.get (i := i) (d := ds[i]) (List.getElem?_eq_getElem h)
  rw [List.getElem?_eq_getElem g] at hv
  cases hv
  exact rv
/-- equality of pure data, at any place of the stack -/
theorem pure_eqAt (I : Inv X pins σ H s) {k : Nat} {d e : D} {v w : V} {u z : Value} (hd : pureN k d = true) (he : pureN k e = true) (rd : DV H ι d v) (re : DV H ι e w) (r1 : RelV v u) (r2 : RelV w z) {A : Around} (hu : A.units + k < cLine) :
    SeqAt.EqAt A s u z (decide (d = e)) := by
  obtain ⟨a1, a2, a3⟩ := pure_dp (K := X.K) k d v hd rd
  obtain ⟨b1, b2, b3⟩ := pure_dp (K := X.K) k e w he re
  obtain ⟨as, q1⟩ := Dp.reads I _ _ _ a1 r1
  obtain ⟨bs, q2⟩ := Dp.reads I _ _ _ b1 r2
  have h := SeqAt.eqAt_reads _ _ A s u z as bs q1 q2 a2 b2 (Nat.lt_of_le_of_lt (Nat.add_le_add_left (Nat.le_trans (Nat.min_le_left _ _) a3) _) hu)
  rw [pure_eqv k d e hd he] at h
  exact h
theorem in1_units (A : Around) : A.in1.units = A.units + 1 := rfl
theorem ord_rc (B : OrdB op p) (I : Inv X pins σ H s) : ∀ (k : Nat) (d e : D) (v w : V) (u z : Value) (A : Around), pureN k d = true → pureN k e = true → cmpb d e = true → DV H ι d v → DV H ι e w → RelV v u → RelV w z → A.units + k < cLine →
    Ob.RcOp op A s u z (p (cmpD d e)) := by
  intro k
  induction k with
  | zero =>
    intro d e v w u z A hd he hc rd re r1 r2 hu
    rcases cmpb_cases hc with ⟨a, b, rfl, rfl⟩ | ⟨a, b, rfl, rfl⟩ | ⟨a, b, rfl, rfl, _⟩
    · rw [DV] at rd re
      subst rd re
      obtain ⟨t, rfl⟩ := r1
      obtain ⟨t', rfl⟩ := r2
      rw [cmpD]
      exact B.int A s a b t t'
    · rw [DV] at rd re
      obtain ⟨rfl, _⟩ := rd
      obtain ⟨rfl, _⟩ := re
      obtain ⟨t, rfl⟩ := r1
      obtain ⟨t', rfl⟩ := r2
      rw [cmpD]
      exact B.str A s a b t t'
    · simp [pureN] at hd
  | succ k ih =>
    intro d e v w u z A hd he hc rd re r1 r2 hu
    rcases cmpb_cases hc with ⟨a, b, rfl, rfl⟩ | ⟨a, b, rfl, rfl⟩ | ⟨a, b, rfl, rfl, hcs⟩
    · rw [DV] at rd re
      subst rd re
      obtain ⟨t, rfl⟩ := r1
      obtain ⟨t', rfl⟩ := r2
      rw [cmpD]
      exact B.int A s a b t t'
    · rw [DV] at rd re
      obtain ⟨rfl, _⟩ := rd
      obtain ⟨rfl, _⟩ := re
      obtain ⟨t, rfl⟩ := r1
      obtain ⟨t', rfl⟩ := r2
      rw [cmpD]
      exact B.str A s a b t t'
    · rw [pureN] at hd he
      obtain ⟨pa, vs, rfl, ha, ra⟩ := rd
      obtain ⟨pb, ws, rfl, hb, rb⟩ := re
      cases r1
      cases r2
      obtain ⟨its, v1, t1, _⟩ := I.tuple (SqT.of ha)
      obtain ⟨its2, v2, t2, _⟩ := I.tuple (SqT.of hb)
      have l1 : its.toArray.size = a.length := by rw [List.size_toArray, ← v1.length, ra.len]
      have l2 : its2.toArray.size = b.length := by rw [List.size_toArray, ← v2.length, rb.len]
      obtain ⟨j, hj, hup, hat, hend⟩ := first_diff a b
      rw [cmpD]
      have h5 : A.in1.units + k < cLine := by rw [in1_units]; omega
      refine B.tup (e := fun i => decide (a[i]? = b[i]?)) (k := j) t1 t2 (by omega) (fun i h1 h2 => ?_) (by rw [l1, l2]; exact hj) (fun i hi => ?_) (fun h1 h2 => ?_) fun q => ?_
      · have g1 : i < a.length := l1 ▸ h1
        have g2 : i < b.length := l2 ▸ h2
        have q := pure_eqAt (ι := ι) I (k := k) (d := a[i]) (e := b[i]) (all_get g1 hd) (all_get g2 he) (dvs_at ra g1 (by rw [ra.len]; exact g1)) (dvs_at rb g2 (by rw [rb.len]; exact g2)) (vals_at v1 (by rw [ra.len]; exact g1) h1) (vals_at v2 (by rw [rb.len]; exact g2) h2) h5
        have e1 : decide (a[i]? = b[i]?) = decide (a[i] = b[i]) := by
          rw [List.getElem?_eq_getElem g1, List.getElem?_eq_getElem g2]
          simp
        rw [e1]
        exact q
      · have g1 : i < a.length := by omega
        have g2 : i < b.length := by omega
        rw [List.getElem?_eq_getElem g1, List.getElem?_eq_getElem g2, hup i g1 g2 hi]
        simp
      · have g1 : j < a.length := l1 ▸ h1
        have g2 : j < b.length := l2 ▸ h2
        obtain ⟨n1, n2, n3⟩ := hat g1 g2
        refine ⟨by rw [List.getElem?_eq_getElem g1, List.getElem?_eq_getElem g2]; simpa using n1, ?_⟩
        rw [n2]
        exact ih _ _ _ _ _ _ A.in1 (all_get g1 hd) (all_get g2 he) (n3 hcs) (dvs_at ra g1 (by rw [ra.len]; exact g1)) (dvs_at rb g2 (by rw [rb.len]; exact g2)) (vals_at v1 (by rw [ra.len]; exact g1) h1) (vals_at v2 (by rw [rb.len]; exact g2) h2) h5
      · rw [l1, l2] at q ⊢
        rw [hend q]
end
/-- d op e -/
def rOrd (ι0 : Unit) (op : CmpOp) (p : Ordering → Bool) : R2 := fun x y H Q => ∃ (ι : List Addr) (d e : D), DV H ι d x ∧ DV H ι e y ∧ pureN 8 d = true ∧ pureN 8 e = true ∧ cmpb d e = true ∧ Q (.bl (p (cmpD d e))) H
theorem op_ord {X : Cx} {op : CmpOp} {p : Ordering → Bool} (B : OrdB op p) (hop : ∀ v u, compareOp op v u = richCompare op v u) (hu : X.A.units + 64 < cLine) : OpR X (compareOp op) (rOrd () op p) := by
  intro pins s σ H x y v u Q I rx ry h
  obtain ⟨ι, d, e, rd, re, pd, pe, hc, q⟩ := h
  have R := ord_rc B I 8 d e x y v u X.A pd pe hc rd re rx ry (by omega)
  rw [hop]
  exact R X.prog X.w X.xe (EP X pins σ Q) ⟨.bl _, H, I, rfl, q⟩
theorem hop_lt (v u : Value) : compareOp .Lt v u = richCompare .Lt v u := rfl
theorem hop_le (v u : Value) : compareOp .LtE v u = richCompare .LtE v u := rfl
theorem hop_gt (v u : Value) : compareOp .Gt v u = richCompare .Gt v u := rfl
theorem hop_ge (v u : Value) : compareOp .GtE v u = richCompare .GtE v u := rfl
theorem bv_ord {C : Cfg} {X : Cx} {op : CmpOp} {p : Ordering → Bool} : BV2 C X.K (ordM p) (rOrd () op p) := by
  intro W σ H ι S dx dy x y Q s d1 d2 q
  unfold ordM at q
  split at q
  · rename_i h
    simp only [Bool.and_eq_true] at h
    exact ⟨ι, dx, dy, d1, d2, h.1.1, h.1.2, h.2, q.ret s rfl⟩
  · exact q.elim
end NF
end -- NfOrd

section -- NfCmp
set_option linter.all false
set_option autoImplicit false
set_option maxRecDepth 100000
set_option maxHeartbeats 1000000
/-! ==, in, subscripts, slices by values. -/
namespace NF
open PySem PySem.Spec PyProof.Rows L2
section
variable {C : Cfg} {X : Cx}
/-! ### == -/
/-- two dicts compared; d, e say what the store tells of them -/
def rEqDict (C : Cfg) (K : PySem.W.Frag) (neg : Bool) : R2 := fun x y H Q => ∃ (ι : List Addr) (S : Store) (n m : Nat) (ka kb : List ((Int × Int) × D)) (b : Bool),
  StR C K H ι S ∧ DV H ι (.ref n) x ∧ DV H ι (.ref m) y ∧ S[n]? = some (.dct ka) ∧ S[m]? = some (.dct kb) ∧ eqD S (.ref n) (.ref m) = some b ∧ Q (.bl (if neg then !b else b)) H
theorem dctOf_some {S : Store} {d : D} {kvs : List ((Int × Int) × D)} (h : dctOf S d = some kvs) : ∃ n, d = .ref n ∧ S[n]? = some (.dct kvs) := by
  unfold dctOf at h
  split at h
  · split at h
    · cases h
      rename_i n _ e
      exact ⟨n, rfl, e⟩
    · cases h
  · cases h
theorem eqD_cases {S : Store} {d e : D} {b : Bool} (h : eqD S d e = some b) : (∃ n m ka kb, d = .ref n ∧ e = .ref m ∧ S[n]? = some (.dct ka) ∧ S[m]? = some (.dct kb)) ∨ eqT S d e = some b := by
  unfold eqD at h
  split at h
  · rename_i a c h1 h2
    obtain ⟨n, rfl, q1⟩ := dctOf_some h1
    obtain ⟨m, rfl, q2⟩ := dctOf_some h2
    exact .inl ⟨n, m, a, c, rfl, rfl, q1, q2⟩
  · exact .inr h
theorem eqT_some {S : Store} {d e : D} {b : Bool} (h : eqT S d e = some b) : ∃ t u, tree S 8 d = some t ∧ tree S 8 e = some u ∧ b = PyData.eqv t u := by
  unfold eqT at h
  split at h
  · rename_i t u h1 h2
    cases h
    exact ⟨t, u, h1, h2, rfl⟩
  · cases h
theorem blM_post {K : PySem.W.Frag} {W : WX} {σ : L2.St} {H : Hp} {ι : List Addr} {S : Store} {o : Option Bool} {Q : VK} (p : Post C K W σ DV H ι (blM o S) Q) (s : StR C K H ι S) : ∃ b, o = some b ∧ Q (.bl b) H := by
  cases o with
  | none => exact p.elim
  | some b => exact ⟨b, rfl, p.ret s rfl⟩
theorem bv_eq : BV2 C X.K (cmpM .eq) (rEqD X.K) := by
  intro W σ H ι S dx dy x y Q s d1 d2 p
  obtain ⟨b, hb, q⟩ := blM_post p s
  obtain ⟨t, u, h1, h2, rfl⟩ := eqT_some hb
  exact ⟨t, u, tree_dp s 8 _ _ t h1 d1, tree_dp s 8 _ _ u h2 d2, tree_shaped s h1 d1, tree_shaped s h2 d2, q⟩
theorem bv_ne : BV2 C X.K (cmpM .ne) (rNeD X.K) := by
  intro W σ H ι S dx dy x y Q s d1 d2 p
  obtain ⟨b', hb', q⟩ := blM_post p s
  cases hb : eqT S dx dy with
  | none => rw [hb] at hb'; cases hb'
  | some b =>
    rw [hb] at hb'
    obtain rfl : (!b) = b' := Option.some.inj hb'
    obtain ⟨t, u, h1, h2, rfl⟩ := eqT_some hb
    exact ⟨t, u, tree_dp s 8 _ _ t h1 d1, tree_dp s 8 _ _ u h2 d2, tree_shaped s h1 d1, tree_shaped s h2 d2, q⟩
/-! ### in -/
theorem dpall_len {K : PySem.W.Frag} {H : Hp} : ∀ {vs : List V} {ts : List PyData}, DpAll K H vs ts → vs.length = ts.length
  | _, _, .nil => rfl
  | _, _, .cons _ t => by rw [List.length_cons, List.length_cons, dpall_len t]
/-- each item's ==, by trees -/
theorem mapO_eq {S : Store} {x : D} {t : PyData} (hx : tree S 8 x = some t) : ∀ {ds : List D} {bs : List Bool}, mapO (fun y => eqT S y x) ds = some bs → ∃ ts, mapO (tree S 8) ds = some ts ∧ bs = ts.map fun z => PyData.eqv z t
  | [], bs, h => by rw [mapO] at h; cases h; exact ⟨[], rfl, rfl⟩
  | d :: ds, bs, h => by
    rw [mapO] at h
    cases h1 : eqT S d x with
    | none => rw [h1] at h; cases h
    | some b =>
      cases h2 : mapO (fun y => eqT S y x) ds with
      | none => rw [h1, h2] at h; cases h
      | some r =>
        rw [h1, h2] at h; cases h
        obtain ⟨t1, u, q1, q2, rfl⟩ := eqT_some h1
        rw [hx] at q2; cases q2
        obtain ⟨ts, e1, rfl⟩ := mapO_eq hx h2
        exact ⟨t1 :: ts, by rw [mapO, q1, e1], rfl⟩
theorem trees8_shaped {K : PySem.W.Frag} {H : Hp} {ι : List Addr} {S : Store} (s : StR C K H ι S) : ∀ {ds : List D} {vs : List V} {ts : List PyData}, mapO (tree S 8) ds = some ts → DVs H ι ds vs → SeqAt.shaped (.list ts) = true ∧ SeqAt.shaped (.tuple ts) = true := by
  intro ds vs ts h r
  obtain ⟨h1, h2⟩ := trees_lay s 8 ds vs ts h r
  constructor <;>
  · unfold SeqAt.shaped
    rw [Bool.and_eq_true, decide_eq_true_eq]
    exact ⟨h1, by rw [PyData.depth]; omega⟩
def rInTup (K : PySem.W.Frag) (neg : Bool) : R2 := fun x y H Q => ∃ d ds, Dp K H x d ∧ Dp K H y (.tuple ds) ∧ SeqAt.shaped d = true ∧ SeqAt.shaped (.tuple ds) = true ∧ Q (.bl (if neg then !(ds.any fun z => PyData.eqv z d) else ds.any fun z => PyData.eqv z d)) H
theorem room_in (hu : X.A.units + 100 < cLine) {d : PyData} {n : Nat} (h : SeqAt.shaped d = true) : X.A.units + 1 + min n d.depth < cLine := by
  have := SeqAt.depth_of_shaped h
  omega
theorem op_inTup (hu : X.A.units + 100 < cLine) : OpR X (compareOp .In) (rInTup X.K false) := by
  intro pins s σ H x y v u Q I rx ry h
  obtain ⟨d, ds, hd, he, sd, se, q⟩ := h
  obtain ⟨as, r1⟩ := Dp.reads I d x v hd rx
  obtain ⟨bs, r2⟩ := Dp.reads I (.tuple ds) y u he ry
  exact SeqAt.in_tuple_reads r2 r1 (SeqAt.canLay_of_shaped se) (SeqAt.canLay_of_shaped sd) (room_in hu sd) ⟨.bl _, H, I, rfl, q⟩
theorem op_notInTup (hu : X.A.units + 100 < cLine) : OpR X (compareOp .NotIn) (rInTup X.K true) := by
  intro pins s σ H x y v u Q I rx ry h
  obtain ⟨d, ds, hd, he, sd, se, q⟩ := h
  obtain ⟨as, r1⟩ := Dp.reads I d x v hd rx
  obtain ⟨bs, r2⟩ := Dp.reads I (.tuple ds) y u he ry
  exact SeqAt.notIn_tuple_reads r2 r1 (SeqAt.canLay_of_shaped se) (SeqAt.canLay_of_shaped sd) (room_in hu sd) ⟨.bl _, H, I, rfl, q⟩
def rInDct (neg : Bool) : R2 := fun y x H Q => ∃ a o, x = .ref a ∧ DGet H a y o ∧ Q (.bl (if neg then !o.isSome else o.isSome)) H
theorem op_inDct (hu : X.A.units + 100 < cLine) : OpR X (compareOp .In) (rInDct false) := by
  intro pins s σ H y x v u Q I ry rx h
  obtain ⟨a, o, rfl, g, q⟩ := h
  cases rx
  exact d_in (by omega) I g ry fun s' I' => ⟨.bl _, H, I', rfl, q⟩
theorem op_notInDct (hu : X.A.units + 100 < cLine) : OpR X (compareOp .NotIn) (rInDct true) := by
  intro pins s σ H y x v u Q I ry rx h
  obtain ⟨a, o, rfl, g, q⟩ := h
  cases rx
  exact d_notIn (by omega) I g ry fun s' I' => ⟨.bl _, H, I', rfl, q⟩
def rInSign (neg : Bool) : R2 := fun x y H Q => ∃ (c : Nat) (z : Str), x = .str ⟨#[c]⟩ ∧ y = .str z ∧ Q (.bl (if neg then !decide (c ∈ z.cps.toList) else decide (c ∈ z.cps.toList))) H
def rInL (K : PySem.W.Frag) (neg : Bool) : R2 := fun x y H Q => ∃ d ds, Dp K H x d ∧ Dp K H y (.list ds) ∧ SeqAt.shaped d = true ∧ SeqAt.shaped (.list ds) = true ∧ Q (.bl (if neg then !(ds.any fun z => PyData.eqv z d) else ds.any fun z => PyData.eqv z d)) H
def rInRod (C : Cfg) (K : PySem.W.Frag) (neg : Bool) : R2 := fun x y H Q => ∃ (a : Addr) (kvs : List (List Nat × D)) (k : List Nat), x = .str (strOf k) ∧ y = .ref a ∧ RodAt K C.w a kvs ∧ Q (.bl (if neg then !(kvGet kvs k).isSome else (kvGet kvs k).isSome)) H
theorem rod_in {w : World} {K : PySem.W.Frag} {a : Addr} {kvs : List (List Nat × D)} (h : RodAt K w a kvs) (k : List Nat) : ∃ es n, KDict K w a es n ∧ ∃ r, PySem.W.nsIn K a (strOf k) = some r ∧ r.isSome = (kvGet kvs k).isSome := by
  obtain ⟨es, n, D, h⟩ := h
  refine ⟨es, n, D, ?_⟩
  have := h k
  cases e : kvGet kvs k with
  | none => rw [e] at this; exact ⟨none, this, rfl⟩
  | some d =>
    rw [e] at this
    obtain ⟨i, u, _, h1, _⟩ := this
    exact ⟨some u, h1, rfl⟩
theorem op_inRod (hw : X.w = C.w) : OpR X (compareOp .In) (rInRod C X.K false) := by
  intro pins s σ H x y v u Q I rx ry h
  obtain ⟨a, kvs, k, rfl, rfl, hr, q⟩ := h
  obtain ⟨es, n, D, r, h1, h2⟩ := rod_in hr k
  refine op_in_kd (d := a) (es := es) (n := n) (by rw [hw]; exact D) pins s σ H _ _ v u Q I rx ry ⟨strOf k, r, rfl, rfl, h1, ?_⟩
  rw [h2]
  exact q
theorem op_notInRod (hw : X.w = C.w) : OpR X (compareOp .NotIn) (rInRod C X.K true) := by
  intro pins s σ H x y v u Q I rx ry h
  obtain ⟨a, kvs, k, rfl, rfl, hr, q⟩ := h
  obtain ⟨es, n, D, r, h1, h2⟩ := rod_in hr k
  refine op_notIn_kd (d := a) (es := es) (n := n) (by rw [hw]; exact D) pins s σ H _ _ v u Q I rx ry ⟨strOf k, r, rfl, rfl, h1, ?_⟩
  rw [h2]
  exact q
def rInAll (C : Cfg) (K : PySem.W.Frag) (neg : Bool) : R2 := fun x y H Q => rInSign neg x y H Q ∨ rInTup K neg x y H Q ∨ rInL K neg x y H Q ∨ rInDct neg x y H Q ∨ rInRod C K neg x y H Q
theorem op_inAll (hw : X.w = C.w) (hu : X.A.units + 100 < cLine) : OpR X (compareOp .In) (rInAll C X.K false) := op_in_sign.or ((op_inTup hu).or ((op_inD (by omega)).or ((op_inDct hu).or (op_inRod hw))))
theorem op_notInAll (hw : X.w = C.w) (hu : X.A.units + 100 < cLine) : OpR X (compareOp .NotIn) (rInAll C X.K true) := op_notIn_sign.or ((op_notInTup hu).or ((op_notInD (by omega)).or ((op_notInDct hu).or (op_notInRod hw))))
/-! ### what a dict's key gives -/
theorem kts_val {H : Hp} {ι : List Addr} (k : Int × Int) : ∀ {kvs : List ((Int × Int) × D)} {ws : List (List Key × V)}, KTs H ι kvs ws → match kvGet kvs k with
    | some d => ∃ v, valV ws (keyD k) = some v ∧ DV H ι d v
    | none => valV ws (keyD k) = none
  | [], ws, h => by rw [KTs] at h; subst h; simp [kvGet, valV]
  | (j, d) :: r, ws, h => by
    obtain ⟨v, q, rfl, h1, h2⟩ := h
    have ih := kts_val k h2
    by_cases e : j = k
    · subst e
      simp only [kvGet, List.find?_cons, decide_true, Option.map_some]
      exact ⟨v, valV_pos rfl, h1⟩
    · have ne : ¬ keyD j = keyD k := fun z => e (by
        simp only [keyD, List.cons.injEq, Sum.inl.injEq, and_true] at z
        exact Prod.ext z.1 z.2)
      rw [valV_neg ne]
      have e1 : kvGet ((j, d) :: r) k = kvGet r k := by simp [kvGet, List.find?_cons, e]
      rw [e1]
      exact ih
theorem kks_val {H : Hp} {ι : List Addr} (k : List Nat) : ∀ {kvs : List (List Nat × D)} {ws : List (Key × V)}, KKs H ι kvs ws → match kvGet kvs k with
    | some d => ∃ v, valV ws (.inr (strOf k)) = some v ∧ DV H ι d v
    | none => valV ws (.inr (strOf k)) = none
  | [], ws, h => by rw [KKs] at h; subst h; simp [kvGet, valV]
  | (j, d) :: r, ws, h => by
    obtain ⟨v, q, rfl, h1, h2⟩ := h
    have ih := kks_val k h2
    by_cases e : j = k
    · subst e
      simp only [kvGet, List.find?_cons, decide_true, Option.map_some]
      exact ⟨v, valV_pos rfl, h1⟩
    · have ne : ¬ (Sum.inr (strOf j) : Key) = Sum.inr (strOf k) := fun z => e (strOf_inj (Sum.inr.inj z))
      rw [valV_neg ne]
      have e1 : kvGet ((j, d) :: r) k = kvGet r k := by simp [kvGet, List.find?_cons, e]
      rw [e1]
      exact ih
/-- a key that is a pair -/
theorem pair_dv {H : Hp} {ι : List Addr} {d : D} {v : V} {k : Int × Int} (h : asPair d = some k) (r : DV H ι d v) : ∃ b, v = .ref b ∧ H b = some (.tup ((keyD k).map kV)) := by
  unfold asPair at h
  split at h
  · cases h
    obtain ⟨a, vs, rfl, ha, rd⟩ := r
    obtain ⟨x, q, rfl, hx, rd⟩ := rd
    obtain ⟨y, q2, rfl, hy, rd⟩ := rd
    rw [DVs] at rd; subst rd
    rw [DV] at hx hy; subst hx hy
    exact ⟨a, rfl, ha⟩
  · cases h
/-- what the layer says of a key of a dict of the store -/
theorem dget_t {H : Hp} {a : Addr} {v : V} {ws : List (List Key × V)} {b : Addr} {k : Int × Int} (ha : Rd H a (.dT ws)) (hv : v = .ref b) (hb : H b = some (.tup ((keyD k).map kV))) : DGet H a v (valV ws (keyD k)) := .inr ⟨ws, keyD k, b, ha, hv, hb, rfl⟩
theorem dget_k {H : Hp} {a : Addr} {ws : List (Key × V)} (ha : Rd H a (.dK ws)) (x : List Nat) : DGet H a (.str (strOf x)) (valV ws (.inr (strOf x))) := .inl ⟨ws, .inr (strOf x), ha, rfl, rfl⟩
theorem opt_isSome {α : Type} {f : Option D} {o : Option α} {P : D → α → Prop} (h : match f with
    | some d => ∃ v, o = some v ∧ P d v
    | none => o = none) : f.isSome = o.isSome := by
  cases f with
  | none => simp only at h; rw [h] <;> rfl
  | some d => obtain ⟨v, e, _⟩ := h; rw [e] <;> rfl
theorem any_map {α : Type} (f : α → Bool) : ∀ l : List α, (l.map f).any id = l.any f
  | [] => rfl
  | a :: r => by rw [List.map_cons, List.any_cons, List.any_cons, any_map f r] <;> rfl
theorem one_sign (c : Nat) : strOf [c] = ⟨#[c]⟩ := rfl
theorem contains_mem (x : List Nat) (c : Nat) : x.contains c = decide (c ∈ (strOf x).cps.toList) := by
  rw [strOf_list]
  simp [List.contains_iff_mem]
theorem inD_post {W : WX} {σ : L2.St} {H : Hp} {ι : List Addr} {S : Store} {neg : Bool} {dx dy : D} {x y : V} {Q : VK} (s : StR C X.K H ι S) (d1 : DV H ι dx x) (d2 : DV H ι dy y)
    (p : Post C X.K W σ DV H ι (NF.bnd (inD dx dy) (fun b => NF.ret (.bl (if neg then !b else b))) S) Q) : rInAll C X.K neg x y H Q := by
  unfold NF.bnd at p
  unfold inD at p
  cases dy with
  | str z =>
    cases dx with
    | str w => match w, p, d1 with
      | [c], p, d1 =>
        refine .inl ⟨c, strOf z, ?_, d2.1, ?_⟩
        · rw [DV] at d1; rw [d1.1]; rfl
        · have q : Q (.bl (if neg then !z.contains c else z.contains c)) H := p.ret s rfl
          rw [contains_mem] at q
          exact q
      | [], p, _ => exact p.elim
      | _ :: _ :: _, p, _ => exact p.elim
    | _ => exact p.elim
  | tup ds =>
    simp only at p
    cases ht : tree S 8 dx with
    | none => rw [ht] at p; exact p.elim
    | some t =>
      rw [ht] at p
      cases h : mapO (fun y => eqT S y dx) ds with
      | none => rw [h] at p; exact p.elim
      | some bs =>
        rw [h] at p
        obtain ⟨a, vs, rfl, ha, rd⟩ := d2
        obtain ⟨ts, h1, rfl⟩ := mapO_eq ht h
        refine .inr (.inl ⟨t, ts, tree_dp s 8 _ _ t ht d1, .tup (SqT.of ha) (trees_dp s 8 ds vs ts h1 rd), tree_shaped s ht d1, (trees8_shaped s h1 rd).2, ?_⟩)
        have q : Q (.bl (if neg then !(ts.map fun z => PyData.eqv z t).any id else (ts.map fun z => PyData.eqv z t).any id)) H := p.ret s rfl
        rw [any_map] at q
        exact q
  | ref n =>
    obtain ⟨a, rfl, ha⟩ := d2
    simp only [NF.bnd, NF.obj] at p
    cases ho : S[n]? with
    | none => rw [ho] at p; exact p.elim
    | some o =>
      rw [ho] at p
      have look := s.look ho ha
      cases o with
      | lst ds =>
        simp only at p
        cases ht : tree S 8 dx with
        | none => rw [ht] at p; exact p.elim
        | some t =>
          rw [ht] at p
          cases h : mapO (fun y => eqT S y dx) ds with
          | none => rw [h] at p; exact p.elim
          | some bs =>
            rw [h] at p
            obtain ⟨vs, hl, rd⟩ := look
            obtain ⟨ts, h1, rfl⟩ := mapO_eq ht h
            refine .inr (.inr (.inl ⟨t, ts, tree_dp s 8 _ _ t ht d1, .lst (SqL.of hl) (trees_dp s 8 ds vs ts h1 rd), tree_shaped s ht d1, (trees8_shaped s h1 rd).1, ?_⟩))
            have q : Q (.bl (if neg then !(ts.map fun z => PyData.eqv z t).any id else (ts.map fun z => PyData.eqv z t).any id)) H := p.ret s rfl
            rw [any_map] at q
            exact q
      | dct kvs =>
        simp only at p
        cases h : asPair dx with
        | none => rw [h] at p; exact p.elim
        | some k =>
          rw [h] at p
          obtain ⟨ws, hl, rd⟩ := look
          obtain ⟨b, rfl, hb⟩ := pair_dv h d1
          refine .inr (.inr (.inr (.inl ⟨a, _, rfl, dget_t (.inl hl) rfl hb, ?_⟩)))
          rw [← opt_isSome (kts_val k rd)]
          exact p.ret s rfl
      | lck kvs =>
        simp only at p
        cases h : asPair dx with
        | none => rw [h] at p; exact p.elim
        | some k =>
          rw [h] at p
          obtain ⟨ob, ws, hl, rd⟩ := look
          obtain ⟨b, rfl, hb⟩ := pair_dv h d1
          refine .inr (.inr (.inr (.inl ⟨a, _, rfl, dget_t (.inr ⟨ob, hl⟩) rfl hb, ?_⟩)))
          rw [← opt_isSome (kts_val k rd)]
          exact p.ret s rfl
      | dck kvs =>
        cases dx with
        | str k =>
          obtain ⟨ws, hl, rd⟩ := look
          rw [DV] at d1
          obtain ⟨rfl, _⟩ := d1
          refine .inr (.inr (.inr (.inl ⟨a, _, rfl, dget_k (.inl hl) k, ?_⟩)))
          rw [← opt_isSome (kks_val k rd)]
          exact p.ret s rfl
        | _ => exact p.elim
      | rod kvs =>
        cases dx with
        | str k =>
          rw [DV] at d1
          obtain ⟨rfl, _⟩ := d1
          exact .inr (.inr (.inr (.inr ⟨a, kvs, k, rfl, rfl, look, p.ret s rfl⟩)))
        | _ => exact p.elim
      | _ => exact p.elim
  | _ => exact p.elim
end
end NF
end -- NfCmp

section -- NfBi
set_option linter.all false
set_option autoImplicit false
set_option maxRecDepth 100000
set_option maxHeartbeats 1000000
/-! Subscripts, slices, built-in functions by values. -/
namespace NF
open PySem PySem.Spec PyProof.Rows L2
section
variable {C : Cfg} {X : Cx}
theorem orBad_post {α β : Type} {K : PySem.W.Frag} {W : WX} {σ : L2.St} {H : Hp} {ι : List Addr} {S : Store} {dv : Hp → List Addr → α → β → Prop} {o : Option α} {Q : β → Hp → Prop} (p : Post C K W σ dv H ι (orBad o S) Q) (s : StR C K H ι S) : ∃ a, o = some a ∧ ∀ b, dv H ι a b → Q b H := by
  cases o with
  | none => exact p.elim
  | some a => exact ⟨a, rfl, fun b d => p.ret s d⟩
theorem ixOf_eq (n : Nat) (i : Int) : ixOf n i = ixN n i := rfl
theorem atI_of {H : Hp} {ι : List Addr} {ds : List D} {vs : List V} (r : DVs H ι ds vs) {i : Int} {d : D} (h : ((ixOf ds.length i).bind fun j => ds[j]?) = some d) : ∃ v, atI vs i = some v ∧ DV H ι d v := by
  unfold atI
  rw [r.len, ← ixOf_eq]
  cases e : ixOf ds.length i with
  | none => rw [e] at h; cases h
  | some j => rw [e] at h; exact r.get h
theorem bv_idx : BV2 C X.K idxM (rIx X.K) := by
  intro W σ H ι S dx dy x y Q s d1 d2 p
  cases dx with
  | tup ds =>
    cases dy with
    | int i =>
      obtain ⟨d, h, q⟩ := orBad_post p s
      obtain ⟨a, vs, rfl, ha, rd⟩ := d1
      obtain ⟨v, e, dv⟩ := atI_of rd h
      exact .inr (.inl ⟨a, vs, i, v, rfl, d2, SqT.of ha, e, q v dv⟩)
    | _ => exact p.elim
  | str z =>
    cases dy with
    | int i =>
      unfold idxM at p
      simp only at p
      split at p
      · rename_i hl
        obtain ⟨d, h, q⟩ := orBad_post p s
        rw [DV] at d1
        obtain ⟨rfl, hz⟩ := d1
        cases e : ixOf z.length i with
        | none => rw [e] at h; cases h
        | some j =>
          rw [e] at h
          simp only [Option.bind_some] at h
          cases e2 : z[j]? with
          | none => rw [e2] at h; cases h
          | some c =>
            rw [e2] at h
            cases h
            refine .inr (.inr ⟨strOf z, i, c, rfl, d2, by rw [strOf_len]; exact Nat.le_trans hl line_le, ?_, ?_⟩)
            · unfold atI
              rw [strOf_list, ← ixOf_eq, e]
              exact e2
            · refine q _ ⟨rfl, ?_⟩
              unfold okS at hz ⊢
              rw [List.all_eq_true] at hz
              simpa using hz c (List.mem_of_getElem? e2)
      · exact p.elim
    | _ => exact p.elim
  | ref n =>
    cases dy with
    | int i =>
      obtain ⟨m, a, ds, vs, _, rfl, _, hq, rd, _, p⟩ := Post.lstOf (f := fun ds => orBad ((ixOf ds.length i).bind fun j => ds[j]?)) p s d1
      obtain ⟨d, h, q⟩ := orBad_post p s
      obtain ⟨v, e, dv⟩ := atI_of rd h
      exact .inl ⟨a, vs, i, v, rfl, d2, hq, e, q v dv⟩
    | _ => exact p.elim
  | _ => exact p.elim
/-! ### d[k] -/
def rDix (C : Cfg) (K : PySem.W.Frag) : R2 := fun x y H Q => (∃ a v, x = .ref a ∧ DGet H a y (some v) ∧ Q v H) ∨ ∃ (a : Addr) (kvs : List (List Nat × D)) (k : List Nat) (i : Int), x = .ref a ∧ y = .str (strOf k) ∧ RodAt K C.w a kvs ∧ kvGet kvs k = some (.int i) ∧ Q (.int i) H
theorem ix_dix (hw : X.w = C.w) (hu : X.A.units + 100 < cLine) : IxR X (rDix C X.K) := by
  intro value slice pins s σ H x y v u Q I rx ry h hs
  rcases h with ⟨a, v0, rfl, g, q⟩ | ⟨a, kvs, k, i, rfl, rfl, hr, hk, q⟩
  · cases rx
    exact tail_any (dict_typeIs I g) PySem.F.slot_dict_getitem.lookup (d_getItem (by omega) I g ry fun w' s3 I3 rw' => ⟨v0, H, I3, rw', q⟩) hs
  · obtain ⟨es, n, D, hall⟩ := hr
    have h := hall k
    rw [hk] at h
    obtain ⟨j, u0, e, h1, r0⟩ := h
    cases e
    cases rx
    rw [← hw] at D
    exact tail_any (kd_type D I) PySem.F.slot_dict_getitem.lookup (op_item_kd D pins s σ H (.ref a) (.str (strOf k)) (.ref a) u Q I rfl ry ⟨strOf k, u0, .int i, rfl, rfl, h1, r0, q⟩) hs
theorem get_some {H : Hp} {ι : List Addr} {α : Type} {f : Option D} {o : Option V} (h : match f with
    | some d => ∃ v, o = some v ∧ DV H ι d v
    | none => o = none) {d : D} (e : f = some d) : ∃ v, o = some v ∧ DV H ι d v := by
  rw [e] at h; exact h
theorem bv_dix : BV2 C X.K dixM (rDix C X.K) := by
  intro W σ H ι S dx dy x y Q s d1 d2 p
  cases dx with
  | ref n =>
    obtain ⟨a, rfl, ha⟩ := d1
    unfold dixM at p
    simp only [NF.bnd, NF.obj] at p
    cases ho : S[n]? with
    | none => rw [ho] at p; exact p.elim
    | some o =>
      rw [ho] at p
      have look := s.look ho ha
      cases o with
      | dct kvs =>
        obtain ⟨d, h, q⟩ := orBad_post p s
        obtain ⟨ws, hl, rd⟩ := look
        cases hk : asPair dy with
        | none => rw [hk] at h; cases h
        | some k =>
          rw [hk] at h
          simp only [Option.bind_some] at h
          obtain ⟨b, rfl, hb⟩ := pair_dv hk d2
          obtain ⟨v, e, dv⟩ := get_some (α := Unit) (kts_val k rd) h
          refine .inl ⟨a, v, rfl, ?_, q v dv⟩
          rw [← e]
          exact dget_t (.inl hl) rfl hb
      | dck kvs =>
        cases dy with
        | str k =>
          obtain ⟨d, h, q⟩ := orBad_post p s
          obtain ⟨ws, hl, rd⟩ := look
          rw [DV] at d2
          obtain ⟨rfl, _⟩ := d2
          obtain ⟨v, e, dv⟩ := get_some (α := Unit) (kks_val k rd) h
          refine .inl ⟨a, v, rfl, ?_, q v dv⟩
          rw [← e]
          exact dget_k (.inl hl) k
        | _ => exact p.elim
      | rod kvs =>
        cases dy with
        | str k =>
          obtain ⟨d, h, q⟩ := orBad_post p s
          rw [DV] at d2
          obtain ⟨rfl, _⟩ := d2
          obtain ⟨es, m, D, hall⟩ := id look
          have hk := hall k
          rw [h] at hk
          obtain ⟨i, u, rfl, _, _⟩ := hk
          exact .inr ⟨a, kvs, k, i, rfl, rfl, look, h, q _ rfl⟩
        | _ => exact p.elim
      | _ => exact p.elim
  | _ => exact p.elim
/-! ### slices -/
theorem sIx_eq (n d : Nat) (o : Option Int) : sIx n d o = HT.sIx n d o := by cases o <;> rfl
theorem cut_dvs {H : Hp} {ι : List Addr} {ds : List D} {vs : List V} (r : DVs H ι ds vs) (lo hi : Option Int) : DVs H ι (cut ds lo hi) (cutV vs lo hi) := by
  unfold cut cutV
  rw [r.len, sIx_eq, sIx_eq]
  exact (r.drop _).take _
def rSlAll (K : PySem.W.Frag) : V → Option Int → Option Int → Hp → VK → Prop := fun x lo hi H Q => rSlA K x lo hi H Q ∨ rSlS x lo hi H Q ∨ rSlL K x lo hi H Q
theorem sl_all : SlR X (rSlAll X.K) := sl_tupA.or (sl_str.or sl_list)
theorem okS_sub {x y : List Nat} (h : okS x = true) (hs : ∀ c, c ∈ y → c ∈ x) : okS y = true := by
  unfold okS at h ⊢
  rw [List.all_eq_true] at h ⊢
  exact fun c hc => h c (hs c hc)
theorem cut_sub {α : Type} {x : List α} {lo hi : Option Int} {c : α} (h : c ∈ cut x lo hi) : c ∈ x := List.mem_of_mem_drop (List.mem_of_mem_take h)
theorem cutS_eq (z : List Nat) (lo hi : Option Int) : cutS (strOf z) lo hi = strOf (cut z lo hi) := by
  unfold cutS cut strOf
  simp [sIx_eq, Str.length]
theorem slc_post {W : WX} {σ : L2.St} {H : Hp} {ι : List Addr} {S : Store} {dx : D} {x : V} {lo hi : Option Int} {Q : VK} (s : StR C X.K H ι S) (d1 : DV H ι dx x) (p : Post C X.K W σ DV H ι (slcM dx lo hi S) Q) : rSlAll X.K x lo hi H Q := by
  cases dx with
  | tup ds =>
    obtain ⟨a, vs, rfl, ha, rd⟩ := d1
    refine .inl ⟨a, vs, rfl, SqT.of ha, fun e => ?_, fun _ q hq => p.tup s (cut_dvs rd lo hi) hq⟩
    have e1 : cut ds lo hi = ds := by
      unfold cut
      rw [rd.len] at e
      rw [sIx_eq, sIx_eq, e.1, e.2]
      simp
    have p' : Post C X.K W σ DV H ι (.ok (.tup (cut ds lo hi)) S) Q := p
    rw [e1] at p'
    exact p'.ret s ⟨a, vs, rfl, ha, rd⟩
  | str z =>
    unfold slcM at p
    simp only at p
    split at p
    · rename_i hl
      rw [DV] at d1
      obtain ⟨rfl, hz⟩ := d1
      refine .inr (.inl ⟨strOf z, rfl, by rw [strOf_len]; exact Nat.le_trans hl line_le, ?_⟩)
      rw [cutS_eq]
      exact p.ret s ⟨rfl, okS_sub hz fun c => cut_sub⟩
    · exact p.elim
  | ref n =>
    obtain ⟨m, a, ds, vs, _, rfl, _, hq, rd, _, p⟩ := Post.lstOf (f := fun ds => NF.new (.lst (cut ds lo hi))) p s d1
    exact .inr (.inr ⟨a, vs, rfl, hq, fun q hn => p.lst s (cut_dvs rd lo hi) hn⟩)
  | _ => exact p.elim
/-! ### truth -/
theorem truth_post {β : Type} {W : WX} {σ : L2.St} {H : Hp} {ι : List Addr} {S : Store} {dx : D} {x : V} {Q : Bool → Hp → Prop} (s : StR C X.K H ι S) (d1 : DV H ι dx x) (p : Post C X.K W σ BV H ι (truthM dx S) Q) : ∃ k, TruV X.K x H k ∧ Q k H := by
  cases dx with
  | non => rw [DV] at d1; subst d1; exact ⟨false, rfl, p.ret s rfl⟩
  | bl b => rw [DV] at d1; subst d1; exact ⟨b, rfl, p.ret s rfl⟩
  | int i => rw [DV] at d1; subst d1; exact ⟨i != 0, rfl, p.ret s rfl⟩
  | str z =>
    unfold truthM at p
    simp only at p
    split at p
    · rename_i hl
      rw [DV] at d1
      obtain ⟨rfl, _⟩ := d1
      refine ⟨!z.isEmpty, ⟨by rw [strOf_len]; exact Nat.le_trans hl line_le, ?_⟩, p.ret s rfl⟩
      rw [strOf_len]
      cases z with
      | nil => rfl
      | cons a r =>
        have : ((r.length : Int) + 1 != 0) = true := by
          rw [bne_iff_ne]
          omega
        simpa using this.symm
    · exact p.elim
  | tup ds =>
    obtain ⟨a, vs, rfl, ha, rd⟩ := d1
    exact ⟨!ds.isEmpty, .inr (.inl ⟨vs, SqT.of ha, by rw [rd.isEmpty]⟩), p.ret s rfl⟩
  | ref n =>
    obtain ⟨m, a, ds, vs, _, rfl, _, hq, rd, _, p⟩ := Post.lstOf (f := fun ds => NF.ret (!ds.isEmpty)) p s d1
    exact ⟨!ds.isEmpty, .inl ⟨vs, hq, by rw [rd.isEmpty]⟩, p.ret s rfl⟩
/-! ### built-in functions -/
theorem dvs1 {H : Hp} {ι : List Addr} {d : D} {xs : List V} (h : DVs H ι [d] xs) : ∃ x, xs = [x] ∧ DV H ι d x := by
  obtain ⟨v, r, rfl, h1, h2⟩ := h
  rw [DVs] at h2; subst h2
  exact ⟨v, rfl, h1⟩
theorem dvs2 {H : Hp} {ι : List Addr} {d e : D} {xs : List V} (h : DVs H ι [d, e] xs) : ∃ x y, xs = [x, y] ∧ DV H ι d x ∧ DV H ι e y := by
  obtain ⟨v, r, rfl, h1, h2⟩ := h
  obtain ⟨w, rfl, h3⟩ := dvs1 h2
  exact ⟨v, w, rfl, h1, h3⟩
theorem Post.arg1 {K : PySem.W.Frag} {W : WX} {σ : L2.St} {H : Hp} {ι : List Addr} {S : Store} {f : D → M D} {ds : List D} {xs : List V} {Q : VK} (p : Post C K W σ DV H ι (NF.arg1 f ds S) Q) (r : DVs H ι ds xs) : ∃ d x, ds = [d] ∧ xs = [x] ∧ DV H ι d x ∧ Post C K W σ DV H ι (f d S) Q := by
  match ds, p, r with
  | [d], p, r =>
    obtain ⟨x, rfl, d1⟩ := dvs1 r
    exact ⟨d, x, rfl, rfl, d1, p⟩
  | [], p, _ => exact p.elim
  | _ :: _ :: _, p, _ => exact p.elim
theorem Post.arg2 {K : PySem.W.Frag} {W : WX} {σ : L2.St} {H : Hp} {ι : List Addr} {S : Store} {f : D → D → M D} {ds : List D} {xs : List V} {Q : VK} (p : Post C K W σ DV H ι (NF.arg2 f ds S) Q) (r : DVs H ι ds xs) :
    ∃ d e x y, ds = [d, e] ∧ xs = [x, y] ∧ DV H ι d x ∧ DV H ι e y ∧ Post C K W σ DV H ι (f d e S) Q := by
  match ds, p, r with
  | [d, e], p, r =>
    obtain ⟨x, y, rfl, d1, d2⟩ := dvs2 r
    exact ⟨d, e, x, y, rfl, rfl, d1, d2, p⟩
  | [], p, _ => exact False.elim p
  | [_], p, _ => exact False.elim p
  | _ :: _ :: _ :: _, p, _ => exact False.elim p
theorem Post.orBad {α β γ : Type} {K : PySem.W.Frag} {W : WX} {σ : L2.St} {H : Hp} {ι : List Addr} {S : Store} {dv : Hp → List Addr → α → β → Prop} {o : Option γ} {f : γ → M α} {Q : β → Hp → Prop} (p : Post C K W σ dv H ι (NF.bnd (NF.orBad o) f S) Q) : ∃ a, o = some a ∧ Post C K W σ dv H ι (f a S) Q := by
  cases o with
  | none => exact False.elim p
  | some a => exact ⟨a, rfl, p⟩
theorem Post.ifT {α β : Type} {K : PySem.W.Frag} {W : WX} {σ : L2.St} {H : Hp} {ι : List Addr} {S : Store} {dv : Hp → List Addr → α → β → Prop} {c : Prop} [Decidable c] {m : M α} {Q : β → Hp → Prop} (p : Post C K W σ dv H ι ((if c then m else bad) S) Q) : c ∧ Post C K W σ dv H ι (m S) Q := by
  by_cases h : c
  · rw [if_pos h] at p; exact ⟨h, p⟩
  · rw [if_neg h] at p; exact False.elim p
abbrev rLenB (K : PySem.W.Frag) : List V → Hp → VK → Prop := fun xs H Q => ∃ x n, xs = [x] ∧ LenV K x H n ∧ Q (.int n) H
theorem bv_len : BV1s C X.K (biM .len) (rLenB X.K) := by
  intro W σ H ι S ds xs Q s dvs p
  obtain ⟨d, x, rfl, rfl, d1, p⟩ := Post.arg1 p dvs
  cases d with
  | str z =>
    obtain ⟨hl, p⟩ := Post.ifT (m := NF.ret (D.int z.length)) p
    rw [DV] at d1
    obtain ⟨rfl, _⟩ := d1
    exact ⟨_, z.length, rfl, ⟨by rw [strOf_len]; exact Nat.le_trans hl line_le, (strOf_len z).symm⟩, p.ret s rfl⟩
  | tup ds =>
    obtain ⟨a, vs, rfl, ha, rd⟩ := d1
    exact ⟨_, ds.length, rfl, .inr ⟨vs, SqT.of ha, rd.len.symm⟩, p.ret s rfl⟩
  | ref n =>
    obtain ⟨m, a, ds, vs, _, rfl, _, hq, rd, _, p⟩ := Post.lstOf (f := fun ds => NF.ret (D.int ds.length)) p s d1
    exact ⟨_, ds.length, rfl, .inl ⟨vs, hq, rd.len.symm⟩, p.ret s rfl⟩
  | _ => exact False.elim p
abbrev rListB (K : PySem.W.Frag) : List V → Hp → VK → Prop := fun xs H Q => ∃ p ys, xs = [.ref p] ∧ (SqL K H p ys ∨ SqT K H p ys) ∧ ∀ l, H l = none → Q (.ref l) (upd H l (.lst ys))
theorem bv_list : BV1s C X.K (biM .list) (rListB X.K) := by
  intro W σ H ι S ds xs Q s dvs p
  obtain ⟨d, x, rfl, rfl, d1, p⟩ := Post.arg1 p dvs
  cases d with
  | tup ds =>
    obtain ⟨a, vs, rfl, ha, rd⟩ := d1
    exact ⟨a, vs, rfl, .inr (SqT.of ha), fun l hl => Post.lst p s rd hl⟩
  | ref n =>
    obtain ⟨m, a, ds, vs, _, rfl, _, hq, rd, _, p⟩ := Post.lstOf (f := fun ds => NF.new (.lst ds)) p s d1
    exact ⟨a, vs, rfl, .inl hq, fun l hl => p.lst s rd hl⟩
  | _ => exact False.elim p
abbrev rTupleB (K : PySem.W.Frag) : List V → Hp → VK → Prop := fun xs H Q => ∃ p ys, xs = [.ref p] ∧ ((SqL K H p ys ∧ ∀ l, H l = none → Q (.ref l) (upd H l (.tup ys))) ∨ (SqT K H p ys ∧ Q (.ref p) H))
theorem bv_tuple : BV1s C X.K (biM .tuple) (rTupleB X.K) := by
  intro W σ H ι S ds xs Q s dvs p
  obtain ⟨d, x, rfl, rfl, d1, p⟩ := Post.arg1 p dvs
  obtain ⟨m, a, ds, vs, _, rfl, _, hq, rd, _, p⟩ := Post.lstOf (f := fun ds => NF.ret (D.tup ds)) p s d1
  exact ⟨a, vs, rfl, .inl ⟨hq, fun l hl => Post.tup p s rd hl⟩⟩
theorem mapO_cons {α β : Type} {f : α → Option β} {a : α} {r : List α} {bs : List β} (h : mapO f (a :: r) = some bs) : ∃ b cs, f a = some b ∧ mapO f r = some cs ∧ bs = b :: cs := by
  rw [mapO] at h
  cases e1 : f a with
  | none => rw [e1] at h; cases h
  | some b =>
    cases e2 : mapO f r with
    | none => rw [e1, e2] at h; cases h
    | some cs => rw [e1, e2] at h; cases h; exact ⟨b, cs, rfl, rfl, rfl⟩
theorem mapO_bl {H : Hp} {ι : List Addr} : ∀ {ds : List D} {bs : List Bool} {vs : List V}, mapO blO ds = some bs → DVs H ι ds vs → vs = bs.map V.bl
  | [], bs, vs, h, r => by rw [mapO] at h; cases h; rw [DVs] at r; subst r; rfl
  | d :: ds, bs, vs, h, r => by
    obtain ⟨v, q, rfl, h1, h2⟩ := r
    obtain ⟨b, cs, e1, e2, rfl⟩ := mapO_cons h
    cases d <;> simp only [blO, reduceCtorEq, Option.some.injEq] at e1
    subst e1
    rw [DV] at h1; subst h1
    rw [mapO_bl e2 h2] <;> rfl
theorem mapO_int {H : Hp} {ι : List Addr} : ∀ {ds : List D} {bs : List Int} {vs : List V}, mapO intOf ds = some bs → DVs H ι ds vs → vs = bs.map V.int
  | [], bs, vs, h, r => by rw [mapO] at h; cases h; rw [DVs] at r; subst r; rfl
  | d :: ds, bs, vs, h, r => by
    obtain ⟨v, q, rfl, h1, h2⟩ := r
    obtain ⟨b, cs, e1, e2, rfl⟩ := mapO_cons h
    cases d <;> simp only [intOf, reduceCtorEq, Option.some.injEq] at e1
    subst e1
    rw [DV] at h1; subst h1
    rw [mapO_int e2 h2] <;> rfl
theorem mapO_str {H : Hp} {ι : List Addr} : ∀ {ds : List D} {bs : List (List Nat)} {vs : List V}, mapO strO ds = some bs → DVs H ι ds vs → vs = (bs.map strOf).map V.str ∧ ∀ b ∈ bs, okS b = true
  | [], bs, vs, h, r => by rw [mapO] at h; cases h; rw [DVs] at r; subst r; exact ⟨rfl, fun b hb => by cases hb⟩
  | d :: ds, bs, vs, h, r => by
    obtain ⟨v, q, rfl, h1, h2⟩ := r
    obtain ⟨b, cs, e1, e2, rfl⟩ := mapO_cons h
    cases d <;> simp only [strO, reduceCtorEq, Option.some.injEq] at e1
    subst e1
    rw [DV] at h1
    obtain ⟨rfl, hz⟩ := h1
    obtain ⟨g1, g2⟩ := mapO_str e2 h2
    rw [g1]
    exact ⟨rfl, fun b hb => by
      rcases List.mem_cons.mp hb with rfl | hb
      · exact hz
      · exact g2 b hb⟩
theorem bv_all : BV1s C X.K (biM .all) (rAll X.K) := by
  intro W σ H ι S ds xs Q s dvs p
  obtain ⟨d, x, rfl, rfl, d1, p⟩ := Post.arg1 p dvs
  obtain ⟨m, a, ds, vs, _, rfl, _, hq, rd, _, p⟩ := Post.lstOf p s d1
  obtain ⟨bs, h, p⟩ := Post.orBad p
  rw [mapO_bl h rd] at hq
  exact ⟨a, bs, rfl, hq, p.ret s rfl⟩
theorem bv_any : BV1s C X.K (biM .any) (rAny X.K) := by
  intro W σ H ι S ds xs Q s dvs p
  obtain ⟨d, x, rfl, rfl, d1, p⟩ := Post.arg1 p dvs
  obtain ⟨m, a, ds, vs, _, rfl, _, hq, rd, _, p⟩ := Post.lstOf p s d1
  obtain ⟨bs, h, p⟩ := Post.orBad p
  rw [mapO_bl h rd] at hq
  exact ⟨a, bs, rfl, hq, p.ret s rfl⟩
theorem foldl_max : ∀ (is : List Int) (i : Int), (is.foldl max i = i ∨ is.foldl max i ∈ is) ∧ i ≤ is.foldl max i ∧ ∀ y ∈ is, y ≤ is.foldl max i
  | [], i => ⟨.inl rfl, Int.le_refl _, fun y hy => by cases hy⟩
  | a :: r, i => by
    rw [List.foldl_cons]
    obtain ⟨h1, h2, h3⟩ := foldl_max r (max i a)
    refine ⟨?_, by omega, fun y hy => ?_⟩
    · rcases h1 with h1 | h1
      · rw [h1]
        by_cases h : i ≤ a
        · right; rw [Int.max_eq_right h]; exact List.mem_cons_self
        · left; omega
      · exact .inr (List.mem_cons_of_mem _ h1)
    · rcases List.mem_cons.mp hy with rfl | hy
      · omega
      · exact h3 y hy
theorem bv_max1 : BV1s C X.K (biM .max1) (rMax X.K) := by
  intro W σ H ι S ds xs Q s dvs p
  obtain ⟨d, x, rfl, rfl, d1, p⟩ := Post.arg1 p dvs
  obtain ⟨m, a, ds, vs, _, rfl, _, hq, rd, _, p⟩ := Post.lstOf p s d1
  obtain ⟨mm, h, p⟩ := Post.orBad p
  cases hb : mapO intOf ds with
  | none => rw [hb] at h; cases h
  | some bs =>
    rw [hb] at h
    rw [mapO_int hb rd] at hq
    cases bs with
    | nil => cases h
    | cons i is =>
      simp only [Option.bind_some, maxL, Option.some.injEq] at h
      subst h
      refine ⟨a, i :: is, rfl, hq, by simp, fun mx hm hle => ?_⟩
      have q : Q (.int (is.foldl max i)) H := p.ret s rfl
      have e : is.foldl max i = mx := by
        obtain ⟨h1, h2, h3⟩ := foldl_max is i
        have a1 : is.foldl max i ≤ mx := by
          rcases h1 with h1 | h1
          · rw [h1]; exact hle i List.mem_cons_self
          · exact hle _ (List.mem_cons_of_mem _ h1)
        have a2 : mx ≤ is.foldl max i := by
          rcases List.mem_cons.mp hm with rfl | hm
          · exact h2
          · exact h3 _ hm
        omega
      rw [e] at q
      exact q
abbrev rMax2 : List V → Hp → VK → Prop := fun xs H Q => ∃ i j, xs = [.int i, .int j] ∧ Q (.int (if j > i then j else i)) H
abbrev rMin2 : List V → Hp → VK → Prop := fun xs H Q => ∃ i j, xs = [.int i, .int j] ∧ Q (.int (if j < i then j else i)) H
theorem bv_max2 : BV1s C X.K (biM .max2) rMax2 := by
  intro W σ H ι S ds xs Q s dvs p
  obtain ⟨d, e, x, y, rfl, rfl, d1, d2, p⟩ := Post.arg2 p dvs
  obtain ⟨i, j, rfl, rfl, p⟩ := intB_post d1 d2 p
  exact ⟨i, j, rfl, p.ret s rfl⟩
theorem bv_min2 : BV1s C X.K (biM .min2) rMin2 := by
  intro W σ H ι S ds xs Q s dvs p
  obtain ⟨d, e, x, y, rfl, rfl, d1, d2, p⟩ := Post.arg2 p dvs
  obtain ⟨i, j, rfl, rfl, p⟩ := intB_post d1 d2 p
  exact ⟨i, j, rfl, p.ret s rfl⟩
theorem numL_str (i : Int) : strOf (numL i) = (↑(toString i) : Str) := by
  show strOf (numL i) = Str.ofString (toString i)
  rw [Str.ofString_eq_toList]
  rfl
theorem char_small (c : Char) : c.toNat < 0x110000 := by
  have h := c.valid
  simp only [UInt32.isValidChar, Nat.isValidChar] at h
  show c.val.toNat < 1114112
  omega
theorem numL_ok (i : Int) : okS (numL i) = true := by
  unfold okS numL
  rw [List.all_eq_true]
  intro c hc
  obtain ⟨ch, _, rfl⟩ := List.mem_map.mp hc
  simpa using char_small ch
abbrev rStrB : List V → Hp → VK → Prop := fun xs H Q => (∃ i, xs = [.int i] ∧ i.natAbs.log2 < 1920 ∧ Q (.str (toString i)) H) ∨ ∃ a, xs = [.str a] ∧ Q (.str a) H
theorem cr_strB : CallR X (.type "str") rStrB := call_str_int.or SkE.call_str_str
theorem bv_str : BV1s C X.K (biM .str) rStrB := by
  intro W σ H ι S ds xs Q s dvs p
  obtain ⟨d, x, rfl, rfl, d1, p⟩ := Post.arg1 p dvs
  cases d with
  | int i =>
    rw [DV] at d1; subst d1
    obtain ⟨h, p⟩ := Post.ifT (m := NF.ret (D.str (numL i))) p
    refine .inl ⟨i, rfl, ?_, ?_⟩
    · have : i.natAbs.log2 ≤ i.natAbs := Nat.log2_le_self _
      by_cases hz : i.natAbs = 0
      · rw [hz]; decide
      · have := (Nat.log2_lt hz).mpr (show i.natAbs < 2 ^ 20 by omega)
        omega
    · rw [← numL_str]
      exact p.ret s ⟨rfl, numL_ok i⟩
  | str z =>
    rw [DV] at d1
    obtain ⟨rfl, hz⟩ := d1
    exact .inr ⟨_, rfl, p.ret s ⟨rfl, hz⟩⟩
  | _ => exact False.elim p
abbrev rIntB : List V → Hp → VK → Prop := fun xs H Q => ((∃ i, xs = [.int i] ∧ Q (.int i) H) ∨ ∃ k, xs = [.bl k] ∧ Q (.int (if k then 1 else 0)) H) ∨ ∃ a n, xs = [.str a] ∧ PySem.intText? a = some n ∧ a.length ≤ 640 ∧ Q (.int n) H
end
end NF
end -- NfBi

section -- NfBm
set_option linter.all false
set_option autoImplicit false
set_option maxRecDepth 100000
set_option maxHeartbeats 1000000
/-! Methods of built-in types by values. -/
namespace NF
open PySem PySem.Spec PyProof.Rows L2
/-- a method's meaning by values -/
def BVm (C : Cfg) (K : PySem.W.Frag) (f : D → List D → M D) (r : V → List V → Hp → VK → Prop) : Prop :=
  ∀ (W : WX) (σ : L2.St) (H : Hp) (ι : List Addr) (S : Store) (dx : D) (ds : List D) (x : V) (xs : List V) (Q : VK), StR C K H ι S → DV H ι dx x → DVs H ι ds xs → Post C K W σ DV H ι (f dx ds S) Q → r x xs H Q
section
variable {C : Cfg} {X : Cx}
/-- a list that may be written -/
theorem Post.mlst {α β : Type} {K : PySem.W.Frag} {W : WX} {σ : L2.St} {H : Hp} {ι : List Addr} {S : Store} {dv : Hp → List Addr → α → β → Prop} {d : D} {v : V} {f : Nat × List D → M α} {Q : β → Hp → Prop} (p : Post C K W σ dv H ι (NF.bnd (NF.mlst d) f S) Q) (s : StR C K H ι S) (r : DV H ι d v) :
    ∃ n a ds vs, d = .ref n ∧ v = .ref a ∧ ι[n]? = some a ∧ S[n]? = some (.lst ds) ∧ H a = some (.lst vs) ∧ DVs H ι ds vs ∧ Post C K W σ dv H ι (f (n, ds) S) Q := by
  cases d with
  | ref n =>
    obtain ⟨a, rfl, ha⟩ := r
    unfold NF.mlst NF.bnd at p
    simp only at p
    unfold NF.obj at p
    cases h : S[n]? with
    | none => simp only [NF.bnd, h] at p; exact p.elim
    | some o =>
      simp only [NF.bnd, h] at p
      cases o with
      | lst ds =>
        obtain ⟨vs, h1, h2⟩ := s.look h ha
        exact ⟨n, a, ds, vs, rfl, rfl, ha, h, h1, h2, p⟩
      | _ => exact p.elim
  | _ => exact p.elim
/-- a list is written: what follows -/
theorem Post.putL {α β : Type} {K : PySem.W.Frag} {W : WX} {σ : L2.St} {H : Hp} {ι : List Addr} {S : Store} {dv : Hp → List Addr → α → β → Prop} {n : Nat} {a : Addr} {ds es : List D} {vs ws : List V} {f : Unit → M α} {Q : β → Hp → Prop}
    (p : Post C K W σ dv H ι (NF.bnd (NF.put n (.lst es)) f S) Q) (s : StR C K H ι S) (ha : ι[n]? = some a) (hn : S[n]? = some (.lst ds)) (hv : H a = some (.lst vs)) (r : DVs H ι es ws) :
    StR C K (upd H a (.lst ws)) ι (S.set n (.lst es)) ∧ Ext H ι (upd H a (.lst ws)) ι ∧ Post C K W σ dv (upd H a (.lst ws)) ι (f () (S.set n (.lst es))) Q := by
  obtain ⟨s2, e2⟩ := s.put' (o' := .lst es) (u := .lst ws) hn rfl ha (fun ob x z => by rw [hv] at z; cases z) rfl (fun e => ⟨ws, upd_same, r.ext e⟩)
  exact ⟨s2, e2, Post.ext (r := f () (S.set n (.lst es))) p e2⟩
theorem bm_append : BVm C X.K (bmM .append) rAppend := by
  intro W σ H ι S dx ds x xs Q s d1 ds1 p
  obtain ⟨d, y, rfl, rfl, d2, p⟩ := Post.arg1 p ds1
  obtain ⟨n, a, es, vs, rfl, rfl, ha, hn, hv, rd, p⟩ := Post.mlst p s d1
  obtain ⟨hl, p⟩ := Post.ifT p
  obtain ⟨s2, e2, p⟩ := Post.putL p s ha hn hv (rd.app (DVs.one d2))
  exact ⟨a, vs, y, rfl, rfl, hv, by rw [rd.len]; exact Nat.lt_of_lt_of_le hl line_le, p.ret s2 rfl⟩
theorem bm_extend : BVm C X.K (bmM .extend) rExtend := by
  intro W σ H ι S dx ds x xs Q s d1 ds1 p
  obtain ⟨d, y, rfl, rfl, d2, p⟩ := Post.arg1 p ds1
  obtain ⟨n, a, es, vs, rfl, rfl, ha, hn, hv, rd, p⟩ := Post.mlst p s d1
  obtain ⟨m, b, fs, us, rfl, rfl, hb, hm, hu, rb, p⟩ := Post.mlst p s d2
  obtain ⟨hl, p⟩ := Post.ifT p
  obtain ⟨s2, e2, p⟩ := Post.putL p s ha hn hv (rd.app rb)
  exact ⟨a, b, vs, us, rfl, rfl, hv, hu, by rw [rd.len, rb.len]; exact Nat.le_trans hl line_le, p.ret s2 rfl⟩
abbrev rInsert : V → List V → Hp → VK → Prop := fun x vs H Q => ∃ (l : Addr) (xs : List V) (i : Int) (y : V), x = .ref l ∧ vs = [.int i, y] ∧ H l = some (.lst xs) ∧ xs.length < sizeLine ∧ 0 ≤ i ∧ i < 2 ^ 63 ∧ Q .non (upd H l (.lst (xs.take i.toNat ++ [y] ++ xs.drop i.toNat)))
theorem bm_insert : BVm C X.K (bmM .insert) rInsert := by
  intro W σ H ι S dx ds x xs Q s d1 ds1 p
  obtain ⟨di, d, y, z, rfl, rfl, d2, d3, p⟩ := Post.arg2 p ds1
  obtain ⟨n, a, es, vs, rfl, rfl, ha, hn, hv, rd, p⟩ := Post.mlst p s d1
  cases di with
  | int i =>
    rw [DV] at d2; subst d2
    obtain ⟨hl, p⟩ := Post.ifT p
    simp only [Bool.and_eq_true, decide_eq_true_eq] at hl
    obtain ⟨s2, e2, p⟩ := Post.putL p s ha hn hv (((rd.take i.toNat).app (DVs.one d3)).app (rd.drop i.toNat))
    have hl1 := hl.1.1
    have : line = 1000000 := rfl
    exact ⟨a, vs, i, z, rfl, rfl, hv, by rw [rd.len]; exact Nat.lt_of_lt_of_le hl1 line_le, hl.1.2, by have := hl.2; omega, p.ret s2 rfl⟩
  | _ => exact False.elim p
theorem dvs_last {H : Hp} {ι : List Addr} {ds : List D} {vs : List V} {d : D} (r : DVs H ι ds vs) (h : ds.getLast? = some d) : ∃ v, vs[vs.length - 1]? = some v ∧ DV H ι d v := by
  rw [List.getLast?_eq_getElem?] at h
  rw [r.len]
  exact r.get h
theorem dvs_init {H : Hp} {ι : List Addr} {ds : List D} {vs : List V} (r : DVs H ι ds vs) : DVs H ι ds.dropLast vs.dropLast := by
  rw [List.dropLast_eq_take, List.dropLast_eq_take, r.len]
  exact r.take _
theorem dvs_erase {H : Hp} {ι : List Addr} : ∀ {ds : List D} {vs : List V} (i : Nat), DVs H ι ds vs → DVs H ι (ds.eraseIdx i) (vs.eraseIdx i)
  | [], vs, i, h => by rw [DVs] at h; subst h; simp [DVs]
  | d :: ds, vs, 0, h => by
    obtain ⟨v, r, rfl, _, h2⟩ := h
    exact h2
  | d :: ds, vs, i + 1, h => by
    obtain ⟨v, r, rfl, h1, h2⟩ := h
    exact ⟨v, r.eraseIdx i, rfl, h1, dvs_erase i h2⟩
theorem bm_pop0 : BVm C X.K (bmM .pop0) rPop := by
  intro W σ H ι S dx ds x xs Q s d1 ds1 p
  cases ds with
  | cons a r => exact False.elim p
  | nil =>
    rw [DVs] at ds1; subst ds1
    obtain ⟨n, a, es, vs, rfl, rfl, ha, hn, hv, rd, p⟩ := Post.mlst (f := fun p => NF.bnd (NF.orBad p.2.getLast?) fun d => NF.bnd (NF.put p.1 (.lst p.2.dropLast)) fun _ => NF.ret d) p s d1
    obtain ⟨d, h, p⟩ := Post.orBad p
    obtain ⟨v, e, dv⟩ := dvs_last rd h
    obtain ⟨s2, e2, p⟩ := Post.putL p s ha hn hv (dvs_init rd)
    exact ⟨a, vs, v, rfl, rfl, hv, e, p.ret s2 (dv.ext e2)⟩
theorem bm_pop1 : BVm C X.K (bmM .pop1) rPopAt := by
  intro W σ H ι S dx ds x xs Q s d1 ds1 p
  obtain ⟨di, y, rfl, rfl, d2, p⟩ := Post.arg1 p ds1
  obtain ⟨n, a, es, vs, rfl, rfl, ha, hn, hv, rd, p⟩ := Post.mlst p s d1
  cases di with
  | int i =>
    rw [DV] at d2; subst d2
    obtain ⟨hl, p⟩ := Post.ifT p
    obtain ⟨d, h, p⟩ := Post.orBad p
    obtain ⟨v, e, dv⟩ := rd.get h
    simp only [Bool.and_eq_true, decide_eq_true_eq, small_iff] at hl
    obtain ⟨s2, e2, p⟩ := Post.putL p s ha hn hv (dvs_erase i.toNat rd)
    have hlt : i.toNat < vs.length := (List.getElem?_eq_some_iff.mp e).1
    refine ⟨a, vs, i, i.toNat, v, rfl, rfl, hv, by omega, by omega, ?_, e, p.ret s2 (dv.ext e2)⟩
    exact PySem.StrLaws.seqIndex_nonneg hl.1 (by omega)
  | _ => exact False.elim p
/-! ### count, index -/
theorem eqAll_some {S : Store} {x : D} {ds : List D} {bs : List Bool} (h : eqAll S x ds = some bs) : ∃ t ts, tree S 8 x = some t ∧ mapO (tree S 8) ds = some ts ∧ bs = ts.map fun z => PyData.eqv z t := by
  unfold eqAll at h
  split at h
  · rename_i t cs h1 h2
    cases h
    obtain ⟨ts, h3, h4⟩ := mapO_eq h1 h2
    exact ⟨t, ts, h1, h3, h4⟩
  · cases h
def rCountD (K : PySem.W.Frag) : V → List V → Hp → VK → Prop := fun x xs H Q => ∃ (a : Addr) (y : V) (d : PyData) (ds : List PyData), x = V.ref a ∧ xs = [y] ∧ Dp K H (V.ref a) (.list ds) ∧ Dp K H y d ∧
  SeqAt.shaped (.list ds) = true ∧ SeqAt.shaped d = true ∧ Q (.int ((ds.countP fun z => PyData.eqv z d : Nat))) H
theorem mt_countD (hu : X.A.units + 100 < cLine) : MtR X "list.count" (rCountD X.K) := by
  intro pins s σ H x xs v us Q I rx rxs h
  obtain ⟨a, y, d, ds, rfl, rfl, hl, hy, sl, sd, q⟩ := h
  cases rx
  cases rxs with
  | cons ry rt =>
    rename_i uy ut
    cases rt
    obtain ⟨bs, r1⟩ := Dp.reads I d y uy hy ry
    have hxs : PyData.canLayAll0 ds = true := SeqAt.canLay_of_shaped sl
    have hroom : X.A.units + 1 + min (PyData.depthAll ds) d.depth < cLine := room_in hu sd
    cases hl with
    | lst hs ha =>
      obtain ⟨its, rv, ⟨⟨cls, dd, data, sls⟩, n, ho, hc, hdn, hdt⟩, hlen⟩ := I.list hs
      simp only at hc hdt
      subst hc hdt
      obtain ⟨as, h4⟩ := Dp.readsAll I ds _ its ha rv
      have hmap : its.map (SeqAt.readOf s.heap) = ds := SeqAt.readsAll_map ds its as hxs h4
      refine call_meets PySem.F.slot_list_count ⟨_, ho, rfl⟩ PySem.F.entry_list_count (PySem.F.args_list_count_2 _ _)
        (SeqAt.list_countAt a its.toArray n dd sls uy (fun u => PyData.eqv (SeqAt.readOf s.heap u) d)) ⟨ho, SeqAt.items_eqAt (vs := its.toArray) (show ReadsAll s.heap its.toArray.toList ds as from h4) r1 hxs (SeqAt.canLay_of_shaped sd) hroom, ?_⟩
      have e : its.countP (fun u => PyData.eqv (SeqAt.readOf s.heap u) d) = ds.countP fun z => PyData.eqv z d := by
        conv => rhs; rw [← hmap]
        rw [List.countP_map]
        rfl
      rw [List.toList_toArray, e]
      exact ⟨V.int _, H, I.tok _, ⟨_, rfl⟩, q⟩
theorem count_map {α : Type} (f : α → Bool) : ∀ l : List α, (l.map f).count true = l.countP f
  | [] => rfl
  | a :: r => by
    rw [List.map_cons, List.count_cons, List.countP_cons, count_map f r]
    cases f a <;> simp
theorem bm_count : BVm C X.K (bmM .count) (rCountD X.K) := by
  intro W σ H ι S dx ds x xs Q s d1 ds1 p
  obtain ⟨d, y, rfl, rfl, d2, p⟩ := Post.arg1 p ds1
  obtain ⟨n, a, es, vs, _, rfl, ha, hq, rd, _, p⟩ := Post.lstOf p s d1
  obtain ⟨bs, h, p⟩ := Post.orBad (o := eqAll S d es) (f := fun bs => NF.ret (D.int (bs.count true))) p
  obtain ⟨t, ts, h1, h2, rfl⟩ := eqAll_some h
  refine ⟨a, y, t, ts, rfl, rfl, .lst hq (trees_dp s 8 es vs ts h2 rd), tree_dp s 8 _ _ t h1 d2, (trees8_shaped s h2 rd).1, tree_shaped s h1 d2, ?_⟩
  have q : Q (.int ((ts.map fun z => PyData.eqv z t).count true)) H := p.ret s rfl
  rw [count_map] at q
  exact q
theorem bm_index : BVm C X.K (bmM .index) (rIndexD X.K) := by
  intro W σ H ι S dx ds x xs Q s d1 ds1 p
  obtain ⟨d, y, rfl, rfl, d2, p⟩ := Post.arg1 p ds1
  obtain ⟨n, a, es, vs, _, rfl, ha, hq, rd, _, p⟩ := Post.lstOf p s d1
  obtain ⟨j, h, p⟩ := Post.orBad (f := fun (i : Nat) => NF.ret (D.int i)) p
  cases hb : eqAll S d es with
  | none => rw [hb] at h; cases h
  | some bs =>
    rw [hb] at h
    simp only [Option.bind_some] at h
    obtain ⟨t, ts, h1, h2, rfl⟩ := eqAll_some hb
    obtain ⟨hj, e1, e2⟩ := List.findIdx?_eq_some_iff_getElem.mp h
    have hjt : j < ts.length := by simpa using hj
    refine ⟨a, y, t, ts, j, ts[j], rfl, rfl, .lst hq (trees_dp s 8 es vs ts h2 rd), tree_dp s 8 _ _ t h1 d2, (trees8_shaped s h2 rd).1, tree_shaped s h1 d2, List.getElem?_eq_getElem hjt, by simpa using e1, fun m z hm hz => ?_, p.ret s rfl⟩
    have hmt : m < ts.length := by omega
    rw [List.getElem?_eq_getElem hmt] at hz
    cases hz
    have := e2 m hm
    simpa using this
/-! ### join, startswith -/
theorem joinL_eq (s : List Nat) : ∀ xs : List (List Nat), joinL s xs = TL.joinL s xs
  | [] => rfl
  | [_] => rfl
  | a :: b :: r => by
    show a ++ s ++ joinL s (b :: r) = a ++ (s ++ TL.joinL s (b :: r))
    rw [joinL_eq s (b :: r), List.append_assoc]
theorem tl_strOf (x : List Nat) : TL.tl (strOf x) = x := strOf_list x
theorem tl_inj' {x y : Str} (h : TL.tl x = TL.tl y) : x = y := by
  obtain ⟨⟨a⟩⟩ := x
  obtain ⟨⟨b⟩⟩ := y
  have : a = b := h
  subst this
  rfl
theorem join_strOf (s : List Nat) (xs : List (List Nat)) : Txt.join (strOf s) (xs.map strOf) = strOf (joinL s xs) := by
  refine tl_inj' ?_
  rw [TL.join_eq, TL.tl_join, tl_strOf, tl_strOf, joinL_eq, List.map_map]
  congr 1
  have : (TL.tl ∘ strOf) = id := funext fun x => tl_strOf x
  rw [this, List.map_id]
theorem joinL_len (s : List Nat) : ∀ xs : List (List Nat), xs ≠ [] → (xs.map List.length).sum + xs.length * s.length = (joinL s xs).length + s.length
  | [], h => absurd rfl h
  | [a], _ => by simp [joinL]
  | a :: b :: r, _ => by
    have ih := joinL_len s (b :: r) (by simp)
    show _ = (a ++ s ++ joinL s (b :: r)).length + s.length
    simp only [List.map_cons, List.sum_cons, List.length_cons, List.length_append] at ih ⊢
    rw [Nat.add_mul]
    omega
abbrev rJoinB (K : PySem.W.Frag) : V → List V → Hp → VK → Prop := fun x xs H Q => ∃ a p, ∃ ys : List Str, x = .str a ∧ xs = [.ref p] ∧ (SqL K H p (ys.map V.str) ∨ SqT K H p (ys.map V.str)) ∧ (ys.map (·.length)).sum + ys.length * a.length ≤ 16777216 ∧ Q (.str (Txt.join a ys)) H
theorem okS_join {s : List Nat} (hs : okS s = true) : ∀ {xs : List (List Nat)}, (∀ b ∈ xs, okS b = true) → okS (joinL s xs) = true
  | [], _ => rfl
  | [a], h => h a List.mem_cons_self
  | a :: b :: r, h => by
    have ih := okS_join hs (xs := b :: r) fun x hx => h x (List.mem_cons_of_mem _ hx)
    have ha := h a List.mem_cons_self
    show okS (a ++ s ++ joinL s (b :: r)) = true
    unfold okS at *
    rw [List.all_append, List.all_append, ha, hs, ih] <;> rfl
theorem bm_join : BVm C X.K (bmM .join) (rJoinB X.K) := by
  intro W σ H ι S dx ds x xs Q s d1 ds1 p
  obtain ⟨d, y, rfl, rfl, d2, p⟩ := Post.arg1 p ds1
  obtain ⟨z, hz, p⟩ := Post.orBad p
  obtain rfl : dx = .str z := by
    cases dx <;> simp only [strO, reduceCtorEq, Option.some.injEq] at hz
    rw [hz]
  rw [DV] at d1
  obtain ⟨rfl, hok⟩ := d1
  obtain ⟨n, a, es, vs, _, rfl, ha, hq, rd, _, p⟩ := Post.lstOf p s d2
  obtain ⟨bs, h, p⟩ := Post.orBad p
  obtain ⟨hl, p⟩ := Post.ifT p
  obtain ⟨rfl, hbs⟩ := mapO_str h rd
  refine ⟨strOf z, a, bs.map strOf, rfl, rfl, .inl hq, ?_, ?_⟩
  · have e : ((bs.map strOf).map (·.length)).sum = (bs.map List.length).sum := by
      rw [List.map_map]
      congr 1
    rw [e, List.length_map, strOf_len]
    have : line = 1000000 := rfl
    cases bs with
    | nil => simp
    | cons b r =>
      have hj := joinL_len z (b :: r) (by simp)
      omega
  · rw [join_strOf]
    exact p.ret s ⟨rfl, okS_join hok hbs⟩
end
end NF
end -- NfBm

section -- NfPE
set_option linter.all false
set_option autoImplicit false
set_option maxRecDepth 100000
set_option maxHeartbeats 1000000
/-! Expressions: each tree of the language is the reading of its PySem tree. -/
namespace NF
open PySem PySem.Spec PyProof.Rows L2
section
variable {C : Cfg} {X : Cx} {W : WX} {pos : Pos}
theorem me_var {i : Nat} {x : Str} (hN : X.N[i]? = some x) (hv : Vis X.env.scope x) (hd : (x == ("__debug__" : Str)) = false) (hcd : (x == ("__classdict__" : Str)) = false) : PE X (.Name x pos) (tD C X.K W fun ρ => orBad (ρ[i]?.join)) :=
  (pe_var hN hv hd hcd).imp fun σ H Q ⟨ρ, S, ι, er, s, p⟩ => by
    obtain ⟨d, h, q⟩ := orBad_post p s
    have h' : ρ[i]? = some (some d) := by
      cases e : ρ[i]? with
      | none => rw [e] at h; cases h
      | some o => rw [e] at h; cases o <;> cases h; rfl
    obtain ⟨v, hv, dv⟩ := er.2 i d h'
    exact ⟨v, hv, q v dv⟩
theorem me_const {e : Expr} {d : D} {v : V} (h : PE X e (tC v)) (hd : ∀ H ι S, StR C X.K H ι S → DV H ι d v) : PE X e (tD C X.K W fun _ => NF.ret d) :=
  h.imp fun σ H Q ⟨ρ, S, ι, er, s, p⟩ => p.ret s (hd H ι S s)
theorem me_int {i : Int} {j : Nat} : PE X (.Constant (.int i) j pos) (tD C X.K W fun _ => NF.ret (.int i)) := me_const pe_int fun _ _ _ _ => rfl
theorem me_str {x : Str} {z : List Nat} {j : Nat} (h : x = strOf z) (hz : okS z = true) : PE X (.Constant (.str x) j pos) (tD C X.K W fun _ => NF.ret (.str z)) := me_const pe_str fun _ _ _ _ => ⟨by rw [h], hz⟩
theorem me_bl {b : Bool} {j : Nat} : PE X (.Constant (.bool b) j pos) (tD C X.K W fun _ => NF.ret (.bl b)) := me_const pe_bl fun _ _ _ _ => rfl
theorem me_non {j : Nat} : PE X (.Constant .none j pos) (tD C X.K W fun _ => NF.ret .non) := me_const pe_non fun _ _ _ _ => rfl
theorem me_neg {i : Int} {j : Nat} {p2 : Pos} : PE X (.UnaryOp .USub (.Constant (.int i) j p2) pos) (tD C X.K W fun _ => NF.ret (.int (-i))) :=
  (pe_un un_neg (pe_int (i := i) (j := j) (pos := p2))).imp fun σ H Q ⟨ρ, S, ι, er, s, p⟩ => ⟨i, rfl, p.ret s rfl⟩
/-! ### arguments -/
theorem mes_nil : PA X [] (tDs C X.K W fun _ => NF.ret []) := pa_nil.imp fun σ H Q ⟨ρ, S, ι, er, s, p⟩ => p.ret s rfl
theorem mes_cons {e : Expr} {es : List Expr} {m : Env → M D} {ms : Env → M (List D)} (h : PE X e (tD C X.K W m)) (hs : PA X es (tDs C X.K W ms)) (st : starEach (e :: es) X.env = (false, eval e X.env) :: starEach es X.env) :
    PA X (e :: es) (tDs C X.K W fun ρ => NF.bnd (m ρ) fun d => NF.bnd (ms ρ) fun ds => NF.ret (d :: ds)) :=
  (pa_cons h hs st).imp fun σ H Q hh => one (g := fun d ρ => NF.bnd (ms ρ) fun ds => NF.ret (d :: ds)) hh fun ρ S ι d x H1 er s dv p => by
    refine ⟨ρ, S, ι, er, s, (p.bnd (dw := DVs)).mono ?_⟩
    rintro xs H2 ⟨ds, S2, ι2, e2, s2, r2, p2⟩
    exact p2.ret s2 ⟨x, xs, rfl, dv.ext e2, r2⟩
theorem me_tup {es : List Expr} {k : Nat} {ms : Env → M (List D)} (h : PA X es (tDs C X.K W ms)) (hl : es.length ≤ line) (len : ∀ ρ S ds S', ms ρ S = .ok ds S' → ds.length = es.length) : PE X (.Tuple es k pos) (tD C X.K W fun ρ => NF.bnd (ms ρ) fun ds => NF.ret (.tup ds)) :=
  (pe_tup h).imp fun σ H Q hh => by
    obtain ⟨ρ, S, ι, er, s, p⟩ := hh
    refine ⟨ρ, S, ι, er, s, ?_⟩
    unfold NF.bnd at p
    simp only at p
    cases hm : ms ρ S with
    | bad => rw [hm] at p; exact False.elim p
    | exn c S1 => rw [hm] at p; exact p
    | ok ds S1 =>
      rw [hm] at p
      intro xs H1 ι1 e1 s1 r1
      refine ⟨by rw [r1.len, len ρ S ds S1 hm]; exact Nat.le_trans hl line_le, fun q hq => Post.tup (Post.ext p e1) s1 r1 hq⟩
theorem me_lst {es : List Expr} {ms : Env → M (List D)} (h : PA X es (tDs C X.K W ms)) (hl : es.length ≤ line) (len : ∀ ρ S ds S', ms ρ S = .ok ds S' → ds.length = es.length) : PE X (.List es pos) (tD C X.K W fun ρ => NF.bnd (ms ρ) fun ds => NF.new (.lst ds)) :=
  (pe_lst h).imp fun σ H Q hh => by
    obtain ⟨ρ, S, ι, er, s, p⟩ := hh
    refine ⟨ρ, S, ι, er, s, ?_⟩
    unfold NF.bnd at p
    simp only at p
    cases hm : ms ρ S with
    | bad => rw [hm] at p; exact False.elim p
    | exn c S1 => rw [hm] at p; exact p
    | ok ds S1 =>
      rw [hm] at p
      intro xs H1 ι1 e1 s1 r1
      have p' : Post C X.K W σ DV H1 ι1 (NF.new (.lst ds) S1) Q := Post.ext (r := NF.new (.lst ds) S1) p e1
      exact ⟨by rw [r1.len, len ρ S ds S1 hm]; exact Nat.le_trans hl line_le, fun q hq => p'.lst s1 r1 hq⟩
theorem me_dctT : PE X (.Dict [] [] pos) (tD C X.K W fun _ => NF.new (.dct [])) := pe_dnewT.imp fun σ H Q ⟨ρ, S, ι, er, s, p⟩ q hq => p.new s hq rfl ⟨[], upd_same, rfl⟩
theorem me_dctK : PE X (.Dict [] [] pos) (tD C X.K W fun _ => NF.new (.dck [])) := pe_dnewK.imp fun σ H Q ⟨ρ, S, ι, er, s, p⟩ q hq => p.new s hq rfl ⟨[], upd_same, rfl⟩
/-! ### comparisons -/
variable {a b c : Expr} {ma mb mc : Env → M D}
theorem me_isn {j : Nat} {p2 : Pos} (ha : PE X a (tD C X.K W ma)) : PE X (.Compare a [.Is] [.Constant .none j p2] pos) (tD C X.K W fun ρ => NF.bnd (ma ρ) fun x => NF.ret (.bl (isN x))) :=
  (pe_cmp (pc_isN ha) rfl).imp fun σ H Q hh => one (g := fun x _ => NF.ret (D.bl (isN x))) hh fun ρ S ι d x H1 er s dv p => by
    have e : isN d = decide (x = .non) := by
      cases d <;> simp only [DV] at dv
      case non => subst dv; rfl
      case bl => subst dv; rfl
      case int => subst dv; rfl
      case str => obtain ⟨rfl, _⟩ := dv; rfl
      case tup => obtain ⟨_, _, rfl, _⟩ := dv; rfl
      case ref => obtain ⟨_, rfl, _⟩ := dv; rfl
    rw [← e]
    exact p.ret s rfl
theorem me_isnt {j : Nat} {p2 : Pos} (ha : PE X a (tD C X.K W ma)) : PE X (.Compare a [.IsNot] [.Constant .none j p2] pos) (tD C X.K W fun ρ => NF.bnd (ma ρ) fun x => NF.ret (.bl (!isN x))) :=
  (pe_cmp (pc_notN ha) rfl).imp fun σ H Q hh => one (g := fun x _ => NF.ret (D.bl (!isN x))) hh fun ρ S ι d x H1 er s dv p => by
    have e : isN d = decide (x = .non) := by
      cases d <;> simp only [DV] at dv
      case non => subst dv; rfl
      case bl => subst dv; rfl
      case int => subst dv; rfl
      case str => obtain ⟨rfl, _⟩ := dv; rfl
      case tup => obtain ⟨_, _, rfl, _⟩ := dv; rfl
      case ref => obtain ⟨_, rfl, _⟩ := dv; rfl
    rw [← e]
    exact p.ret s rfl
theorem me_ife {ct : Expr} {mt : Env → M Bool} (hc : PT X ct (tT C X.K W mt)) (ha : PE X a (tD C X.K W ma)) (hb : PE X b (tD C X.K W mb)) : PE X (.IfExp ct a b pos) (tD C X.K W fun ρ => NF.bnd (mt ρ) fun k => if k then ma ρ else mb ρ) :=
  (pe_ifExp hc ha hb).imp fun σ H Q ⟨ρ, S, ι, er, s, p⟩ => by
    refine ⟨ρ, S, ι, er, s, (p.bnd (dw := BV)).mono ?_⟩
    rintro k H1 ⟨_, S1, ι1, e1, s1, rfl, p1⟩
    cases k with
    | true => exact ⟨ρ, S1, ι1, er.ext e1, s1, p1⟩
    | false => exact ⟨ρ, S1, ι1, er.ext e1, s1, p1⟩
theorem me_notv (ha : PE X a (tD C X.K W ma)) : PE X (.UnaryOp .Not a pos) (tD C X.K W fun ρ => NF.bnd (ma ρ) fun x => match x with | .bl b => NF.ret (.bl (!b)) | _ => bad) :=
  (pe_not ha).imp fun σ H Q hh => one (g := fun x _ => match x with | .bl b => NF.ret (D.bl (!b)) | _ => bad) hh fun ρ S ι d x H1 er s dv p => by
    cases d with
    | bl b => rw [DV] at dv; subst dv; exact ⟨b, rfl, p.ret s rfl⟩
    | _ => exact False.elim p
theorem me_and1 {op : BoolOp} (ha : PE X a (tD C X.K W ma)) : PE X (.BoolOp op [a] pos) (tD C X.K W ma) := pe_one ha
theorem me_and {rest : List Expr} (ha : PE X a (tD C X.K W ma)) (hb : PE X (.BoolOp .And (b :: rest) pos) (tD C X.K W mb)) : PE X (.BoolOp .And (a :: b :: rest) pos) (tD C X.K W fun ρ => NF.bnd (ma ρ) fun d => match d with
    | .bl true => mb ρ
    | .bl false => NF.ret (.bl false)
    | _ => bad) :=
  (pe_and ha hb).imp fun σ H Q hh => one (g := fun d ρ => match d with
    | .bl true => mb ρ
    | .bl false => NF.ret (.bl false)
    | _ => bad) hh fun ρ S ι d x H1 er s dv p => by
    cases d with
    | bl k =>
      rw [DV] at dv; subst dv
      cases k with
      | true => exact ⟨true, rfl, ρ, S, ι, er, s, p⟩
      | false => exact ⟨false, rfl, p.ret s rfl⟩
    | _ => exact False.elim p
theorem me_or {rest : List Expr} (ha : PE X a (tD C X.K W ma)) (hb : PE X (.BoolOp .Or (b :: rest) pos) (tD C X.K W mb)) : PE X (.BoolOp .Or (a :: b :: rest) pos) (tD C X.K W fun ρ => NF.bnd (ma ρ) fun d => match d with
    | .bl false => mb ρ
    | .bl true => NF.ret (.bl true)
    | _ => bad) :=
  (pe_or ha hb).imp fun σ H Q hh => one (g := fun d ρ => match d with
    | .bl false => mb ρ
    | .bl true => NF.ret (.bl true)
    | _ => bad) hh fun ρ S ι d x H1 er s dv p => by
    cases d with
    | bl k =>
      rw [DV] at dv; subst dv
      cases k with
      | true => exact ⟨true, rfl, p.ret s rfl⟩
      | false => exact ⟨false, rfl, ρ, S, ι, er, s, p⟩
    | _ => exact False.elim p
/-! ### tests -/
theorem mt_ex (ha : PE X a (tD C X.K W ma)) (he : ∀ whole, isTrue a X.env whole = (do let v ← whole; standAt a.pos; holding [v] (truthy v))) : PT X a (tT C X.K W fun ρ => NF.bnd (ma ρ) truthM) :=
  (pt_truth ha he).imp fun σ H Q hh => one (g := fun d _ => truthM d) hh fun ρ S ι d x H1 er s dv p => truth_post (β := Unit) s dv p
theorem mt_not {mt : Env → M Bool} (ha : PT X a (tT C X.K W mt)) : PT X (.UnaryOp .Not a pos) (tT C X.K W fun ρ => NF.bnd (mt ρ) fun b => NF.ret (!b)) :=
  (pt_not ha).imp fun σ H Q ⟨ρ, S, ι, er, s, p⟩ => by
    refine ⟨ρ, S, ι, er, s, (p.bnd (dw := BV)).mono ?_⟩
    rintro k H1 ⟨_, S1, ι1, e1, s1, rfl, p1⟩
    exact p1.ret s1 rfl
theorem mt_and1 {mt : Env → M Bool} (ha : PT X a (tT C X.K W mt)) : PW X (.BoolOp .And [a] pos) (tT C X.K W fun ρ => NF.bnd (mt ρ) fun b => if b then NF.ret true else NF.ret false) :=
  (pw_and1 ha).imp fun σ H Q ⟨ρ, S, ι, er, s, p⟩ => by
    refine ⟨ρ, S, ι, er, s, (p.bnd (dw := BV)).mono ?_⟩
    rintro k H1 ⟨_, S1, ι1, e1, s1, rfl, p1⟩
    cases k <;> exact p1.ret s1 rfl
theorem mt_and {rest : List Expr} {mt mu : Env → M Bool} (ha : PT X a (tT C X.K W mt)) (hb : PW X (.BoolOp .And (b :: rest) pos) (tT C X.K W mu)) : PW X (.BoolOp .And (a :: b :: rest) pos) (tT C X.K W fun ρ => NF.bnd (mt ρ) fun k => if k then mu ρ else NF.ret false) :=
  (pw_and ha hb).imp fun σ H Q ⟨ρ, S, ι, er, s, p⟩ => by
    refine ⟨ρ, S, ι, er, s, (p.bnd (dw := BV)).mono ?_⟩
    rintro k H1 ⟨_, S1, ι1, e1, s1, rfl, p1⟩
    cases k with
    | true => exact ⟨ρ, S1, ι1, er.ext e1, s1, p1⟩
    | false => exact p1.ret s1 rfl
theorem mt_or1 {mt : Env → M Bool} (ha : PT X a (tT C X.K W mt)) : PW X (.BoolOp .Or [a] pos) (tT C X.K W fun ρ => NF.bnd (mt ρ) fun b => if b then NF.ret true else NF.ret false) :=
  (pw_or1 ha).imp fun σ H Q ⟨ρ, S, ι, er, s, p⟩ => by
    refine ⟨ρ, S, ι, er, s, (p.bnd (dw := BV)).mono ?_⟩
    rintro k H1 ⟨_, S1, ι1, e1, s1, rfl, p1⟩
    cases k <;> exact p1.ret s1 rfl
theorem mt_or {rest : List Expr} {mt mu : Env → M Bool} (ha : PT X a (tT C X.K W mt)) (hb : PW X (.BoolOp .Or (b :: rest) pos) (tT C X.K W mu)) : PW X (.BoolOp .Or (a :: b :: rest) pos) (tT C X.K W fun ρ => NF.bnd (mt ρ) fun k => if k then NF.ret true else mu ρ) :=
  (pw_or ha hb).imp fun σ H Q ⟨ρ, S, ι, er, s, p⟩ => by
    refine ⟨ρ, S, ι, er, s, (p.bnd (dw := BV)).mono ?_⟩
    rintro k H1 ⟨_, S1, ι1, e1, s1, rfl, p1⟩
    cases k with
    | true => exact p1.ret s1 rfl
    | false => exact ⟨ρ, S1, ι1, er.ext e1, s1, p1⟩
/-! ### subscripts, slices, fields -/
theorem me_idx (ha : PE X a (tD C X.K W ma)) (hb : PE X b (tD C X.K W mb)) (hs : PlainIx b) : PE X (.Subscript a b pos) (tD C X.K W (bin idxM ma mb)) :=
  (pe_ix ix_seq ha hb hs).imp fun σ H Q h => two (g := fun x y _ => idxM x y) h fun ρ S ι dx dy x y H2 er s d1 d2 p => bv_idx W σ H2 ι S dx dy x y Q s d1 d2 p
theorem me_dix (hw : X.w = C.w) (hu : X.A.units + 100 < cLine) (ha : PE X a (tD C X.K W ma)) (hb : PE X b (tD C X.K W mb)) (hs : PlainIx b) : PE X (.Subscript a b pos) (tD C X.K W (bin dixM ma mb)) :=
  (pe_ix (ix_dix hw hu) ha hb hs).imp fun σ H Q h => two (g := fun x y _ => dixM x y) h fun ρ S ι dx dy x y H2 er s d1 d2 p => bv_dix W σ H2 ι S dx dy x y Q s d1 d2 p
theorem mo_none : PO X none (tG C X.K W IV fun _ => NF.ret none) := po_none.imp fun σ H Q ⟨ρ, S, ι, er, s, p⟩ => p.ret s rfl
theorem mo_some (ha : PE X a (tD C X.K W ma)) : PO X (some a) (tG C X.K W IV fun ρ => NF.bnd (ma ρ) fun d => intO (some d)) :=
  (po_some ha).imp fun σ H Q hh => one (g := fun d _ => intO (some d)) hh fun ρ S ι d x H1 er s dv p => by
    cases d with
    | int i =>
      rw [DV] at dv; subst dv
      obtain ⟨_, p⟩ := Post.ifT (m := NF.ret (some i)) p
      exact ⟨i, rfl, p.ret s rfl⟩
    | _ => exact False.elim p
theorem me_slc {lo hi : Option Expr} {p2 : Pos} {ml mh : Env → M (Option Int)} (ha : PE X a (tD C X.K W ma)) (hl : PO X lo (tG C X.K W IV ml)) (hh : PO X hi (tG C X.K W IV mh)) :
    PE X (.Subscript a (.Slice lo hi none p2) pos) (tD C X.K W fun ρ => NF.bnd (ma ρ) fun x => NF.bnd (ml ρ) fun l => NF.bnd (mh ρ) fun h => slcM x l h) :=
  (pe_slice sl_all ha hl hh).imp fun σ H Q h => one (g := fun x ρ => NF.bnd (ml ρ) fun l => NF.bnd (mh ρ) fun h => slcM x l h) h fun ρ S ι d x H1 er s dv p => by
    refine ⟨ρ, S, ι, er, s, (p.bnd (dw := IV)).mono ?_⟩
    rintro l H2 ⟨_, S2, ι2, e2, s2, rfl, p2⟩
    refine ⟨ρ, S2, ι2, er.ext e2, s2, (p2.bnd (dw := IV)).mono ?_⟩
    rintro u H3 ⟨_, S3, ι3, e3, s3, rfl, p3⟩
    exact slc_post s3 ((dv.ext e2).ext e3) p3
theorem me_rev {k : Nat} {p1 p2 p3 : Pos} (ha : PE X a (tD C X.K W ma)) : PE X (.Subscript a (.Slice none none (some (.UnaryOp .USub (.Constant (.int 1) k p1) p2)) p3) pos) (tD C X.K W fun ρ => NF.bnd (ma ρ) fun x => NF.bnd (lstOf x) fun ds => NF.new (.lst ds.reverse)) :=
  (pe_revL ha).imp fun σ H Q h => one (g := fun x _ => NF.bnd (lstOf x) fun ds => NF.new (.lst ds.reverse)) h fun ρ S ι d x H1 er s dv p => by
    obtain ⟨n, a, ds, vs, _, rfl, ha, hq, rd, _, p⟩ := Post.lstOf p s dv
    exact ⟨a, vs, rfl, hq, fun q hn => p.lst s rd.rev hn⟩
/-- an instance of an own class -/
theorem Post.insOf {α β : Type} {K : PySem.W.Frag} {σ : L2.St} {H : Hp} {ι : List Addr} {S : Store} {dv : Hp → List Addr → α → β → Prop} {cl : Cl} {d : D} {v : V} {f : Nat × List D → M α} {Q : β → Hp → Prop} (p : Post C K W σ dv H ι (NF.bnd (NF.insOf cl d) f S) Q) (s : StR C K H ι S) (r : DV H ι d v) :
    ∃ n a fs dx gs, d = .ref n ∧ v = .ref a ∧ ι[n]? = some a ∧ S[n]? = some (.ins cl fs) ∧ H a = some (.ins (C.kad cl) dx gs) ∧ gs.map (·.1) = cl.fields.take fs.length ∧ fs.length ≤ cl.fields.length ∧ DVs H ι fs (gs.map (·.2)) ∧ Post C K W σ dv H ι (f (n, fs) S) Q := by
  cases d with
  | ref n =>
    obtain ⟨a, rfl, ha⟩ := r
    unfold NF.insOf NF.bnd at p
    simp only at p
    unfold NF.obj at p
    cases h : S[n]? with
    | none => simp only [NF.bnd, h] at p; exact False.elim p
    | some o =>
      simp only [NF.bnd, h] at p
      cases o with
      | ins c' fs =>
        simp only at p
        by_cases e : c' = cl
        · subst e
          rw [if_pos rfl] at p
          obtain ⟨dx, gs, h1, h2, h3, h4⟩ := s.look h ha
          exact ⟨n, a, fs, dx, gs, rfl, rfl, ha, h, h1, h2, h3, h4, p⟩
        · rw [if_neg e] at p; exact False.elim p
      | _ => exact False.elim p
  | _ => exact False.elim p
theorem lookup_at : ∀ {gs : List (Str × V)} {ns : List Str} {i : Nat} {x : Str} {v : V}, ns.Nodup → gs.map (·.1) = ns → ns[i]? = some x → (gs.map (·.2))[i]? = some v → gs.lookup x = some v
  | [], _, i, x, v, _, h, _, e => by simp at e
  | (y, w) :: r, ns, 0, x, v, nd, h, hn, e => by
    subst h
    simp at hn e
    subst hn e
    simp [List.lookup]
  | (y, w) :: r, ns, i + 1, x, v, nd, h, hn, e => by
    subst h
    rw [List.map_cons] at nd hn e
    have hm : x ∈ r.map (·.1) := List.mem_of_getElem? (by simpa using hn)
    have ne : (x == y) = false := beq_eq_false_iff_ne.mpr fun z => (List.nodup_cons.mp nd).1 (z ▸ hm)
    rw [List.lookup_cons, ne]
    exact lookup_at (List.nodup_cons.mp nd).2 rfl (by simpa using hn) (by simpa using e)
theorem lookup_none : ∀ {gs : List (Str × V)} {x : Str}, x ∉ gs.map (·.1) → gs.lookup x = none
  | [], _, _ => rfl
  | (y, w) :: r, x, h => by
    rw [List.map_cons, List.mem_cons, not_or] at h
    rw [List.lookup_cons, beq_eq_false_iff_ne.mpr h.1]
    exact lookup_none h.2
theorem me_att {cl : Cl} {i : Nat} {f : Str} (hc : Cls X.K (C.kad cl)) (hf : cl.fields[i]? = some f) (hn : NoAttr X.K (C.kad cl) f) (nd : cl.fields.Nodup) (ha : PE X a (tD C X.K W ma)) (hb : attributeBase a f X.env (eval a X.env) = eval a X.env) :
    PE X (.Attribute a f pos) (tD C X.K W fun ρ => NF.bnd (ma ρ) fun x => NF.bnd (insOf cl x) fun p => orBad (p.2[i]?)) :=
  (pe_fld ha hb).imp fun σ H Q h => one (g := fun x _ => NF.bnd (insOf cl x) fun p => orBad (p.2[i]?)) h fun ρ S ι d x H1 er s dv p => by
    obtain ⟨n, a, fs, dx, gs, _, rfl, ha, hS, h1, h2, h3, h4, p⟩ := Post.insOf p s dv
    obtain ⟨e, he, q⟩ := orBad_post p s
    obtain ⟨v, hv, dv2⟩ := h4.get he
    have hi : i < fs.length := (List.getElem?_eq_some_iff.mp he).1
    refine ⟨a, C.kad cl, dx, gs, v, rfl, h1, hc, hn, lookup_at (nd.sublist (List.take_sublist _ _)) h2 ?_ hv, q v dv2⟩
    rw [List.getElem?_take_of_lt hi]
    exact hf
/-! ### built-in functions, methods of built-in types -/
theorem me_biB {id : String} {x : Str} {p0 : Pos} {e : Expr} {es : List Expr} {ms : Env → M (List D)} {bf : Bi} {r : List V → Hp → VK → Prop} (hc : CallR X (.builtin id) r) (hv : BV1s C X.K (biM bf) r) (hg : Gl X x) (hm : X.mg x = none) (hb : bootBuiltins x = some (.builtin id))
    (ha : PA X (e :: es) (tDs C X.K W ms)) (hn : x ≠ "__name__") (hdb : (x == ("__debug__" : Str)) = false) (he : starEach (e :: es) X.env = (false, eval e X.env) :: starEach es X.env) (hpl : (backTo pos (starEach es X.env)).any (·.1) = false) :
    PE X (.Call (.Name x p0) (e :: es) [] pos) (tD C X.K W fun ρ => NF.bnd (ms ρ) fun ds => biM bf ds) :=
  (pe_callB hc hg hm hb ha hn hdb he hpl).imp fun σ H Q h => ones (g := fun ds _ => biM bf ds) h fun ρ S ι ds xs H1 er s dv p => hv W σ H1 ι S ds xs Q s dv p
theorem me_biT {T : String} {x : Str} {p0 : Pos} {e : Expr} {es : List Expr} {ms : Env → M (List D)} {bf : Bi} {r : List V → Hp → VK → Prop} (hc : CallR X (.type T) r) (hv : BV1s C X.K (biM bf) r) (hg : Gl X x) (hm : X.mg x = none) (hb : bootBuiltins x = some (.type T))
    (ha : PA X (e :: es) (tDs C X.K W ms)) (hn : x ≠ "__name__") (hdb : (x == ("__debug__" : Str)) = false) (he : starEach (e :: es) X.env = (false, eval e X.env) :: starEach es X.env) (hpl : (backTo pos (starEach es X.env)).any (·.1) = false) :
    PE X (.Call (.Name x p0) (e :: es) [] pos) (tD C X.K W fun ρ => NF.bnd (ms ρ) fun ds => biM bf ds) :=
  (pe_callTy hc hg hm hb ha hn hdb he hpl).imp fun σ H Q h => ones (g := fun ds _ => biM bf ds) h fun ρ S ι ds xs H1 er s dv p => hv W σ H1 ι S ds xs Q s dv p
end
end NF
end -- NfPE

section -- NfCall
set_option linter.all false
set_option autoImplicit false
set_option maxRecDepth 100000
set_option maxHeartbeats 1000000
/-! The heads of trees that the language speaks of; calls. -/
namespace NF
open PySem PySem.Spec PyProof.Rows L2
/-- a tree that is no star, no slice, no set, no call without arguments of a name -/
def headOk : Expr → Bool
  | .Starred .. => false
  | .Slice .. => false
  | .Set .. => false
  | .Call (.Name _ _) [] [] _ => false
  | _ => true
def plainTest : Expr → Bool
  | .UnaryOp .. => false
  | .BoolOp .. => false
  | .IfExp .. => false
  | .Compare .. => false
  | _ => true
def noComp : Expr → Bool
  | .ListComp .. => false
  | .SetComp .. => false
  | .DictComp .. => false
  | _ => true
theorem star_ok {e : Expr} {es : List Expr} {env : PySem.Env} (h : headOk e = true) : starEach (e :: es) env = (false, eval e env) :: starEach es env := by
  cases e <;> first | rfl | (simp [headOk] at h)
theorem base_ok {e : Expr} {f : Str} {env : PySem.Env} {w : Sem Value} (h : headOk e = true) : attributeBase e f env w = w := by
  cases e with
  | Call fn args kws pos =>
    cases fn with
    | Name id p =>
      cases args with
      | nil =>
        cases kws with
        | nil => simp [headOk] at h
        | cons _ _ => rfl
      | cons _ _ => rfl
    | _ => rfl
  | _ => rfl
theorem ix_ok {e : Expr} (h : headOk e = true) : PlainIx e := by
  intro o i
  cases e <;> first | rfl | (simp [headOk] at h)
theorem mark_ok {e : Expr} {op : CmpOp} (h : headOk e = true) : behindInMarks op e = false := by
  cases e <;> first | rfl | (simp [headOk] at h)
theorem fold_ok {e : Expr} {env : PySem.Env} (h : headOk e = true) : ∀ x, foldedSetIterable e env x = pure x := by
  intro x
  cases e <;> first | rfl | (simp [headOk] at h)
theorem test_ok {e : Expr} {env : PySem.Env} (h : plainTest e = true) : ∀ whole, isTrue e env whole = (do let v ← whole; standAt e.pos; holding [v] (truthy v)) := by
  intro whole
  cases e <;> first | rfl | (simp [plainTest] at h)
theorem swap_ok {e : Expr} {t : Option Expr} {l : Nat} {env : PySem.Env} (h : noComp e = true) : swapsWith e t l env = pure false := by
  cases e <;> first | rfl | (simp [noComp] at h)
/-- none of the arguments has a star -/
theorem noStar : ∀ {es : List Expr} {env : PySem.Env} {pos : Pos}, es.all headOk = true → (backTo pos (starEach es env)).any (·.1) = false ∧ (backTo pos (starEach es env)).all (fun x => !x.1) = true
  | [], _, _, _ => ⟨rfl, rfl⟩
  | e :: es, env, pos, h => by
    rw [List.all_cons, Bool.and_eq_true] at h
    obtain ⟨h1, h2⟩ := noStar (es := es) (env := env) (pos := pos) h.2
    rw [star_ok h.1]
    unfold backTo at *
    rw [List.map_cons, List.any_cons, List.all_cons, h1, h2]
    exact ⟨rfl, rfl⟩
theorem meth_eval {o : Expr} {m : Str} {apos pos : Pos} {args : List Expr} {env : PySem.Env} (ho : headOk o = true) (ha : args.all headOk = true) (hn : args.length < 20) (hl : (apos.endLine == pos.line) = true) :
    eval (.Call (.Attribute o m apos) args [] pos) env = (do
      let ov ← eval o env
      standAt apos.atName
      let (f, first) ← holding [ov] (getMethod ov m (do return (← importBound o env).getD true))
      callWith pos f first (backTo pos (starEach args env)) (backToKw pos (keywordEach [] env))) := by
  have hf : methodCallForm (args.length + ([] : List Keyword).length) (backTo pos (starEach args env)) (backToKw pos (keywordEach [] env)) = true := by
    unfold methodCallForm
    rw [(noStar ha).2]
    simp [backToKw, keywordEach]
    omega
  have hp : methodCallPos true o env apos pos = pure pos := by
    unfold methodCallPos
    rw [hl]
    rfl
  have e : eval (.Call (.Attribute o m apos) args [] pos) env = (do
    let ov ← attributeBase o m env (eval o env)
    standAt apos.atName
    methodCall o m apos pos env ov (args.length + ([] : List Keyword).length) (backTo pos (starEach args env)) (backToKw pos (keywordEach [] env))) := by first | rfl | exact arm_eval_Call ..
  rw [e, base_ok ho]
  unfold methodCall
  rw [hf, hp]
  rfl
/-! ### own defs -/
/-- a def of the text where it stands -/
structure FI where
  name : Str
  addr : Addr
  fd : FuncData
  ps : List Str
/-- the promise of a def whose meaning is m -/
def spO (C : Cfg) (K : PySem.W.Frag) (n : Nat) (m : List D → M D) : Sp := fun vs H Q E => vs.length = n ∧ ∃ ds S ι, StR C K H ι S ∧ DVs H ι ds vs ∧ Post C K (fun cls d _ H' => E cls d H') [] DV H ι (m ds S) Q
section
variable {C : Cfg} {X : Cx} {W : WX} {pos : Pos} {k : Nat}
theorem spO_of {σ : L2.St} {H : Hp} {ι : List Addr} {S : Store} {ds : List D} {vs : List V} {m : List D → M D} {n : Nat} {Q : VK} (s : StR C X.K H ι S) (r : DVs H ι ds vs) (hl : ds.length = n) (p : Post C X.K W σ DV H ι (m ds S) Q) : spO C X.K n m vs H Q (WE W σ) := by
  refine ⟨by rw [r.len, hl], ds, S, ι, s, r, ?_⟩
  cases h : m ds S with
  | ok d S1 => rw [h] at p; exact p
  | exn c S1 => rw [h] at p; exact p
  | bad => rw [h] at p; exact p
/-- f(e, ..) -/
theorem me_call {f : FI} {m : List D → M D} {p0 : Pos} {e : Expr} {es : List Expr} {ms : Env → M (List D)} (F : FnOk X.prog X.w X.K X.mg X.base (L2.CX X.prog X.w) k f.addr f.fd f.ps (spO C X.K f.ps.length m)) (hr : Room k X.A) (tk : Takes X W)
    (hg : Gl X f.name) (hm : X.mg f.name = some (.ref f.addr)) (hk : PySem.W.keepIn X.K (.ref f.addr) = true) (hb : Binds X.K f.fd f.ps []) (hdb : (f.name == ("__debug__" : Str)) = false) (hh : (e :: es).all headOk = true)
    (ha : PA X (e :: es) (tDs C X.K W ms)) (len : ∀ ρ S ds S', ms ρ S = .ok ds S' → ds.length = f.ps.length) : PE X (.Call (.Name f.name p0) (e :: es) [] pos) (tD C X.K W fun ρ => NF.bnd (ms ρ) m) := by
  have h0 : headOk e = true ∧ es.all headOk = true := by rwa [List.all_cons, Bool.and_eq_true] at hh
  refine (pe_callS (E := WE W) F hr hg hm hk hb (fun σ => passAt tk σ) ha hdb (star_ok h0.1) (noStar h0.2).1).imp fun σ H Q hh => ?_
  obtain ⟨ρ, S, ι, er, s, p⟩ := hh
  refine ⟨ρ, S, ι, er, s, ?_⟩
  unfold NF.bnd at p
  simp only at p
  cases hm : ms ρ S with
  | bad => rw [hm] at p; exact False.elim p
  | exn c S1 => rw [hm] at p; exact p
  | ok ds S1 =>
    rw [hm] at p
    intro xs H1 ι1 e1 s1 r1
    exact spO_of s1 r1 (len ρ S ds S1 hm) (Post.ext (r := m ds S1) p e1)
/-- o.m(..) of an own class -/
theorem me_meth {cl : Cl} {f : FI} {m : List D → M D} {o e : Expr} {apos : Pos} {es : List Expr} {mo : Env → M D} {ms : Env → M (List D)} (F : FnOk X.prog X.w X.K X.mg X.base (L2.CX X.prog X.w) k f.addr f.fd f.ps (spO C X.K f.ps.length m)) (hr : Room k X.A) (tk : Takes X W)
    (c : Cls X.K (C.kad cl)) (hm : Meth X.K (C.kad cl) f.name f.addr) (hnf : f.name ∉ cl.fields) (hb : Binds X.K f.fd f.ps []) (ho : headOk o = true) (hh : (e :: es).all headOk = true) (hn : (e :: es).length < 20) (hl : (apos.endLine == pos.line) = true)
    (he : PE X o (tD C X.K W mo)) (ha : PA X (e :: es) (tDs C X.K W ms)) (len : ∀ ρ S ds S', ms ρ S = .ok ds S' → ds.length + 1 = f.ps.length) :
    PE X (.Call (.Attribute o f.name apos) (e :: es) [] pos) (tD C X.K W fun ρ => NF.bnd (mo ρ) fun x => NF.bnd (insOf cl x) fun _ => NF.bnd (ms ρ) fun ds => m (x :: ds)) := by
  have h0 : headOk e = true ∧ es.all headOk = true := by rwa [List.all_cons, Bool.and_eq_true] at hh
  refine ⟨fun pins s σ H Q I h => ?_⟩
  refine PySem.W.methodCall_KW (thn (he.run pins s σ H _ I (one (g := fun x ρ => NF.bnd (insOf cl x) fun _ => NF.bnd (ms ρ) fun ds => m (x :: ds)) (R := fun x H1 => ∃ ρ S ι d, ER H1 ι σ ρ ∧ StR C X.K H1 ι S ∧ DV H1 ι d x ∧ Post C X.K W σ DV H1 ι (NF.bnd (insOf cl d) (fun _ => NF.bnd (ms ρ) fun ds => m (d :: ds)) S) Q) h fun ρ S ι d x H1 er s dv p => ⟨ρ, S, ι, d, er, s, dv, p⟩)) fun u s1 ⟨x, H1, I1, rx, ρ, S, ι, d, er, st, dv, p⟩ => ?_) (meth_eval ho hh hn hl)
  obtain ⟨n, a, fs, dx, gs, rfl, rfl, hι, hS, h1, h2, h3, h4, p⟩ := Post.insOf p st dv
  obtain rfl : u = Value.ref a := rx
  refine getmeth_ok I1 h1 c hm (lookup_none fun z => hnf ?_) ?_
  · rw [h2] at z
    exact List.mem_of_mem_take z
  · have args : tDs C X.K W ms σ H1 (fun xs H2 => ∃ ds S2 ι2, Ext H1 ι H2 ι2 ∧ StR C X.K H2 ι2 S2 ∧ DVs H2 ι2 ds xs ∧ ds.length + 1 = f.ps.length ∧ Post C X.K W σ DV H2 ι2 (m (.ref n :: ds) S2) Q) := by
      refine ⟨ρ, S, ι, er, st, ?_⟩
      unfold NF.bnd at p
      cases hms : ms ρ S with
      | bad => rw [hms] at p; exact False.elim p
      | exn c S1 => rw [hms] at p; exact p
      | ok ds S1 =>
        rw [hms] at p
        intro xs H2 ι2 e2 s2 r2
        exact ⟨ds, S1, ι2, e2, s2, r2, len ρ S ds S1 hms, Post.ext (r := m (.ref n :: ds) S1) p e2⟩
    refine PySem.W.callWith_K (first := [.ref a]) (h₀ := X.base) I.ok.mod.kin hm.kp (thn (ha.run pos pins s1 σ H1 _ I1 args) fun us s2 ⟨xs, H2, I2, r, ds, S2, ι2, e2, st2, rd, hlen, p2⟩ => ⟨I2.kIn, ?_⟩) (star_ok h0.1) (noStar h0.2).1
    refine run_fnS (us := .ref a :: us) (vs := .ref a :: xs) (E := WE W) F hr hb (passAt tk σ) I2 (.cons rfl r) ?_
    exact spO_of (ds := .ref n :: ds) st2 ⟨.ref a, xs, rfl, ⟨a, rfl, e2.at hι⟩, rd⟩ (by rw [List.length_cons, hlen]) p2
theorem me_meth0 {cl : Cl} {f : FI} {m : List D → M D} {o : Expr} {apos : Pos} {mo : Env → M D} (F : FnOk X.prog X.w X.K X.mg X.base (L2.CX X.prog X.w) k f.addr f.fd f.ps (spO C X.K f.ps.length m)) (hr : Room k X.A) (tk : Takes X W)
    (c : Cls X.K (C.kad cl)) (hm : Meth X.K (C.kad cl) f.name f.addr) (hnf : f.name ∉ cl.fields) (hb : Binds X.K f.fd f.ps []) (ho : headOk o = true) (hl : (apos.endLine == pos.line) = true)
    (he : PE X o (tD C X.K W mo)) (len : 1 = f.ps.length) :
    PE X (.Call (.Attribute o f.name apos) [] [] pos) (tD C X.K W fun ρ => NF.bnd (mo ρ) fun x => NF.bnd (insOf cl x) fun _ => NF.bnd (NF.ret []) fun ds => m (x :: ds)) := by
  refine ⟨fun pins s σ H Q I h => ?_⟩
  refine PySem.W.methodCall_KW (thn (he.run pins s σ H _ I (one (g := fun x ρ => NF.bnd (insOf cl x) fun _ => m [x]) (R := fun x H1 => ∃ ρ S ι d, ER H1 ι σ ρ ∧ StR C X.K H1 ι S ∧ DV H1 ι d x ∧ Post C X.K W σ DV H1 ι (NF.bnd (insOf cl d) (fun _ => m [d]) S) Q) h fun ρ S ι d x H1 er s dv p => ⟨ρ, S, ι, d, er, s, dv, p⟩)) fun u s1 ⟨x, H1, I1, rx, ρ, S, ι, d, er, st, dv, p⟩ => ?_) (meth_eval ho rfl (by decide) hl)
  obtain ⟨n, a, fs, dx, gs, rfl, rfl, hι, hS, h1, h2, h3, h4, p⟩ := Post.insOf p st dv
  obtain rfl : u = Value.ref a := rx
  refine getmeth_ok I1 h1 c hm (lookup_none fun z => hnf ?_) ?_
  · rw [h2] at z
    exact List.mem_of_mem_take z
  · refine PySem.W.callWith_K0 (first := [.ref a]) I1.kIn hm.kp ?_
    refine run_fnS (us := [.ref a]) (vs := [.ref a]) (E := WE W) F hr hb (passAt tk σ) I1 (.cons rfl .nil) ?_
    exact spO_of (ds := [.ref n]) st ⟨.ref a, [], rfl, ⟨a, rfl, hι⟩, rfl⟩ len p
/-- C(..): a new instance, its __init__ -/
theorem run_makeS {C' g : Addr} {fd : FuncData} {ps : List Str} {sp : Sp} {E : XK} {pins : List (Addr × Obj)} {σ : L2.St} {H : Hp} {s : Shared} {Q : VK} {us : List Value} {vs : List V} (M : Mk X.K C' g) (F : FnOk X.prog X.w X.K X.mg X.base (L2.CX X.prog X.w) k g fd ps sp) (hr : Room (k + 1) X.A) (hb : Binds X.K fd ps [])
    (hx : PassesAt (L2.CX X.prog X.w) X σ E) (I : Inv X pins σ H s) (r : Vals vs us)
    (h : ∀ x dx, H x = none → H dx = none → dx ≠ x → sp (.ref x :: vs) (upd (upd H dx (.own x)) x (.ins C' dx [])) (fun v H2 => v = .non ∧ Q (.ref x) H2) E) :
    wpAny (model X.prog X.w) X.A (call (.ref C') us) (EP X pins σ Q) X.xe s := by
  have hq := h (s.heap.objs.size + 1) s.heap.objs.size (I.hok.fresh (Nat.le_succ _)) (I.hok.fresh (Nat.le_refl _)) (Nat.ne_of_lt (Nat.lt_succ_self _))
  have I2 := Inv.made (C := C') I
  have r2 : Vals (V.ref (s.heap.objs.size + 1) :: vs) (Value.ref (s.heap.objs.size + 1) :: us) := .cons rfl r
  have hl : (Value.ref (s.heap.objs.size + 1) :: us).length = ps.length := by rw [← r2.length]; exact F.len _ _ _ _ hq
  have bb := hb _ (Value.ref (s.heap.objs.size + 1) :: us) I2.kIn (by rw [List.append_nil]; exact hl)
  rw [List.append_nil] at bb
  refine wpAny_call (make_map (f := g) I.kIn M.makes M.init (beq_iff_eq.mp M.fn) (codeAny_mono (F.run _ X.stack _ _ ⟨Value.ref (s.heap.objs.size + 1) :: us, []⟩ (Value.ref (s.heap.objs.size + 1) :: us) _ _ E (hr.make C' us [])
    (I2.env0.make C' us []) bb r2 hq) fun r s' hq' => ?_))
  cases r with
  | error e => exact hx pins _ _ e s' I2 hq'
  | ok fl =>
    cases fl with
    | ret u =>
      obtain ⟨v, H', I3, rv, ev, q3⟩ := I2.after hq'
      subst ev
      exact ⟨rv, ⟨V.ref (s.heap.objs.size + 1), H', I3, rfl, q3⟩⟩
    | next => exact False.elim hq'
    | brk => exact False.elim hq'
    | cont => exact False.elim hq'
theorem me_mk {cl : Cl} {x : Str} {f : FI} {m : List D → M D} {p0 : Pos} {e : Expr} {es : List Expr} {ms : Env → M (List D)} (M : Mk X.K (C.kad cl) f.addr) (F : FnOk X.prog X.w X.K X.mg X.base (L2.CX X.prog X.w) k f.addr f.fd f.ps (spO C X.K f.ps.length m)) (hr : Room (k + 1) X.A) (tk : Takes X W)
    (hg : Gl X x) (hm : X.mg x = some (.ref (C.kad cl))) (hb : Binds X.K f.fd f.ps []) (hdb : (x == ("__debug__" : Str)) = false) (hh : (e :: es).all headOk = true)
    (ha : PA X (e :: es) (tDs C X.K W ms)) (len : ∀ ρ S ds S', ms ρ S = .ok ds S' → ds.length + 1 = f.ps.length) :
    PE X (.Call (.Name x p0) (e :: es) [] pos) (tD C X.K W fun ρ => NF.bnd (ms ρ) fun ds => NF.bnd (NF.new (.ins cl [])) fun i => NF.bnd (m (i :: ds)) fun r => if isN r then NF.ret i else bad) := by
  have h0 : headOk e = true ∧ es.all headOk = true := by rwa [List.all_cons, Bool.and_eq_true] at hh
  refine ⟨fun pins s σ H Q I ⟨ρ, S, ι, er, st, p⟩ => ?_⟩
  refine wpAny_Call_Name_kw (ld_glob I hg hm ?_ hdb)
  have args : tDs C X.K W ms σ H (fun xs H2 => ∃ ds S2 ι2, StR C X.K H2 ι2 S2 ∧ DVs H2 ι2 ds xs ∧ ds.length + 1 = f.ps.length ∧ Post C X.K W σ DV H2 ι2 (NF.bnd (NF.new (.ins cl [])) (fun i => NF.bnd (m (i :: ds)) fun r => if isN r then NF.ret i else bad) S2) Q) := by
    refine ⟨ρ, S, ι, er, st, ?_⟩
    unfold NF.bnd at p
    simp only at p
    cases hms : ms ρ S with
    | bad => rw [hms] at p; exact False.elim p
    | exn c S1 => rw [hms] at p; exact p
    | ok ds S1 =>
      rw [hms] at p
      intro xs H2 ι2 e2 s2 r2
      exact ⟨ds, S1, ι2, s2, r2, len ρ S ds S1 hms, Post.ext (r := NF.bnd (NF.new (.ins cl [])) (fun i => NF.bnd (m (i :: ds)) fun r => if isN r then NF.ret i else bad) S1) p e2⟩
  refine PySem.W.callWith_K (h₀ := X.base) I.ok.mod.kin M.kp (thn (ha.run pos pins s σ H _ I args) fun us s2 ⟨xs, H2, I2, r, ds, S2, ι2, st2, rd, hlen, p2⟩ => ⟨I2.kIn, ?_⟩) (star_ok h0.1) (noStar h0.2).1
  refine run_makeS (E := WE W σ) M F hr hb (passAt tk σ) I2 r fun x dx hx hdx hne => ?_
  -- the new instance in the store
  have s3 := st2.hid (u := .own x) hdx
  have hx' : (upd H2 dx (.own x)) x = none := by rw [upd_ne (Ne.symm hne)]; exact hx
  have e3 : Ext H2 ι2 (upd H2 dx (.own x)) ι2 := Ext.new hdx
  have e4 : Ext (upd H2 dx (.own x)) ι2 (upd (upd H2 dx (.own x)) x (.ins (C.kad cl) dx [])) (ι2 ++ [x]) := Ext.laid hx'
  have s4 : StR C X.K (upd (upd H2 dx (.own x)) x (.ins (C.kad cl) dx [])) (ι2 ++ [x]) (S2 ++ [.ins cl []]) := s3.laid hx' ⟨dx, [], upd_same, rfl, Nat.zero_le _, rfl⟩ rfl
  have hι : (ι2 ++ [x])[S2.length]? = some x := by rw [← st2.len, List.getElem?_append_right (Nat.le_refl _)]; simp
  have p3 : Post C X.K W σ DV (upd (upd H2 dx (.own x)) x (.ins (C.kad cl) dx [])) (ι2 ++ [x]) (NF.bnd (m (.ref S2.length :: ds)) (fun r => if isN r then NF.ret (D.ref S2.length) else bad) (S2 ++ [.ins cl []])) Q :=
    Post.ext (r := NF.bnd (m (.ref S2.length :: ds)) (fun r => if isN r then NF.ret (D.ref S2.length) else bad) (S2 ++ [.ins cl []])) p2 (e3.trans e4)
  refine spO_of (ds := .ref S2.length :: ds) s4 ⟨.ref x, xs, rfl, ⟨x, rfl, hι⟩, rd.ext (e3.trans e4)⟩ (by rw [List.length_cons, hlen]) ((p3.bnd (dw := DV)).mono ?_)
  rintro v H5 ⟨d, S5, ι5, e5, s5, dv, p5⟩
  obtain ⟨hn, p5⟩ := Post.ifT (m := NF.ret (D.ref S2.length)) p5
  cases d with
  | non =>
    rw [DV] at dv
    exact ⟨dv, p5.ret s5 ⟨x, rfl, e5.at hι⟩⟩
  | _ => simp [isN] at hn
end
end NF
end -- NfCall

section -- NfLc
set_option linter.all false
set_option autoImplicit false
set_option maxRecDepth 100000
set_option maxHeartbeats 1000000
/-! What is walked, targets, comprehensions. -/
namespace NF
open PySem PySem.Spec PyProof.Rows L2
theorem bnd_ok {α β : Type} {m : M α} {f : α → M β} {S S' : Store} {b : β} (h : NF.bnd m f S = .ok b S') : ∃ a S1, m S = .ok a S1 ∧ f a S1 = .ok b S' := by
  unfold NF.bnd at h
  cases hm : m S with
  | ok a S1 => rw [hm] at h; exact ⟨a, S1, rfl, h⟩
  | exn c S1 => rw [hm] at h; cases h
  | bad => rw [hm] at h; cases h
theorem bnd_of {α β : Type} {m : M α} {f : α → M β} {S S1 : Store} {a : α} (h : m S = .ok a S1) : NF.bnd m f S = f a S1 := by
  unfold NF.bnd
  rw [h]
theorem noExn_ok {α : Type} {m : M α} {S S' : Store} {a : α} (h : noExn m S = .ok a S') : m S = .ok a S' := by
  unfold noExn at h
  cases hm : m S with
  | ok b S1 => rw [hm] at h; exact h
  | exn c S1 => rw [hm] at h; cases h
  | bad => rw [hm] at h; cases h
abbrev noW : WX := fun _ _ _ _ => False
theorem takes_no {X : Cx} : Takes X noW := fun u s' ⟨_, _, _, _, _, _, _, _, _, _, _, _, _, _, _, _, w⟩ => w.elim

/-- what is needed of W where nothing is raised -/
theorem Post.okW {α β : Type} {C : Cfg} {K : PySem.W.Frag} {W W' : WX} {σ σ' : L2.St} {dv : Hp → List Addr → α → β → Prop} {H : Hp} {ι : List Addr} {a : α} {S : Store} {Q : β → Hp → Prop} (p : Post C K W σ dv H ι (.ok a S) Q) : Post C K W' σ' dv H ι (.ok a S) Q := p

section
variable {C : Cfg} {X : Cx} {W : WX} {tg e : Expr} {ma : Env → M D}
theorem _root_.L2.PI.imp {X : Cx} {tg e : Expr} {t t' : TI} (h : PI X tg e t) (w : ∀ σ H Q, t' σ H Q → t σ H Q) : PI X tg e t' := ⟨fun pins s σ H Q I q => h.run pins s σ H Q I (w σ H Q q)⟩
/-- the iterator J serves wk -/
def WkV (C : Cfg) (K : PySem.W.Frag) : Hp → List Addr → Wk → It → Prop := fun H ι wk J =>
  ∀ (H' : Hp) (ι' : List Addr) (S' : Store), Ext H ι H' ι' → StR C K H' ι' S' → (∃ S2, wk.still S' = .ok () S2) → ∀ i, (wk.items.length ≤ i → J.stop i H') ∧ ∀ d, wk.items[i]? = some d → J.go i H' ∧ ∀ x H'', J.yld i H' x H'' → H'' = H' ∧ DV H' ι' d x
abbrev tW (C : Cfg) (K : PySem.W.Frag) (W : WX) (m : Env → M Wk) : TI := tG C K W (WkV C K) m
/-- the list at n -/
theorem StR.sq {K : PySem.W.Frag} {H : Hp} {ι : List Addr} {S S' : Store} {n : Nat} {ds : List D} {a : Addr} (s : StR C K H ι S) (h : NF.lstOf (.ref n) S = .ok ds S') (ha : ι[n]? = some a) : S' = S ∧ ∃ vs, SqL K H a vs ∧ DVs H ι ds vs := by
  unfold NF.lstOf at h
  simp only at h
  obtain ⟨o, S1, h1, h2⟩ := bnd_ok h
  unfold NF.obj at h1
  cases q : S[n]? with
  | none => rw [q] at h1; cases h1
  | some u =>
    rw [q] at h1
    cases h1
    have r := s.look q ha
    cases o with
    | lst es =>
      cases h2
      obtain ⟨vs, e1, e2⟩ := r
      exact ⟨rfl, vs, SqL.of e1, e2⟩
    | rol es =>
      cases h2
      obtain ⟨vs, e1, e2⟩ := r
      refine ⟨rfl, vs, ?_, e2⟩
      rcases e1 with ⟨ob, e1⟩ | e1
      · exact .inl (.inr ⟨ob, e1⟩)
      · exact .inr e1
    | _ => cases h2
theorem DVs.ge {H : Hp} {ι : List Addr} {ds : List D} {vs : List V} (r : DVs H ι ds vs) {i : Nat} {d : D} (h : ds[i]? = some d) : ∃ v, vs[i]? = some v ∧ DV H ι d v := r.get h
theorem wk_lst {K : PySem.W.Frag} {H : Hp} {ι : List Addr} {n : Nat} {ds : List D} {a : Addr} (ha : ι[n]? = some a) : WkV C K H ι (.lst n ds) (Itl K a) := by
  intro H' ι' S' e s st i
  obtain ⟨S2, st⟩ := st
  obtain ⟨es, S3, h1, h2⟩ := bnd_ok st
  by_cases he : es = ds
  · subst he
    obtain ⟨_, vs, hq, r⟩ := s.sq h1 (e.at ha)
    refine ⟨fun h => ⟨vs, hq, by rw [r.len]; exact h⟩, fun d hd => ?_⟩
    obtain ⟨v, hv, dv⟩ := r.get hd
    exact ⟨⟨vs, v, hq, hv⟩, fun x H'' ⟨eH, y⟩ => ⟨eH, by
      have z := y vs hq
      rw [hv] at z
      cases z
      exact dv⟩⟩
  · rw [if_neg he] at h2; cases h2
theorem wk_tup {K : PySem.W.Frag} {H : Hp} {ι : List Addr} {ds : List D} {a : Addr} {vs : List V} (h : H a = some (.tup vs)) (r : DVs H ι ds vs) : WkV C K H ι (.fix ds) (Itt K a) := by
  intro H' ι' S' e s st i
  have hq : SqT K H' a vs := SqT.of (e.tup a vs h)
  have r' := r.ext e
  refine ⟨fun h => ⟨vs, hq, by rw [r'.len]; exact h⟩, fun d hd => ?_⟩
  obtain ⟨v, hv, dv⟩ := r'.get hd
  exact ⟨⟨vs, v, hq, hv⟩, fun x H'' ⟨eH, y⟩ => ⟨eH, by
    have z := y vs hq
    rw [hv] at z
    cases z
    exact dv⟩⟩
theorem wk_str {K : PySem.W.Frag} {H : Hp} {ι : List Addr} {z : List Nat} (hz : okS z = true) : WkV C K H ι (.fix (z.map fun c => .str [c])) (Its (strOf z)) := by
  intro H' ι' S' e s st i
  have hsz : (strOf z).cps.size = z.length := by simp [strOf]
  refine ⟨fun h => ?_, fun d hd => ?_⟩
  · show (strOf z).cps.size ≤ i
    rw [hsz]
    have : (Wk.fix (z.map fun c => D.str [c])).items.length = z.length := by simp [Wk.items]
    rw [this] at h
    exact h
  · have hd' : (z.map fun c => D.str [c])[i]? = some d := hd
    rw [List.getElem?_map] at hd'
    cases hc : z[i]? with
    | none => rw [hc] at hd'; cases hd'
    | some c =>
      rw [hc] at hd'
      cases hd'
      have hi : i < z.length := (List.getElem?_eq_some_iff.mp hc).1
      refine ⟨by show i < (strOf z).cps.size; rw [hsz]; exact hi, fun x H'' y => ?_⟩
      obtain ⟨eH, c', hc', ex⟩ := y
      refine ⟨eH, ?_⟩
      have hcc : (strOf z).cps[i]? = some c := by show z.toArray[i]? = some c; simpa using hc
      rw [hcc] at hc'
      cases hc'
      subst ex
      refine ⟨rfl, ?_⟩
      unfold okS at hz ⊢
      rw [List.all_eq_true] at hz
      simpa using hz c (List.mem_of_getElem? hc)
theorem wk_rng {K : PySem.W.Frag} {H : Hp} {ι : List Addr} {lo : Int} {n : Nat} : WkV C K H ι (.fix ((List.range n).map fun (i : Nat) => .int (lo + (i : Int)))) (Itr lo n) := by
  intro H' ι' S' e s st i
  refine ⟨fun h => ?_, fun d hd => ?_⟩
  · have h' : ((List.range n).map fun (i : Nat) => D.int (lo + (i : Int))).length ≤ i := h
    show n ≤ i
    simpa using h'
  · have hd' : ((List.range n).map fun (i : Nat) => D.int (lo + (i : Int)))[i]? = some d := hd
    rw [List.getElem?_map] at hd'
    by_cases hi : i < n
    · rw [List.getElem?_range hi] at hd'
      cases hd'
      exact ⟨hi, fun x H'' ⟨eH, y⟩ => ⟨eH, y⟩⟩
    · rw [List.getElem?_eq_none (by simpa using hi)] at hd'; cases hd'
theorem pi_seq (he : PE X e (tD C X.K W ma)) : PI X tg e (tW C X.K W fun ρ => NF.bnd (ma ρ) fun x => wkOf .seq [x]) := by
  refine ⟨fun pins s σ H R I h => ?_⟩
  obtain ⟨ρ, S, ι, er, st, p⟩ := h
  unfold NF.bnd at p
  simp only at p
  cases hm : ma ρ S with
  | bad => rw [hm] at p; exact False.elim p
  | exn c S1 =>
    rw [hm] at p
    exact (pi_list he).run pins s σ H R I ⟨ρ, S, ι, er, st, by rw [hm]; exact p⟩
  | ok d S1 =>
    rw [hm] at p
    cases d with
    | tup ds =>
      refine (pi_tup he).run pins s σ H R I ⟨ρ, S, ι, er, st, ?_⟩
      rw [hm]
      intro x H1 ι1 e1 s1 dv
      obtain ⟨a, vs, rfl, ha, r⟩ := dv
      exact ⟨a, rfl, ⟨vs, SqT.of ha⟩, p _ H1 ι1 e1 s1 (wk_tup ha r)⟩
    | str z =>
      refine (pi_str he).run pins s σ H R I ⟨ρ, S, ι, er, st, ?_⟩
      rw [hm]
      intro x H1 ι1 e1 s1 dv
      obtain ⟨rfl, hz⟩ := dv
      exact ⟨_, rfl, p _ H1 ι1 e1 s1 (wk_str hz)⟩
    | ref n =>
      refine (pi_list he).run pins s σ H R I ⟨ρ, S, ι, er, st, ?_⟩
      rw [hm]
      intro x H1 ι1 e1 s1 dv
      have p1 := Post.ext (r := wkOf .seq [D.ref n] S1) p e1
      obtain ⟨a, rfl, ha⟩ := id dv
      have p2 : Post C X.K W σ (WkV C X.K) H1 ι1 (NF.bnd (NF.lstOf (.ref n)) (fun ds => NF.ret (.lst n ds)) S1) R := p1
      obtain ⟨n', a', ds, vs, en, ea, ha', hq, r, _, p3⟩ := Post.lstOf p2 s1 dv
      cases en; cases ea
      exact ⟨a, rfl, ⟨vs, hq⟩, p3.ret s1 (wk_lst ha)⟩
    | _ => exact False.elim p
theorem small_le {i : Int} (h : small i = true) : -(2 ^ 62) ≤ i ∧ i < 2 ^ 62 := by
  unfold small at h
  simp only [Bool.and_eq_true, decide_eq_true_eq] at h
  exact ⟨Int.le_of_lt h.1, h.2⟩
theorem pi_rng1 {a : Expr} {p pos : Pos} {ms : Env → M (List D)} (hg : Gl X "range") (hm : X.mg "range" = none) (ho : headOk a = true) (ha : PA X [a] (tDs C X.K W ms)) : PI X tg (.Call (.Name "range" p) [a] [] pos) (tW C X.K W fun ρ => NF.bnd (ms ρ) fun ds => wkOf .rng1 ds) :=
  (pi_range1 hg hm ha (by rw [star_ok ho] <;> rfl)).imp fun σ H Q h => ones (g := fun ds _ => wkOf .rng1 ds) h fun ρ S ι ds xs H1 er s r p => by
    rcases ds with _ | ⟨d, _ | ⟨d2, rest⟩⟩
    · exact False.elim p
    · cases d with
      | int j =>
        obtain ⟨v, q, rfl, dv, rfl⟩ := r
        rw [DV] at dv; subst dv
        obtain ⟨hs, p⟩ := Post.ifT (c := small j = true) (m := NF.ret (Wk.fix ((List.range j.toNat).map fun (i : Nat) => D.int (0 + (i : Int))))) p
        exact ⟨j, rfl, (small_le hs).1, (small_le hs).2, p.ret s wk_rng⟩
      | _ => exact False.elim p
    · cases d <;> exact False.elim p
theorem pi_rng2 {a b : Expr} {p pos : Pos} {ms : Env → M (List D)} (hg : Gl X "range") (hm : X.mg "range" = none) (ho : headOk a = true) (ho2 : headOk b = true) (ha : PA X [a, b] (tDs C X.K W ms)) : PI X tg (.Call (.Name "range" p) [a, b] [] pos) (tW C X.K W fun ρ => NF.bnd (ms ρ) fun ds => wkOf .rng2 ds) :=
  (pi_range2 hg hm ha (by rw [star_ok ho, star_ok ho2] <;> rfl) (by rw [star_ok ho2] <;> rfl)).imp fun σ H Q h => ones (g := fun ds _ => wkOf .rng2 ds) h fun ρ S ι ds xs H1 er s r p => by
    rcases ds with _ | ⟨d, _ | ⟨d2, _ | ⟨d3, rest⟩⟩⟩
    · exact False.elim p
    · cases d <;> exact False.elim p
    · cases d with
      | int i =>
        cases d2 with
        | int j =>
          obtain ⟨v, q, rfl, dv, v2, q2, rfl, dv2, rfl⟩ := r
          rw [DV] at dv dv2; subst dv dv2
          obtain ⟨hs, p⟩ := Post.ifT (c := (small i && small j) = true) (m := NF.ret (Wk.fix ((List.range (j - i).toNat).map fun (k : Nat) => D.int (i + (k : Int))))) p
          simp only [Bool.and_eq_true] at hs
          exact ⟨i, j, rfl, ⟨(small_le hs.1).1, (small_le hs.1).2, (small_le hs.2).1, (small_le hs.2).2⟩, p.ret s wk_rng⟩
        | _ => exact False.elim p
      | _ => exact False.elim p
    · cases d <;> cases d2 <;> exact False.elim p
end
end NF
end -- NfLc

section -- NfLc2
set_option linter.all false
set_option autoImplicit false
set_option maxRecDepth 100000
set_option maxHeartbeats 1000000
namespace NF
open PySem PySem.Spec PyProof.Rows L2
def Tg.ixs : Tg → List Nat
  | .nm i => [i]
  | .tup is => is
def gTg (C : Cfg) (K : PySem.W.Frag) (tg : Tg) : L2.TG := fun v σ H Q => ∃ ρ S ι d ρ', ER H ι σ ρ ∧ StR C K H ι S ∧ DV H ι d v ∧ tg.bind d ρ S = .ok ρ' S ∧ ∀ σ', ER H ι σ' ρ' → (∀ i, i ∉ tg.ixs → σ'[i]? = σ[i]?) → Q σ' H
section
variable {C : Cfg} {X : Cx} {W : WX} {pos : Pos}
theorem _root_.L2.PG.imp {X : Cx} {e : Expr} {t t' : L2.TG} (h : PG X e t) (w : ∀ v σ H Q, t' v σ H Q → t v σ H Q) : PG X e t' := ⟨fun pins s σ H v u Q I r q => h.run pins s σ H v u Q I r (w v σ H Q q)⟩
theorem _root_.L2.PGs.imp {X : Cx} {e : List Expr} {t t' : L2.TGs} (h : PGs X e t) (w : ∀ v σ H Q, t' v σ H Q → t v σ H Q) : PGs X e t' := ⟨fun pins s σ H v u Q I r q => h.run pins s σ H v u Q I r (w v σ H Q q)⟩
theorem ER.set {H : Hp} {ι : List Addr} {σ : L2.St} {ρ : Env} (er : ER H ι σ ρ) {d : D} {v : V} (dv : DV H ι d v) (i : Nat) : ER H ι (σ.set i (some v)) (ρ.set i (some d)) := by
  refine ⟨by rw [List.length_set, List.length_set]; exact er.1, fun j x e => ?_⟩
  by_cases hj : i = j
  · subst hj
    have hlt : i < ρ.length := by
      have := (List.getElem?_eq_some_iff.mp e).1
      rwa [List.length_set] at this
    rw [List.getElem?_set_self hlt] at e
    cases e
    exact ⟨v, by rw [List.getElem?_set_self (by rw [er.1]; exact hlt)], dv⟩
  · rw [List.getElem?_set_ne hj] at e ⊢
    exact er.2 j x e
def setV : List Nat → List V → L2.St → L2.St
  | i :: is, v :: vs, σ => setV is vs (σ.set i (some v))
  | _, _, σ => σ
theorem ER.setAll {H : Hp} {ι : List Addr} : ∀ (is : List Nat) {ds : List D} {vs : List V} {σ : L2.St} {ρ : Env}, ER H ι σ ρ → DVs H ι ds vs → ER H ι (setV is vs σ) (NF.setAll is ds ρ)
  | [], _, _, _, _, er, _ => by simpa [setV, NF.setAll] using er
  | i :: is, [], vs, _, _, er, r => by simp only [DVs] at r; subst r; simpa [setV, NF.setAll] using er
  | i :: is, d :: ds, vs, σ, ρ, er, r => by
    obtain ⟨v, q, rfl, h1, h2⟩ := r
    exact ER.setAll is (σ := σ.set i (some v)) (ρ := ρ.set i (some d)) (ER.set er h1 i) h2
theorem setV_other : ∀ {is : List Nat} {vs : List V} {σ : L2.St} {i : Nat}, i ∉ is → (setV is vs σ)[i]? = σ[i]?
  | [], _, _, _, _ => by simp [setV]
  | j :: is, [], _, _, _ => by simp [setV]
  | j :: is, v :: vs, σ, i, h => by
    simp only [List.mem_cons, not_or] at h
    rw [setV, setV_other h.2, List.getElem?_set_ne (fun e => h.1 e.symm)]
theorem mg_nm {i : Nat} {x : Str} (hN : X.N.Nodup) (hi : X.N[i]? = some x) (hx : Loc X.env.scope x) (hf : X.fn x = true ∨ X.env.scope.names.lookup x = some .local) : PG X (.Name x pos) (gTg C X.K (.nm i)) :=
  (pg_name hN hi hx hf).imp fun v σ H Q ⟨ρ, S, ι, d, ρ', er, s, dv, hb, k⟩ => by
    unfold Tg.bind at hb
    cases hb
    exact k _ (er.set dv i) fun j hj => by
      simp only [Tg.ixs, List.mem_singleton] at hj
      rw [List.getElem?_set_ne (fun e => hj e.symm)]
/-- names, by places -/
def nmsOk (X : Cx) : List Expr → List Nat → Prop
  | [], [] => True
  | .Name x _ :: es, i :: is => X.N[i]? = some x ∧ Loc X.env.scope x ∧ (X.fn x = true ∨ X.env.scope.names.lookup x = some .local) ∧ nmsOk X es is
  | _, _ => False
theorem nmsOk.each (hN : X.N.Nodup) : ∀ {es : List Expr} {is : List Nat}, nmsOk X es is → ((assignEach es X.env).length = is.length ∧ (assignEach es X.env).findIdx? (·.1) = none ∧ PGs X es (fun vs σ H Q => vs.length = is.length ∧ Q (setV is vs σ) H)) := by
  intro es
  induction es with
  | nil =>
    intro is h
    cases is with
    | nil =>
      refine ⟨rfl, rfl, pgs_nil.imp fun vs σ H Q ⟨hl, q⟩ => ?_⟩
      obtain rfl := List.length_eq_zero_iff.mp hl
      exact ⟨rfl, q⟩
    | cons i is => exact False.elim h
  | cons e es ih =>
    intro is h
    cases is with
    | nil => cases e <;> exact False.elim h
    | cons i is =>
      cases e with
      | Name x p =>
        obtain ⟨h1, h2, h3, h4⟩ := h
        obtain ⟨g1, g2, g3⟩ := ih h4
        refine ⟨?_, ?_, (pgs_cons (pg_name hN h1 h2 h3) g3).imp fun vs σ H Q ⟨hl, q⟩ => ?_⟩
        · show (assignEach es X.env).length + 1 = is.length + 1
          rw [g1]
        · show List.findIdx? (·.1) ((false, assign (.Name x p) X.env) :: assignEach es X.env) = none
          rw [List.findIdx?_cons]
          simp only [Bool.false_eq_true, if_false, g2]
          rfl
        · cases vs with
          | nil => cases hl
          | cons v vs => exact ⟨v, vs, rfl, by simpa using hl, q⟩
      | _ => exact False.elim h
theorem mg_tup {es : List Expr} {k : Nat} {is : List Nat} (hc : X.calm = true) (hN : X.N.Nodup) (h : nmsOk X es is) : PG X (.Tuple es k pos) (gTg C X.K (.tup is)) := by
  obtain ⟨g1, g2, g3⟩ := h.each hN
  · refine (pg_tup hc g3 g1 g2).imp fun v σ H Q ⟨ρ, S, ι, d, ρ', er, s, dv, hb, kk⟩ => ?_
    cases d with
    | tup ds =>
      obtain ⟨a, vs, rfl, ha, r⟩ := dv
      have hb : (if ds.length = is.length then NF.ret (setAll is ds ρ) else bad) S = .ok ρ' S := hb
      by_cases hl : ds.length = is.length
      · rw [if_pos hl] at hb
        cases hb
        exact ⟨a, vs, rfl, SqT.of ha, by rw [r.len, hl], by rw [r.len, hl], kk _ (ER.setAll is er r) fun j hj => setV_other hj⟩
      · rw [if_neg hl] at hb; cases hb
    | _ => cases hb
/-! ### the block's own names -/
theorem ER.wipe {H : Hp} {ι : List Addr} {σ : L2.St} {ρ : Env} (er : ER H ι σ ρ) : ∀ vs : List Nat, ER H ι (L2.wipe σ vs) (wipeE ρ vs)
  | [] => er
  | v :: vs => by
    have ih := ER.wipe er vs
    refine ⟨by show ((L2.wipe σ vs).set v none).length = ((wipeE ρ vs).set v none).length; rw [List.length_set, List.length_set]; exact ih.1, fun j x e => ?_⟩
    have e' : ((wipeE ρ vs).set v none)[j]? = some (some x) := e
    show ∃ u, ((L2.wipe σ vs).set v none)[j]? = some (some u) ∧ _
    by_cases hj : v = j
    · subst hj
      have hlt : v < (wipeE ρ vs).length := by
        have := (List.getElem?_eq_some_iff.mp e').1
        rwa [List.length_set] at this
      rw [List.getElem?_set_self hlt] at e'
      cases e'
    · rw [List.getElem?_set_ne hj] at e' ⊢
      exact ih.2 j x e'
theorem wipe_get {σ : L2.St} {i : Nat} : ∀ {vs : List Nat}, (L2.wipe σ vs)[i]? = if i ∈ vs then (if i < σ.length then some none else none) else σ[i]?
  | [] => by simp [L2.wipe]
  | v :: vs => by
    rw [L2.wipe]
    by_cases hi : v = i
    · subst hi
      by_cases hl : v < σ.length
      · rw [List.getElem?_set_self (by rw [wipe_length]; exact hl)]
        simp [hl]
      · rw [List.getElem?_eq_none (by rw [List.length_set, wipe_length]; omega)]
        simp [hl]
    · rw [List.getElem?_set_ne hi, wipe_get]
      have : i ∈ v :: vs ↔ i ∈ vs := by simp [Ne.symm hi]
      simp only [this]
theorem wipe_back {σ σ' : L2.St} {vs is : List Nat} (hl : σ'.length = σ.length) (hi : ∀ i ∈ is, i ∈ vs) (h : ∀ i, i ∉ is → σ'[i]? = (L2.wipe σ vs)[i]?) : L2.wipe σ' vs = L2.wipe σ vs := by
  apply List.ext_getElem?
  intro i
  rw [wipe_get, wipe_get]
  by_cases hm : i ∈ vs
  · rw [if_pos hm, if_pos hm, hl]
  · rw [if_neg hm, if_neg hm, h i (fun q => hm (hi i q)), wipe_get, if_neg hm]
end
end NF
end -- NfLc2

section -- NfLc3
set_option linter.all false
set_option autoImplicit false
set_option maxRecDepth 100000
set_option maxHeartbeats 1000000
namespace NF
open PySem PySem.Spec PyProof.Rows L2
theorem still_same {wk : Wk} {S S' : Store} (h : wk.still S = .ok () S') : S' = S := by
  cases wk with
  | lst n ds =>
    obtain ⟨es, S3, h1, h2⟩ := bnd_ok (m := NF.lstOf (.ref n)) h
    obtain ⟨o, S1, h3, h4⟩ := bnd_ok (m := NF.obj n) h1
    unfold NF.obj at h3
    cases q : S[n]? with
    | none => rw [q] at h3; cases h3
    | some u =>
      rw [q] at h3
      cases h3
      have e : S3 = S := by cases o <;> cases h4 <;> rfl
      subst e
      by_cases he : es = ds
      · rw [if_pos he] at h2; cases h2; rfl
      · rw [if_neg he] at h2; cases h2
  | fix ds => cases h; rfl
  | dict n kvs ds => cases h; rfl
theorem noExn_no {α : Type} {m : M α} {S S' : Store} {c : Ex} : noExn m S ≠ .exn c S' := by
  intro h
  unfold noExn at h
  cases q : m S with
  | ok a S1 => rw [q] at h; cases h
  | exn c S1 => rw [q] at h; cases h
  | bad => rw [q] at h; cases h
theorem still_no {wk : Wk} {S S' : Store} {c : Ex} : wk.still S ≠ .exn c S' := by
  intro h
  cases wk with
  | lst n ds =>
    unfold Wk.still NF.lstOf NF.obj NF.bnd at h
    simp only at h
    cases q : S[n]? with
    | none => rw [q] at h; cases h
    | some u =>
      rw [q] at h
      simp only [NF.bnd] at h
      cases u <;> simp only [NF.ret, bad] at h <;> first | (split at h <;> cases h) | cases h
  | fix ds => cases h
  | dict n kvs ds => cases h
theorem bnd_no {α β : Type} {m : M α} {f : α → M β} {S S' : Store} {c : Ex} (h1 : ∀ S', m S ≠ .exn c S') (h2 : ∀ a S1 S', f a S1 ≠ .exn c S') : NF.bnd m f S ≠ .exn c S' := by
  unfold NF.bnd
  cases q : m S with
  | ok a S1 => exact h2 a S1 S'
  | exn d S1 => intro z; cases z; exact h1 _ q
  | bad => intro z; cases z
theorem collect_no {wk : Wk} {turn : D → M (Option D)} {c : Ex} (ht : ∀ d S S', turn d S ≠ .exn c S') : ∀ (ds : List D) (S S' : Store), collect wk turn ds S ≠ .exn c S'
  | [], S, S' => bnd_no (fun _ => still_no) fun _ _ _ z => by cases z
  | d :: r, S, S' => bnd_no (fun _ => still_no) fun _ _ _ => bnd_no (fun _ => ht _ _ _) fun _ _ _ => bnd_no (fun _ => collect_no ht r _ _) fun _ _ _ z => by cases z
/-- a list that was made aside joins the store -/
theorem Ext.adopt {H H' : Hp} {ι ι' : List Addr} {D : Addr} (e : Ext H ι H' ι') (hD : H D = none) : Ext H ι H' (ι' ++ [D]) :=
  ⟨e.pre.trans (List.prefix_append _ _), e.tup, e.frame, fun a h => by
    rcases mem_drop_app h with z | z
    · exact e.fresh a z
    · subst z; exact .inr fun o q => by (rw [hD] at q; cases q), e.lck⟩
section
variable {C : Cfg} {K : PySem.W.Frag} {W : WX}
def turnM (tg : Tg) (own : List Nat) (mt : Env → M Bool) (me : Env → M D) (ρ : Env) (d : D) : M (Option D) :=
  noExn (NF.bnd (tg.bind d (wipeE ρ own)) fun ρ' => NF.bnd (mt ρ') fun b => if b then NF.bnd (me ρ') fun y => NF.ret (some y) else NF.ret none)
def lcM (mw : Env → M Wk) (tg : Tg) (own : List Nat) (mt : Env → M Bool) (me : Env → M D) (ρ : Env) : M D :=
  NF.bnd (mw ρ) fun wk => NF.bnd (collect wk (turnM tg own mt me ρ) wk.items) fun ds => NF.bnd wk.leave fun _ => if ds.length ≤ line then NF.new (.lst ds) else bad
theorem line_lt : line < sizeLine := by
  have := line_le
  unfold line at *
  decide
theorem StR.free {H : Hp} {ι : List Addr} {S : Store} {D : Addr} (s : StR C K H ι S) (hD : H D = none) : D ∉ ι.drop 2 := fun hm => by
  obtain ⟨i, hi⟩ := List.mem_iff_getElem?.mp hm
  rw [List.getElem?_drop] at hi
  have hlt : 2 + i < S.length := by rw [← s.len]; exact (List.getElem?_eq_some_iff.mp hi).1
  have hS : S[2 + i]? = some S[2 + i] := List.getElem?_eq_getElem hlt
  cases hf' : fixed S[2 + i] with
  | true => have := (s.fix _ _ hS).mp hf'; omega
  | false =>
    obtain ⟨x, hx, _⟩ := (s.obj _ _ _ hS hi).some hf'
    rw [hD] at hx; cases hx
theorem Ext.nin {H H' : Hp} {ι ι' : List Addr} {D : Addr} (e : Ext H ι H' ι') {vs : List V} (h : H D = some (.lst vs)) (hn : D ∉ ι.drop 2) : D ∉ ι'.drop 2 := fun hm => by
  rcases e.fresh D hm with z | z
  · exact hn z
  · obtain ⟨ps, q⟩ := z _ h
    cases q
theorem Ext.side {H H' : Hp} {ι ι' : List Addr} {D : Addr} {u : HO} (e : Ext H ι H' ι') (hD : H D = none) : Ext H ι (upd H' D u) ι' :=
  ⟨e.pre, fun a vs h => by rw [upd_ne (ne_of_none h hD)]; exact e.tup a vs h, fun a o h ht hn => by rw [upd_ne (ne_of_none h hD)]; exact e.frame a o h ht hn, e.fresh, fun a o x h => by rw [upd_ne (ne_of_none h hD)]; exact e.lck a o x h⟩
theorem Ex0.side {H : Hp} {ι : List Addr} {D : Addr} {u : HO} {vs : List V} (hD : H D = some (.lst vs)) : Ex0 H ι (upd H D u) ι :=
  ⟨List.prefix_refl _, fun a us h => by rw [upd_ne (by rintro rfl; rw [hD] at h; cases h)]; exact h⟩
theorem StR.side {H : Hp} {ι : List Addr} {S : Store} {D : Addr} {u : HO} {vs : List V} (s : StR C K H ι S) (hn : D ∉ ι.drop 2) (hD : H D = some (.lst vs)) : StR C K (upd H D u) ι S :=
  ⟨s.len, s.pre, fun n o a h1 h2 => (s.obj n o a h1 h2).upd (by
    cases hf : fixed o with
    | true => exact .inl rfl
    | false => exact .inr fun z => hn (z ▸ s.unf h1 hf h2)) (fun ob x z => by rw [hD] at z; cases z) (Ex0.side hD), s.nd, s.two, s.fix, tabs_upd s.tabs (fun ps z => by rw [hD] at z; cases z) fun φ z => by rw [hD] at z; cases z⟩
/-- the loop: J yields the items, D gathers -/
theorem lc_loop {mt : Env → M Bool} {me : Env → M D} {tg : Tg} {own : List Nat} {ρ : Env} {σ : L2.St} {H1 : Hp} {ι1 : List Addr} {S1 S2 : Store} {wk : Wk} {J : It} {ds : List D} {L : Addr} {Qd : Hp → Prop} (htg : ∀ i ∈ tg.ixs, i ∈ own)
    (er : ER H1 ι1 σ ρ) (st : StR C K H1 ι1 S1) (hw : WkV C K H1 ι1 wk J) (hc : collect wk (turnM tg own mt me ρ) wk.items S1 = .ok ds S2) (hl : ds.length ≤ line) (hL : H1 L = none)
    (fin : ∀ H' ι' vs, Ext H1 ι1 H' ι' → StR C K H' ι' S2 → H' L = some (.lst vs) → DVs H' ι' ds vs → L ∉ ι'.drop 2 → Qd H') :
    ∃ Wm : Nat → Nat → Hp → Prop, (∃ m, Wm 0 m (upd H1 L (.lst []))) ∧ ∀ i m H, Wm i m H →
      (J.stop i H ∧ Qd H) ∨ (J.go i H ∧ ∃ Nx : Hp → Prop, (∀ H', Nx H' → ∃ m', m' < m ∧ Wm (i + 1) m' H') ∧ ∀ x H', J.yld i H x H' → gTg C K tg x (L2.wipe σ own) H' fun σ2 H2 => L2.wipe σ2 own = L2.wipe σ own ∧ tT C K noW mt σ2 H2 fun b H3 =>
        if b = true then tD C K noW me σ2 H3 fun y H4 => ∃ acc, H4 L = some (.lst acc) ∧ acc.length < sizeLine ∧ Nx (upd H4 L (.lst (acc ++ [y]))) else Nx H3) := by
  let St : Nat → Hp → Prop := fun i H' => ∃ (Si : Store) (ιi : List Addr) (acc : List D) (vacc : List V) (rs : List D), Ext H1 ι1 H' ιi ∧ StR C K H' ιi Si ∧ H' L = some (.lst vacc) ∧ L ∉ ιi.drop 2 ∧ DVs H' ιi acc vacc ∧ collect wk (turnM tg own mt me ρ) (wk.items.drop i) Si = .ok rs S2 ∧ acc ++ rs = ds
  have e0 : Ext H1 ι1 (upd H1 L (.lst [])) ι1 := Ext.new hL
  refine ⟨fun i m H' => m = wk.items.length - i ∧ i ≤ wk.items.length ∧ St i H', ⟨_, rfl, Nat.zero_le _, S1, ι1, [], [], ds, e0, st.hid hL, upd_same, st.free hL, rfl, by rw [List.drop_zero]; exact hc, rfl⟩, ?_⟩
  rintro i m H' ⟨rfl, hi, Si, ιi, acc, vacc, rs, e, s, hLa, hnL, ra, hcol, hds⟩
  by_cases hlt : i < wk.items.length
  · right
    have hx : wk.items[i]? = some wk.items[i] := List.getElem?_eq_getElem hlt
    rw [List.drop_eq_getElem_cons hlt] at hcol
    generalize wk.items[i] = d at hx hcol
    obtain ⟨_, Sa, hstill, hcol⟩ := bnd_ok (m := wk.still) hcol
    have eS := still_same hstill
    rw [eS] at hcol hstill
    obtain ⟨o, Sb, hturn, hcol⟩ := bnd_ok (m := turnM tg own mt me ρ d) hcol
    obtain ⟨rs', Sc, hrest, hret⟩ := bnd_ok (m := collect wk (turnM tg own mt me ρ) (wk.items.drop (i + 1))) hcol
    cases hret
    obtain ⟨_, hgo⟩ := hw H' ιi Si e s ⟨_, hstill⟩ i
    obtain ⟨hgo, hyld⟩ := hgo d hx
    refine ⟨hgo, St (i + 1), fun H'' hS => ⟨wk.items.length - (i + 1), by omega, rfl, hlt, hS⟩, fun x H'' hy => ?_⟩
    obtain ⟨rfl, dv⟩ := hyld x H'' hy
    have ht := noExn_ok hturn
    obtain ⟨ρ', S3, hb, ht⟩ := bnd_ok ht
    obtain ⟨b, S4, hmt, ht⟩ := bnd_ok ht
    have hS3 : S3 = Si := by
      cases tg with
      | nm i => cases hb; rfl
      | tup is =>
        unfold Tg.bind at hb
        cases d with
        | tup ds' =>
          simp only at hb
          split at hb
          · cases hb; rfl
          · cases hb
        | _ => cases hb
    subst hS3
    refine ⟨_, S3, ιi, d, ρ', ER.wipe (er.ext e) own, s, dv, hb, fun σ' er' hsame => ⟨wipe_back ?_ htg hsame, ρ', S3, ιi, er', s, ?_⟩⟩
    · have h1 := er'.1
      have h2 : ρ'.length = (wipeE ρ own).length := by
        cases tg with
        | nm i => cases hb; rw [List.length_set]
        | tup is =>
          unfold Tg.bind at hb
          cases d with
          | tup ds' =>
            simp only at hb
            split at hb
            · cases hb
              have : ∀ (is : List Nat) (ds : List D) (ρ : Env), (setAll is ds ρ).length = ρ.length := by
                intro is
                induction is with
                | nil => intro ds ρ; simp [setAll]
                | cons i is ih => intro ds ρ; cases ds <;> simp [setAll, ih]
              exact this _ _ _
            · cases hb
          | _ => cases hb
      rw [h1, h2, ← (ER.wipe (er.ext e) own).1, wipe_length]
    · rw [hmt]
      intro b' H3 ι3 e3 s3 hb'
      subst hb'
      have hL3 : H3 L = some (.lst vacc) := e3.frame L _ hLa (fun _ z => by cases z) hnL
      have hn3 := e3.nin hLa hnL
      cases b' with
      | false =>
        simp only [Bool.false_eq_true, if_false] at ht ⊢
        cases ht
        exact ⟨_, ι3, acc, vacc, rs', e.trans e3, s3, hL3, hn3, ra.ext e3, hrest, hds⟩
      | true =>
        simp only [if_true] at ht ⊢
        obtain ⟨y, S5, hme, ht⟩ := bnd_ok ht
        cases ht
        refine ⟨ρ', S4, ι3, er'.ext e3, s3, ?_⟩
        rw [hme]
        intro v H4 ι4 e4 s4 dv4
        have hL4 : H4 L = some (.lst vacc) := e4.frame L _ hL3 (fun _ z => by cases z) hn3
        have hn4 := e4.nin hL3 hn3
        have ra4 := (ra.ext e3).ext e4
        refine ⟨vacc, hL4, ?_, _, ι4, acc ++ [y], vacc ++ [v], rs', ?_, ?_, upd_same, hn4, ?_, hrest, by rw [List.append_assoc]; exact hds⟩
        · rw [ra4.len]
          have : acc.length < ds.length := by rw [← hds]; simp
          exact Nat.lt_of_lt_of_le this (Nat.le_trans hl line_le)
        · exact ((e.trans e3).trans e4).side hL
        · exact s4.side hn4 hL4
        · exact ((ra4.app (DVs.one dv4)).ext0 (Ex0.side hL4))
  · left
    have hi' : i = wk.items.length := by omega
    subst hi'
    rw [List.drop_length] at hcol
    obtain ⟨_, Sa, hstill, hret⟩ := bnd_ok (m := wk.still) hcol
    have eS := still_same hstill
    rw [eS] at hret hstill
    cases hret
    rw [List.append_nil] at hds
    subst hds
    exact ⟨(hw H' ιi _ e s ⟨_, hstill⟩ _).1 (Nat.le_refl _), fin H' ιi vacc e s hLa ra hnL⟩
theorem lc_read {mw : Env → M Wk} {mt : Env → M Bool} {me : Env → M D} {tg : Tg} {own : List Nat} (htg : ∀ i ∈ tg.ixs, i ∈ own) (hnd : ∀ ρ S wk S', mw ρ S = .ok wk S' → wk.leave = NF.ret ()) {σ : L2.St} {H : Hp} {Q : VK}
    (h : tD C K W (lcM mw tg own mt me) σ H Q) : tLc (tW C K W mw) (gTg C K tg) (tT C K noW mt) (tD C K noW me) own σ H Q := by
  obtain ⟨ρ, S, ι, er, s, p⟩ := h
  refine ⟨ρ, S, ι, er, s, ?_⟩
  unfold lcM at p
  cases hm : mw ρ S with
  | bad => unfold NF.bnd at p; simp only [hm] at p; exact False.elim p
  | exn c S1 => unfold NF.bnd at p; simp only [hm] at p; exact p
  | ok wk S1 =>
    rw [bnd_of hm] at p
    intro J H1 ι1 e1 s1 hw L hL
    cases hc : collect wk (turnM tg own mt me ρ) wk.items S1 with
    | bad => unfold NF.bnd at p; simp only [hc] at p; exact False.elim p
    | exn c S2 => exact absurd hc (collect_no (fun _ _ _ => noExn_no) _ _ _)
    | ok ds S2 =>
      rw [bnd_of hc, hnd ρ S wk S1 hm] at p
      have p' : Post C K W σ DV H ι ((if ds.length ≤ line then NF.new (.lst ds) else bad) S2) Q := p
      obtain ⟨hl, p2⟩ := Post.ifT p'
      refine lc_loop htg (er.ext e1) s1 hw hc hl hL fun H' ι' vs e s' hL' r hn => ?_
      have hD0 : L ∈ ι.drop 2 ∨ ∀ o, H L = some o → ∃ ps, o = .tbl ps := by
        by_cases hn : L ∈ ι.drop 2
        · exact .inl hn
        · refine .inr fun o ho => ?_
          by_cases ht : ∀ ps, o ≠ .tbl ps
          · rw [e1.frame L o ho ht hn] at hL; cases hL
          · obtain ⟨ps, ht⟩ := Classical.not_forall.mp ht
            exact ⟨ps, Classical.not_not.mp ht⟩
      have eT := e1.trans e
      have eA : Ext H ι H' (ι' ++ [L]) := ⟨eT.pre.trans (List.prefix_append _ _), eT.tup, eT.frame, fun a ha => by
        rcases mem_drop_app ha with z | z
        · exact eT.fresh a z
        · subst z; exact hD0, eT.lck⟩
      have sA : StR C K H' (ι' ++ [L]) (S2 ++ [.lst ds]) := s'.app hn hL' (fun _ _ z => by cases z) ⟨vs, hL', r.ext0 ⟨List.prefix_append _ _, fun _ _ h => h⟩⟩ rfl
      refine p2 (.ref L) H' (ι' ++ [L]) eA sA ⟨L, rfl, ?_⟩
      rw [← s'.len, List.getElem?_append_right (Nat.le_refl _)]
      simp
end
end NF
end -- NfLc3

section -- NfSt
set_option linter.all false
set_option autoImplicit false
set_option maxRecDepth 100000
set_option maxHeartbeats 1000000
/-! Statements. -/
namespace NF
open PySem PySem.Spec PyProof.Rows L2
def PostS (C : Cfg) (K : PySem.W.Frag) (W : WX) (D : Ends) (H : Hp) (ι : List Addr) (r : SR) : Prop := match r with
  | .ok (.nx ρ) S => ∀ σ' H' ι', Ext H ι H' ι' → StR C K H' ι' S → ER H' ι' σ' ρ → D.nx σ' H'
  | .ok (.ct ρ) S => ∀ σ' H' ι', Ext H ι H' ι' → StR C K H' ι' S → ER H' ι' σ' ρ → D.ct σ' H'
  | .ok (.rt d) S => ∀ v H' ι', Ext H ι H' ι' → StR C K H' ι' S → DV H' ι' d v → D.rt v H'
  | .exn c ρ S => ∀ σ' H' ι', Ext H ι H' ι' → StR C K H' ι' S → ER H' ι' σ' ρ → W (.ref (C.cad c)) none σ' H'
  | .bad => False
def tS (C : Cfg) (K : PySem.W.Frag) (W : WX) (m : Env → SM) : TS := fun D σ H => ∃ ρ S ι, ER H ι σ ρ ∧ StR C K H ι S ∧ PostS C K W D H ι (m ρ S)
theorem _root_.L2.PS.imp {X : Cx} {s : Stmt} {t t' : TS} (h : PS X s t) (w : ∀ D σ H, t' D σ H → t D σ H) : PS X s t' := ⟨fun pins s σ H D I q => h.run pins s σ H D I (w D σ H q)⟩
theorem _root_.L2.PSs.imp {X : Cx} {s : List Stmt} {t t' : TS} (h : PSs X s t) (w : ∀ D σ H, t' D σ H → t D σ H) : PSs X s t' := ⟨fun pins s σ H D I q => h.run pins s σ H D I (w D σ H q)⟩
section
variable {C : Cfg} {K : PySem.W.Frag} {W : WX} {D : Ends} {H H' : Hp} {ι ι' : List Addr}
theorem PostS.ext {r : SR} (p : PostS C K W D H ι r) (e : Ext H ι H' ι') : PostS C K W D H' ι' r := by
  cases r with
  | ok f S => cases f <;> exact fun b H2 ι2 e2 s d => p b H2 ι2 (e.trans e2) s d
  | exn c ρ S => exact fun b H2 ι2 e2 s d => p b H2 ι2 (e.trans e2) s d
  | bad => exact p
theorem PostS.lift {α β : Type} {dw : Hp → List Addr → α → β → Prop} {m : M α} {ρ : Env} {k : α → SM} {S : Store} {σ : L2.St} (p : PostS C K W D H ι (liftM m ρ k S)) (er : ER H ι σ ρ) :
    Post C K W σ dw H ι (m S) (fun b H1 => ∃ a S1 ι1, Ext H ι H1 ι1 ∧ StR C K H1 ι1 S1 ∧ dw H1 ι1 a b ∧ PostS C K W D H1 ι1 (k a S1)) := by
  unfold liftM at p
  cases h : m S with
  | ok a S1 => rw [h] at p; exact fun b H1 ι1 e s d => ⟨a, S1, ι1, e, s, d, p.ext e⟩
  | exn c S1 => rw [h] at p; exact fun H1 ι1 e s => p σ H1 ι1 e s (er.ext e)
  | bad => rw [h] at p; exact p
theorem PostS.nx {ρ : Env} {S : Store} {σ : L2.St} (p : PostS C K W D H ι (sret (.nx ρ) S)) (s : StR C K H ι S) (er : ER H ι σ ρ) : D.nx σ H := p σ H ι (Ext.refl _ _) s er
theorem PostS.ct {ρ : Env} {S : Store} {σ : L2.St} (p : PostS C K W D H ι (sret (.ct ρ) S)) (s : StR C K H ι S) (er : ER H ι σ ρ) : D.ct σ H := p σ H ι (Ext.refl _ _) s er
theorem PostS.rt {d : NF.D} {S : Store} {v : V} (p : PostS C K W D H ι (sret (.rt d) S)) (s : StR C K H ι S) (dv : DV H ι d v) : D.rt v H := p v H ι (Ext.refl _ _) s dv
end
section
variable {C : Cfg} {X : Cx} {W : WX} {pos : Pos} {e : Expr} {m : Env → M NF.D}
/-- an expression, then k -/
theorem lone {α β : Type} {dw : Hp → List Addr → α → β → Prop} {D : Ends} {σ : L2.St} {H : Hp} {m : Env → M α} {k : α → Env → SM} {R : β → Hp → Prop} (h : tS C X.K W (fun ρ => liftM (m ρ) ρ fun a => k a ρ) D σ H)
    (g : ∀ ρ S ι a b H1, ER H1 ι σ ρ → StR C X.K H1 ι S → dw H1 ι a b → PostS C X.K W D H1 ι (k a ρ S) → R b H1) : tG C X.K W dw m σ H R := by
  obtain ⟨ρ, S, ι, er, s, p⟩ := h
  refine ⟨ρ, S, ι, er, s, (PostS.lift (dw := dw) p er).mono ?_⟩
  rintro b H1 ⟨a, S1, ι1, e1, s1, d1, p1⟩
  exact g ρ S1 ι1 a b H1 (er.ext e1) s1 d1 p1
theorem ms_nil : PSs X [] (tS C X.K W fun ρ => sret (.nx ρ)) := pss_nil.imp fun D σ H ⟨ρ, S, ι, er, s, p⟩ => p.nx s er
theorem ms_cons {st : Stmt} {sts : List Stmt} {m : Env → SM} {k : Env → SM} (h : PS X st (tS C X.K W m)) (hs : PSs X sts (tS C X.K W k)) : PSs X (st :: sts) (tS C X.K W fun ρ => seq (m ρ) k) :=
  (pss_cons h hs).imp fun D σ H ⟨ρ, S, ι, er, s, p⟩ => by
    refine ⟨ρ, S, ι, er, s, ?_⟩
    unfold seq at p
    simp only at p
    cases hm : m ρ S with
    | ok f S1 =>
      rw [hm] at p
      cases f with
      | nx ρ1 => exact fun σ' H' ι' e s' er' => ⟨ρ1, S1, ι', er', s', PostS.ext (r := k ρ1 S1) p e⟩
      | ct ρ1 => exact p
      | rt d => exact p
    | exn c ρ1 S1 => rw [hm] at p; exact p
    | bad => rw [hm] at p; exact p
theorem ms_asg {i : Nat} {x : Str} {p2 : Pos} (hN : X.N.Nodup) (hi : X.N[i]? = some x) (hx : Loc X.env.scope x) (he : PE X e (tD C X.K W m)) (hs : swapsWith e (some (.Name x p2)) pos.line X.env = pure false) (hf : X.fn x = true ∨ X.env.scope.names.lookup x = some .local) :
    PS X (.Assign [.Name x p2] e pos) (tS C X.K W fun ρ => liftM (m ρ) ρ fun d => sret (.nx (ρ.set i (some d)))) :=
  (ps_set hN hi hx he hs hf).imp fun D σ H h => lone (k := fun d ρ => sret (.nx (ρ.set i (some d)))) h fun ρ S ι a b H1 er s dv p => p.nx s (er.set dv i)
theorem ms_exp (he : PE X e (tD C X.K W m)) (hs : swapsWith e none pos.line X.env = pure false) : PS X (.Expr e pos) (tS C X.K W fun ρ => liftM (m ρ) ρ fun _ => sret (.nx ρ)) :=
  (ps_expr he hs).imp fun D σ H h => lone (k := fun _ ρ => sret (.nx ρ)) h fun ρ S ι a b H1 er s dv p => p.nx s er
theorem ms_ret (he : PE X e (tD C X.K W m)) : PS X (.Return (some e) pos) (tS C X.K W fun ρ => liftM (m ρ) ρ fun d => sret (.rt d)) :=
  (ps_ret he).imp fun D σ H h => lone (k := fun d _ => sret (.rt d)) h fun ρ S ι a b H1 er s dv p => p.rt s dv
theorem ms_retN : PS X (.Return none pos) (tS C X.K W fun _ => sret (.rt .non)) := ps_retN.imp fun D σ H ⟨ρ, S, ι, er, s, p⟩ => p.rt s rfl
theorem ms_pass : PS X (.Pass pos) (tS C X.K W fun ρ => sret (.nx ρ)) := ps_pass.imp fun D σ H ⟨ρ, S, ι, er, s, p⟩ => p.nx s er
theorem ms_cont : PS X (.Continue pos) (tS C X.K W fun ρ => sret (.ct ρ)) := ps_continue.imp fun D σ H ⟨ρ, S, ι, er, s, p⟩ => p.ct s er
theorem ms_ife {c : Expr} {a b : List Stmt} {mt : Env → M Bool} {ma mb : Env → SM} (hc : PT X c (tT C X.K W mt)) (ha : PSs X a (tS C X.K W ma)) (hb : PSs X b (tS C X.K W mb)) :
    PS X (.If c a b pos) (tS C X.K W fun ρ => liftM (mt ρ) ρ fun k => if k then ma ρ else mb ρ) :=
  (ps_if hc ha hb).imp fun D σ H h => lone (dw := BV) (k := fun k ρ => if k then ma ρ else mb ρ) h fun ρ S ι k b H1 er s dv p => by
    have dv : b = k := dv
    subst dv
    cases b with
    | true => exact ⟨ρ, S, ι, er, s, p⟩
    | false => exact ⟨ρ, S, ι, er, s, p⟩
theorem ms_raiseW {x : Unit} : True := trivial
/-- names from a tuple or a list -/
theorem ms_unpT {es : List Expr} {k : Nat} {p2 : Pos} {is : List Nat} (hc : X.calm = true) (hN : X.N.Nodup) (h : nmsOk X es is) (he : PE X e (tD C X.K W m)) (hs : swapsWithSole [.Tuple es k p2] e pos.line X.env = pure false) (hw : swappedStores [.Tuple es k p2] e X.env = pure none) :
    PS X (.Assign [.Tuple es k p2] e pos) (tS C X.K W fun ρ => liftM (NF.bnd (m ρ) (unpM is.length)) ρ fun ds => sret (.nx (setAll is ds ρ))) := by
  obtain ⟨g1, g2, g3⟩ := h.each hN
  refine ⟨fun pins s σ H D I h => ?_⟩
  obtain ⟨ρ, S, ι, er, st, p⟩ := h
  have p := PostS.lift (dw := DVs) p er
  cases hm : m ρ S with
  | bad => unfold NF.bnd at p; simp only [hm] at p; exact False.elim p
  | exn c S1 =>
    unfold NF.bnd at p; simp only [hm] at p
    refine (ps_asg he (pg_tup hc g3 g1 g2) hs hw).run pins s σ H D I ⟨ρ, S, ι, er, st, ?_⟩
    rw [hm]; exact p
  | ok d S1 =>
    rw [bnd_of hm] at p
    cases d with
    | tup ds =>
      refine (ps_asg he (pg_tup hc g3 g1 g2) hs hw).run pins s σ H D I ⟨ρ, S, ι, er, st, ?_⟩
      rw [hm]
      intro v H1 ι1 e1 s1 dv
      obtain ⟨a, vs, rfl, ha, r⟩ := dv
      have p2 : Post C X.K W σ DVs H ι ((if ds.length = is.length then NF.ret ds else bad) S1) _ := p
      obtain ⟨hl, p3⟩ := Post.ifT p2
      obtain ⟨a', S2, ι2, e2, s2, d2, p4⟩ := p3 vs H1 ι1 e1 s1 r
      exact ⟨a, vs, rfl, SqT.of ha, by rw [r.len, hl], by rw [r.len, hl], p4.nx s2 (ER.setAll is (er.ext e2) d2)⟩
    | ref n =>
      refine (ps_asg he (pg_lst hc g3 g1 g2) hs hw).run pins s σ H D I ⟨ρ, S, ι, er, st, ?_⟩
      rw [hm]
      intro v H1 ι1 e1 s1 dv
      have p1 := Post.ext (r := unpM is.length (.ref n) S1) p e1
      have p2 : Post C X.K W σ DVs H1 ι1 (NF.bnd (NF.lstOf (.ref n)) (fun ds => if ds.length = is.length then NF.ret ds else bad) S1) _ := p1
      obtain ⟨n', a', ds, vs, en, ea, ha', hq, r, _, p3⟩ := Post.lstOf p2 s1 dv
      obtain ⟨hl, p3⟩ := Post.ifT p3
      obtain ⟨a'', S2, ι2, e2, s2, d2, p4⟩ := p3 vs H1 ι1 (Ext.refl _ _) s1 r
      exact ⟨a', vs, ea, hq, by rw [r.len, hl], by rw [r.len, hl], p4.nx s2 (ER.setAll is (er.ext e2) d2)⟩
    | _ => exact False.elim p
end
end NF
end -- NfSt

section -- NfSt2
set_option linter.all false
set_option autoImplicit false
set_option maxRecDepth 100000
set_option maxHeartbeats 1000000
namespace NF
open PySem PySem.Spec PyProof.Rows L2
section
variable {C : Cfg} {K : PySem.W.Frag} {W : WX}
theorem bind_same {tg : Tg} {d : D} {ρ ρ' : Env} {S S' : Store} (h : tg.bind d ρ S = .ok ρ' S') : S' = S := by
  cases tg with
  | nm i => cases h; rfl
  | tup is =>
    unfold Tg.bind at h
    cases d with
    | tup ds' =>
      simp only at h
      split at h
      · cases h; rfl
      · cases h
    | _ => cases h
theorem bind_no {tg : Tg} {d : D} {ρ : Env} {S S' : Store} {c : Ex} : tg.bind d ρ S ≠ .exn c S' := by
  intro h
  cases tg with
  | nm i => cases h
  | tup is =>
    unfold Tg.bind at h
    cases d with
    | tup ds' =>
      simp only at h
      split at h
      · cases h
      · cases h
    | _ => cases h
theorem for_read {mw : Env → M Wk} {mb : Env → SM} {tg : Tg} (hnd : ∀ ρ S wk S', mw ρ S = .ok wk S' → wk.leave = NF.ret ()) {σ : L2.St} {H : Hp} {D : Ends}
    (h : tS C K W (fun ρ => liftM (mw ρ) ρ fun wk => seq (forL wk (fun d ρ' => liftM (tg.bind d ρ') ρ' mb) wk.items ρ) fun ρ' => liftM wk.leave ρ' fun _ => sret (.nx ρ')) D σ H) :
    tFor (tW C K W mw) (gTg C K tg) (tS C K W mb) D σ H := by
  obtain ⟨ρ, S, ι, er, s, p⟩ := h
  refine ⟨ρ, S, ι, er, s, ?_⟩
  unfold liftM at p
  simp only at p
  cases hm : mw ρ S with
  | bad => rw [hm] at p; exact False.elim p
  | exn c S1 => rw [hm] at p; exact fun H1 ι1 e s' => p σ H1 ι1 e s' (er.ext e)
  | ok wk S1 =>
    rw [hm] at p
    have hlv := hnd ρ S wk S1 hm
    intro J H1 ι1 e1 s1 hw
    have p := PostS.ext p e1
    have er := er.ext e1
    refine ⟨fun i m σ' H' => m = wk.items.length - i ∧ i ≤ wk.items.length ∧ ∃ ρi Si ιi, Ext H1 ι1 H' ιi ∧ ER H' ιi σ' ρi ∧ StR C K H' ιi Si ∧ PostS C K W D H' ιi (seq (forL wk (fun d ρ' => liftM (tg.bind d ρ') ρ' mb) (wk.items.drop i) ρi) (fun ρ' => liftM wk.leave ρ' fun _ => sret (.nx ρ')) Si),
      ⟨_, rfl, Nat.zero_le _, ρ, S1, ι1, Ext.refl _ _, er, s1, by rw [List.drop_zero]; exact p⟩, ?_⟩
    rintro i m σ' H' ⟨rfl, hi, ρi, Si, ιi, e, eri, si, pi⟩
    have hst : wk.still Si = .ok () Si ∨ wk.still Si = .bad := by
      cases hq : wk.still Si with
      | ok u S2 => obtain rfl := still_same hq; exact .inl rfl
      | exn c S2 => exact absurd hq still_no
      | bad => exact .inr rfl
    by_cases hlt : i < wk.items.length
    · right
      have hx : wk.items[i]? = some wk.items[i] := List.getElem?_eq_getElem hlt
      rw [List.drop_eq_getElem_cons hlt] at pi
      generalize wk.items[i] = d at hx pi
      rcases hst with hst | hst
      · obtain ⟨_, hgo⟩ := hw H' ιi Si e si ⟨_, hst⟩ i
        obtain ⟨hgo, hyld⟩ := hgo d hx
        refine ⟨hgo, fun σ3 H3 => i + 1 ≤ wk.items.length ∧ ∃ ρi Si ιi, Ext H1 ι1 H3 ιi ∧ ER H3 ιi σ3 ρi ∧ StR C K H3 ιi Si ∧ PostS C K W D H3 ιi (seq (forL wk (fun d ρ' => liftM (tg.bind d ρ') ρ' mb) (wk.items.drop (i + 1)) ρi) (fun ρ' => liftM wk.leave ρ' fun _ => sret (.nx ρ')) Si), fun σ3 H3 hS => ⟨wk.items.length - (i + 1), by omega, rfl, hS⟩, fun x H'' hy => ?_⟩
        obtain ⟨rfl, dv⟩ := hyld x H'' hy
        simp only [seq, forL, liftM, hst] at pi
        cases hb : tg.bind d ρi Si with
        | bad => rw [hb] at pi; exact False.elim pi
        | exn c S2 => exact absurd hb bind_no
        | ok ρ2 S2 =>
          obtain rfl := bind_same hb
          simp only [hb] at pi
          refine ⟨ρi, _, ιi, d, ρ2, eri, si, dv, hb, fun σ2 er2 _ => ⟨ρ2, _, ιi, er2, si, ?_⟩⟩
          cases hmb : mb ρ2 S2 with
          | bad => rw [hmb] at pi; exact False.elim pi
          | exn c ρ3 S3 => rw [hmb] at pi; exact pi
          | ok f S3 =>
            rw [hmb] at pi
            cases f with
            | rt v => exact pi
            | nx ρ3 => exact fun σ3 H3 ι3 e3 s3 er3 => ⟨hlt, ρ3, S3, ι3, e.trans e3, er3, s3, PostS.ext (r := seq (forL wk (fun d ρ' => liftM (tg.bind d ρ') ρ' mb) (wk.items.drop (i + 1)) ρ3) (fun ρ' => liftM wk.leave ρ' fun _ => sret (.nx ρ')) S3) pi e3⟩
            | ct ρ3 => exact fun σ3 H3 ι3 e3 s3 er3 => ⟨hlt, ρ3, S3, ι3, e.trans e3, er3, s3, PostS.ext (r := seq (forL wk (fun d ρ' => liftM (tg.bind d ρ') ρ' mb) (wk.items.drop (i + 1)) ρ3) (fun ρ' => liftM wk.leave ρ' fun _ => sret (.nx ρ')) S3) pi e3⟩
      · simp only [seq, forL, liftM, hst] at pi
        exact False.elim pi
    · left
      have hi' : i = wk.items.length := by omega
      subst hi'
      rw [List.drop_length] at pi
      rcases hst with hst | hst
      · simp only [seq, forL, liftM, hst, hlv, sret, NF.ret] at pi
        exact ⟨(hw H' ιi Si e si ⟨_, hst⟩ _).1 (Nat.le_refl _), pi σ' H' ιi (Ext.refl _ _) si eri⟩
      · simp only [seq, forL, liftM, hst] at pi
        exact False.elim pi
theorem whl_read {mc : Env → M Bool} {mb : Env → SM} {n : Nat} {σ : L2.St} {H : Hp} {D : Ends} (h : tS C K W (whlL mc mb n) D σ H) : tWhile (tT C K W mc) (tS C K W mb) D σ H := by
  refine ⟨fun m σ H => tS C K W (whlL mc mb m) D σ H, ⟨n, h⟩, ?_⟩
  rintro m σ H ⟨ρ, S, ι, er, s, p⟩
  cases m with
  | zero => exact False.elim p
  | succ n =>
    have p1 := PostS.lift (dw := BV) (k := fun b => if b then fun S => match mb ρ S with
      | .ok (.nx ρ') S' => whlL mc mb n ρ' S'
      | .ok (.ct ρ') S' => whlL mc mb n ρ' S'
      | .ok (.rt d) S' => .ok (.rt d) S'
      | .exn c ρ' S' => .exn c ρ' S'
      | .bad => .bad else sret (.nx ρ)) (m := mc ρ) p er
    refine ⟨ρ, S, ι, er, s, p1.mono ?_⟩
    rintro b H1 ⟨a, S1, ι1, e1, s1, rfl, p2⟩
    have er1 := er.ext e1
    cases b with
    | false => exact p2.nx s1 er1
    | true =>
      refine ⟨fun σ' H' => tS C K W (whlL mc mb n) D σ' H', fun σ' H' hN => ⟨n, Nat.lt_succ_self _, hN⟩, ρ, S1, ι1, er1, s1, ?_⟩
      simp only [if_true] at p2
      cases hmb : mb ρ S1 with
      | bad => rw [hmb] at p2; exact False.elim p2
      | exn c ρ3 S3 => rw [hmb] at p2; exact p2
      | ok f S3 =>
        rw [hmb] at p2
        cases f with
        | rt v => exact p2
        | nx ρ3 => exact fun σ3 H3 ι3 e3 s3 er3 => ⟨ρ3, S3, ι3, er3, s3, PostS.ext (r := whlL mc mb n ρ3 S3) p2 e3⟩
        | ct ρ3 => exact fun σ3 H3 ι3 e3 s3 er3 => ⟨ρ3, S3, ι3, er3, s3, PostS.ext (r := whlL mc mb n ρ3 S3) p2 e3⟩
end
section
variable {C : Cfg} {X : Cx} {W : WX} {pos : Pos}
theorem ms_for {iter tg : Expr} {body : List Stmt} {mw : Env → M Wk} {g : Tg} {mb : Env → SM} (hnd : ∀ ρ S wk S', mw ρ S = .ok wk S' → wk.leave = NF.ret ()) (hp : PassesOwn (model X.prog X.w) X.A X.env X.xe) (hc : X.calm = true) (hi : PI X tg iter (tW C X.K W mw)) (hg : PG X tg (gTg C X.K g))
    (hb : PSs X body (tS C X.K W mb)) (hs : ∀ x, foldedSetIterable iter X.env x = pure x) : PS X (.For tg iter body [] pos) (tS C X.K W fun ρ => liftM (mw ρ) ρ fun wk => seq (forL wk (fun d ρ' => liftM (g.bind d ρ') ρ' mb) wk.items ρ) fun ρ' => liftM wk.leave ρ' fun _ => sret (.nx ρ')) :=
  (ps_for hp hc hi hg hb hs).imp fun D σ H h => for_read hnd h
theorem ms_whl {c : Expr} {body : List Stmt} {mc : Env → M Bool} {mb : Env → SM} {n : Nat} (hp : PassesOwn (model X.prog X.w) X.A X.env X.xe) (hc : PT X c (tT C X.K W mc)) (hb : PSs X body (tS C X.K W mb)) : PS X (.While c body [] pos) (tS C X.K W (whlL mc mb n)) :=
  (ps_while hp hc hb).imp fun D σ H h => whl_read h
theorem me_lc {elt tg iter : Expr} {ifs : List Expr} {scope : Scope} {own : List (Str × Nat)} {mw : Env → M Wk} {mt : Env → M Bool} {me : Env → M NF.D} {g : Tg} (hc : X.calm = true) (hN : X.N.Nodup) (hi : PI X tg iter (tW C X.K W mw)) (ok : BlkOk X.N X.env.scope scope own)
    (htg : ∀ i ∈ g.ixs, i ∈ own.map (·.2)) (hnd : ∀ ρ S wk S', mw ρ S = .ok wk S' → wk.leave = NF.ret ())
    (hg : ∀ (s : Shared) (H : Hp) (Cc : Addr) (cl : List (Str × Addr)) (fp : List Addr), PG (X.blk s H scope (compEnvC scope cl Cc X.env) fp) tg (gTg C X.K g)) (ht : ∀ (s : Shared) (H : Hp) (Cc : Addr) (cl : List (Str × Addr)) (fp : List Addr), PTs (X.blk s H scope (compEnvC scope cl Cc X.env) fp) ifs (tT C X.K noW mt))
    (he : ∀ (s : Shared) (H : Hp) (Cc : Addr) (cl : List (Str × Addr)) (fp : List Addr), PE (X.blk s H scope (compEnvC scope cl Cc X.env) fp) elt (tD C X.K noW me)) (hs : ∀ x, foldedSetIterable iter X.env x = pure x) :
    PE X (.ListComp elt [⟨tg, iter, ifs, 0⟩] scope pos) (tD C X.K W (lcM mw g (own.map (·.2)) mt me)) :=
  (pe_lc hc hN hi ok hg ht he hs).imp fun σ H Q h => lc_read htg hnd h
theorem ms_setLc {i : Nat} {y : Str} {py spos : Pos} {elt tg iter : Expr} {ifs : List Expr} {scope : Scope} {own : List (Str × Nat)} {mw : Env → M Wk} {mt : Env → M Bool} {me : Env → M NF.D} {g : Tg} (hc : X.calm = true) (hN : X.N.Nodup) (hy : X.N[i]? = some y) (hyl : X.env.scope.names.lookup y = some .local)
    (hsw : swapsWith (.ListComp elt [⟨tg, iter, ifs, 0⟩] scope pos) (some (.Name y py)) spos.line X.env = pure true) (hi : PI X tg iter (tW C X.K W mw)) (ok : BlkOk X.N X.env.scope scope own)
    (htg : ∀ i ∈ g.ixs, i ∈ own.map (·.2)) (hnd : ∀ ρ S wk S', mw ρ S = .ok wk S' → wk.leave = NF.ret ())
    (hg : ∀ (s : Shared) (H : Hp) (Cc : Addr) (cl : List (Str × Addr)) (fp : List Addr), PG (X.blk s H scope (compEnvC scope cl Cc X.env) fp) tg (gTg C X.K g)) (ht : ∀ (s : Shared) (H : Hp) (Cc : Addr) (cl : List (Str × Addr)) (fp : List Addr), PTs (X.blk s H scope (compEnvC scope cl Cc X.env) fp) ifs (tT C X.K noW mt))
    (he : ∀ (s : Shared) (H : Hp) (Cc : Addr) (cl : List (Str × Addr)) (fp : List Addr), PE (X.blk s H scope (compEnvC scope cl Cc X.env) fp) elt (tD C X.K noW me)) (hs : ∀ x, foldedSetIterable iter X.env x = pure x) :
    PS X (.Assign [.Name y py] (.ListComp elt [⟨tg, iter, ifs, 0⟩] scope pos) spos) (tS C X.K W fun ρ => liftM (lcM mw g (own.map (·.2)) mt me ρ) ρ fun d => sret (.nx (ρ.set i (some d)))) :=
  (ps_setLc hc hN hy hyl hsw hi ok hg ht he hs).imp fun D σ H h => lc_read htg hnd (lone (k := fun d ρ => sret (.nx (ρ.set i (some d)))) h fun ρ S ι a b H1 er s dv p => p.nx s (er.set dv i))
/-! ### writes -/
theorem putF_at {f : Str} {v : V} : ∀ {gs : List (Str × V)} {ns : List Str} {i : Nat}, ns.Nodup → gs.map (·.1) = ns → ns[i]? = some f → (putF f v gs).map (·.1) = ns ∧ (putF f v gs).map (·.2) = (gs.map (·.2)).set i v
  | [], ns, i, nd, h, hi => by simp at h; subst h; simp at hi
  | (g, x) :: r, ns, i, nd, h, hi => by
    cases ns with
    | nil => simp at h
    | cons n ns =>
      simp only [List.map_cons, List.cons.injEq] at h
      obtain ⟨rfl, h⟩ := h
      cases i with
      | zero =>
        simp at hi
        subst hi
        unfold putF
        simp [h]
      | succ i =>
        have hi' : ns[i]? = some f := by simpa using hi
        have ne : ¬ g = f := fun z => (List.nodup_cons.mp nd).1 (z ▸ List.mem_of_getElem? hi')
        obtain ⟨h1, h2⟩ := putF_at (v := v) (List.nodup_cons.mp nd).2 h hi'
        unfold putF
        rw [if_neg ne]
        simp [h1, h2]
theorem putF_new {f : Str} {v : V} : ∀ {gs : List (Str × V)}, f ∉ gs.map (·.1) → putF f v gs = gs ++ [(f, v)]
  | [], _ => rfl
  | (g, x) :: r, h => by
    simp only [List.map_cons, List.mem_cons, not_or] at h
    unfold putF
    rw [if_neg (fun z => h.1 z.symm), putF_new h.2]
    rfl
theorem Cl.nd (c : Cl) : c.fields.Nodup := by cases c <;> decide +kernel
theorem Post.put {α β : Type} {K : PySem.W.Frag} {σ : L2.St} {H : Hp} {ι : List Addr} {S : Store} {dv : Hp → List Addr → α → β → Prop} {n : Nat} {a : Addr} {o o' : O} {u : HO} {f : Unit → M α} {Q : β → Hp → Prop} (p : Post C K W σ dv H ι (NF.bnd (NF.put n o') f S) Q) (s : StR C K H ι S)
    (hn : S[n]? = some o) (hf : fixed o = false) (ha : ι[n]? = some a) (nf : ∀ ob x, H a ≠ some (.frz ob x)) (hf' : fixed o' = false) (ho : Ext H ι (upd H a u) ι → OA C K (upd H a u) ι a o') (hx : ∀ c, o ≠ .exc c) :
    StR C K (upd H a u) ι (S.set n o') ∧ Ext H ι (upd H a u) ι ∧ Post C K W σ dv (upd H a u) ι (f () (S.set n o')) Q := by
  obtain ⟨s', e⟩ := s.put' hn hf ha nf hf' ho hx
  exact ⟨s', e, Post.ext (r := f () (S.set n o')) p e⟩
/-- after the parts: a write -/
theorem wrote {D : Ends} {H : Hp} {ι : List Addr} {S : Store} {σ : L2.St} {ρ : Env} {m : M Unit} {R : Hp → Prop} (p : Post C X.K W σ UV H ι (m S) (fun _ H1 => D.nx σ H1)) : Post C X.K W σ UV H ι (m S) (fun _ H1 => D.nx σ H1) := p
theorem ms_sat {cl : Cl} {i : Nat} {f : Str} {o e : Expr} {p2 : Pos} {mo me : Env → M NF.D} (c : Cls X.K (C.kad cl)) (hi : cl.fields[i]? = some f) (n : NoAttr X.K (C.kad cl) f) (ho : PE X o (tD C X.K W mo)) (he : PE X e (tD C X.K W me)) (hs : swapsWith e (some (.Attribute o f p2)) pos.line X.env = pure false) :
    PS X (.Assign [.Attribute o f p2] e pos) (tS C X.K W fun ρ => liftM (NF.bnd (me ρ) fun d => NF.bnd (mo ρ) fun x => satM cl i x d) ρ fun _ => sret (.nx ρ)) :=
  (ps_fld ho he hs).imp fun D σ H h => by
    obtain ⟨ρ, S, ι, er, s, p⟩ := h
    have p := (PostS.lift (dw := UV) p er).mono (Q' := fun _ H1 => D.nx σ H1) fun b H1 ⟨_, S1, ι1, e1, s1, _, p1⟩ => p1.nx s1 (er.ext e1)
    have h' : tG C X.K W UV (fun ρ => NF.bnd (me ρ) fun d => NF.bnd (mo ρ) fun x => satM cl i x d) σ H (fun _ H1 => D.nx σ H1) := ⟨ρ, S, ι, er, s, p⟩
    refine two (g := fun d x _ => satM cl i x d) h' fun ρ S ι d x y v H2 er s dy dx p => ?_
    unfold satM at p
    obtain ⟨n', a, fs, dd, gs, rfl, rfl, ha, hS, h1, h2, h3, h4, p⟩ := Post.insOf p s dx
    have hlen : gs.length = fs.length := by
      have := h4.len
      rwa [List.length_map] at this
    have hit : i < cl.fields.length := (List.getElem?_eq_some_iff.mp hi).1
    have hle : cl.fields.length ≤ 5 := by cases cl <;> decide
    refine ⟨a, C.kad cl, dd, gs, rfl, h1, c, n, by rw [hlen]; omega, ?_⟩
    have nf : ∀ ob x, H2 a ≠ some (.frz ob x) := fun _ _ z => by rw [h1] at z; cases z
    have ndt : (cl.fields.take fs.length).Nodup := (List.take_sublist _ _).nodup cl.nd
    by_cases hlt : i < fs.length
    · have p' : Post C X.K W σ UV H2 ι (NF.put n' (.ins cl (fs.set i d)) S) (fun _ H1 => D.nx σ H1) := by
        have p0 : Post C X.K W σ UV H2 ι ((if i < fs.length then NF.put n' (.ins cl (fs.set i d)) else if i = fs.length then NF.put n' (.ins cl (fs ++ [d])) else bad) S) (fun _ H1 => D.nx σ H1) := p
        rw [if_pos hlt] at p0; exact p0
      have hi' : (cl.fields.take fs.length)[i]? = some f := by rw [List.getElem?_take, if_pos hlt]; exact hi
      obtain ⟨q1, q2⟩ := putF_at (v := y) ndt h2 hi'
      obtain ⟨s', e'⟩ := s.put' (o' := .ins cl (fs.set i d)) (u := .ins (C.kad cl) dd (putF f y gs)) hS rfl ha nf rfl fun e => ⟨dd, _, upd_same, by rw [List.length_set]; exact q1, by rw [List.length_set]; exact h3, by rw [q2]; exact (h4.set dy i).ext e⟩
      exact p' () _ ι e' s' trivial
    · have p0 : Post C X.K W σ UV H2 ι ((if i < fs.length then NF.put n' (.ins cl (fs.set i d)) else if i = fs.length then NF.put n' (.ins cl (fs ++ [d])) else bad) S) (fun _ H1 => D.nx σ H1) := p
      rw [if_neg hlt] at p0
      obtain ⟨hi0, p'⟩ := Post.ifT (m := NF.put n' (.ins cl (fs ++ [d]))) p0
      have hnot : f ∉ gs.map (·.1) := by
        rw [h2]
        intro hm
        obtain ⟨j, hj⟩ := List.mem_iff_getElem?.mp hm
        rw [List.getElem?_take] at hj
        split at hj
        · rename_i hjl
          have := nodup_ix cl.nd hj hi
          omega
        · cases hj
      obtain ⟨s', e'⟩ := s.put' (o' := .ins cl (fs ++ [d])) (u := .ins (C.kad cl) dd (putF f y gs)) hS rfl ha nf rfl fun e => ⟨dd, _, upd_same, by
        rw [putF_new hnot, List.map_append, h2, List.length_append]
        show _ ++ [f] = cl.fields.take (fs.length + 1)
        rw [List.take_succ, ← hi0, hi]
        rfl, by rw [List.length_append]; simp; omega, by
        have e2 : (putF f y gs).map (·.2) = gs.map (·.2) ++ [y] := by rw [putF_new hnot, List.map_append] <;> rfl
        rw [e2]
        exact ((h4.app (DVs.one dy))).ext e⟩
      exact p' () _ ι e' s' trivial
end
end NF
end -- NfSt2

section -- NfSt3
set_option linter.all false
set_option autoImplicit false
set_option maxRecDepth 100000
set_option maxHeartbeats 1000000
namespace NF
open PySem PySem.Spec PyProof.Rows L2
section
variable {C : Cfg} {X : Cx} {W : WX} {pos : Pos}
theorem three {α β : Type} {dv : Hp → List Addr → α → β → Prop} {ta tb tc : Env → M D} {σ : L2.St} {H : Hp} {Q : β → Hp → Prop} {g : D → D → D → Env → M α} {R : V → V → V → Hp → Prop}
    (h : tG C X.K W dv (fun ρ => NF.bnd (ta ρ) fun x => NF.bnd (tb ρ) fun y => NF.bnd (tc ρ) fun z => g x y z ρ) σ H Q)
    (k : ∀ ρ S ι dx dy dz x y z H, ER H ι σ ρ → StR C X.K H ι S → DV H ι dx x → DV H ι dy y → DV H ι dz z → Post C X.K W σ dv H ι (g dx dy dz ρ S) Q → R x y z H) :
    tD C X.K W ta σ H fun x H1 => tD C X.K W tb σ H1 fun y H2 => tD C X.K W tc σ H2 fun z H3 => R x y z H3 := by
  obtain ⟨ρ, S, ι, er, sr, p⟩ := h
  refine ⟨ρ, S, ι, er, sr, (p.bnd (dw := DV)).mono ?_⟩
  rintro x H1 ⟨dx, S1, ι1, e1, s1, d1, p1⟩
  refine ⟨ρ, S1, ι1, er.ext e1, s1, (p1.bnd (dw := DV)).mono ?_⟩
  rintro y H2 ⟨dy, S2, ι2, e2, s2, d2, p2⟩
  refine ⟨ρ, S2, ι2, (er.ext e1).ext e2, s2, (p2.bnd (dw := DV)).mono ?_⟩
  rintro z H3 ⟨dz, S3, ι3, e3, s3, d3, p3⟩
  exact k ρ S3 ι3 dx dy dz x y z H3 (((er.ext e1).ext e2).ext e3) s3 ((d1.ext e2).ext e3) (d2.ext e3) d3 p3
/-- a statement that writes: the writing's own reading -/
theorem lwrite {D : Ends} {σ : L2.St} {H : Hp} {m : Env → M Unit} (h : tS C X.K W (fun ρ => liftM (m ρ) ρ fun _ => sret (.nx ρ)) D σ H) : tG C X.K W UV m σ H (fun _ H1 => D.nx σ H1) := by
  obtain ⟨ρ, S, ι, er, s, p⟩ := h
  exact ⟨ρ, S, ι, er, s, (PostS.lift (dw := UV) p er).mono fun b H1 ⟨_, S1, ι1, e1, s1, _, p1⟩ => p1.nx s1 (er.ext e1)⟩
theorem ms_ssub {o ix e : Expr} {p2 : Pos} {mo mi me : Env → M NF.D} (ho : PE X o (tD C X.K W mo)) (hi : PE X ix (tD C X.K W mi)) (he : PE X e (tD C X.K W me)) (hh : headOk ix = true)
    (hs : swapsWithSole [.Subscript o ix p2] e pos.line X.env = pure false) (hw : swappedStores [.Subscript o ix p2] e X.env = pure none) (hv : ∀ v, assign (.Subscript o ix p2) X.env v = (do
      let ov ← holding [v] (eval o X.env)
      let iv ← holding [v, ov] (eval ix X.env)
      standAt p2
      holding [v, ov, iv] (setItem ov iv v)
      release [v, ov, iv] [])) :
    PS X (.Assign [.Subscript o ix p2] e pos) (tS C X.K W fun ρ => liftM (NF.bnd (me ρ) fun d => NF.bnd (mo ρ) fun x => NF.bnd (mi ρ) fun y => ssubM x y d) ρ fun _ => sret (.nx ρ)) :=
  (ps_asg he (pg_sub ho hi set_list hv) hs hw).imp fun D σ H h => three (g := fun d x y _ => ssubM x y d) (lwrite h) fun ρ S ι d x y v a b H3 er s dd dx dy p => by
    cases x with
    | ref n =>
      cases y with
      | int i =>
        obtain ⟨ad, rfl, ha⟩ := id dx
        rw [DV] at dy; subst dy
        have p' : Post C X.K W σ UV H3 ι (NF.bnd (NF.obj n) (fun u => match u with
          | .lst ds => match ixOf ds.length i with
            | some j => NF.put n (.lst (ds.set j d))
            | none => bad
          | _ => bad) S) (fun _ H1 => D.nx σ H1) := p
        obtain ⟨u, hu, p'⟩ := p'.obj
        cases u with
        | lst ds =>
          obtain ⟨vs, h1, h2⟩ := s.look hu ha
          simp only at p'
          cases hj : ixOf ds.length i with
          | none => rw [hj] at p'; exact False.elim p'
          | some j =>
            rw [hj] at p'
            have hj' : ixN vs.length i = some j := by rw [h2.len, ← ixOf_eq]; exact hj
            refine ⟨ad, vs, i, j, rfl, rfl, h1, hj', ?_⟩
            obtain ⟨s', e'⟩ := s.put' (o' := .lst (ds.set j d)) (u := .lst (vs.set j v)) hu rfl ha (fun _ _ z => by rw [h1] at z; cases z) rfl fun e => ⟨_, upd_same, (h2.set dd j).ext e⟩
            exact p' () _ ι e' s' trivial
        | _ => exact False.elim p'
      | _ => exact False.elim p
    | _ => exact False.elim p
/-! ### a dict is written -/
theorem kts_any {H : Hp} {ι : List Addr} (k : Int × Int) : ∀ {kvs : List ((Int × Int) × D)} {ws : List (List Key × V)}, KTs H ι kvs ws → (kvs.any fun kv => decide (kv.1 = k)) = (ws.any fun kv => decide (kv.1 = keyD k))
  | [], ws, h => by rw [KTs] at h; subst h; rfl
  | (j, d) :: r, ws, h => by
    obtain ⟨v, q, rfl, h1, h2⟩ := h
    rw [List.any_cons, List.any_cons, kts_any k h2]
    congr 1
    apply decide_eq_decide.mpr
    simp only [keyD, List.cons.injEq, Sum.inl.injEq, and_true]
    exact ⟨fun z => by subst z; exact ⟨rfl, rfl⟩, fun z => Prod.ext z.1 z.2⟩
theorem kts_map {H : Hp} {ι : List Addr} {k : Int × Int} {d : D} {v : V} (dv : DV H ι d v) : ∀ {kvs : List ((Int × Int) × D)} {ws : List (List Key × V)}, KTs H ι kvs ws → KTs H ι (kvs.map fun kv => if kv.1 = k then (kv.1, d) else kv) (ws.map fun kv => if kv.1 = keyD k then (kv.1, v) else kv)
  | [], ws, h => by rw [KTs] at h; subst h; rfl
  | (j, d') :: r, ws, h => by
    obtain ⟨v', q, rfl, h1, h2⟩ := h
    have ih := kts_map (k := k) dv h2
    rw [List.map_cons, List.map_cons]
    by_cases e : j = k
    · subst e
      rw [if_pos rfl, if_pos rfl]
      exact ⟨v, _, rfl, dv, ih⟩
    · have ne : ¬ keyD j = keyD k := fun z => e (by
        simp only [keyD, List.cons.injEq, Sum.inl.injEq, and_true] at z
        exact Prod.ext z.1 z.2)
      rw [if_neg (show ¬ ((j, d') : (Int × Int) × D).1 = k from e), if_neg (show ¬ ((keyD j, v') : List Key × V).1 = keyD k from ne)]
      exact ⟨v', _, rfl, h1, ih⟩
theorem kts_app {H : Hp} {ι : List Addr} {k : Int × Int} {d : D} {v : V} (dv : DV H ι d v) : ∀ {kvs : List ((Int × Int) × D)} {ws : List (List Key × V)}, KTs H ι kvs ws → KTs H ι (kvs ++ [(k, d)]) (ws ++ [(keyD k, v)])
  | [], ws, h => by rw [KTs] at h; subst h; exact ⟨v, [], rfl, dv, rfl⟩
  | (j, d') :: r, ws, h => by
    obtain ⟨v', q, rfl, h1, h2⟩ := h
    exact ⟨v', _, rfl, h1, kts_app dv h2⟩
theorem kts_put {H : Hp} {ι : List Addr} {k : Int × Int} {d : D} {v : V} {kvs : List ((Int × Int) × D)} {ws : List (List Key × V)} (h : KTs H ι kvs ws) (dv : DV H ι d v) : KTs H ι (kvPut kvs k d) (putK ws (keyD k) v) := by
  unfold kvPut putK
  rw [kts_any k h]
  split
  · exact kts_map dv h
  · exact kts_app dv h
theorem kts_len {H : Hp} {ι : List Addr} : ∀ {kvs : List ((Int × Int) × D)} {ws : List (List Key × V)}, KTs H ι kvs ws → ws.length = kvs.length
  | [], ws, h => by rw [KTs] at h; subst h; rfl
  | (j, d) :: r, ws, h => by
    obtain ⟨v, q, rfl, h1, h2⟩ := h
    rw [List.length_cons, List.length_cons, kts_len h2]
theorem kks_any {H : Hp} {ι : List Addr} (k : List Nat) : ∀ {kvs : List (List Nat × D)} {ws : List (Key × V)}, KKs H ι kvs ws → (kvs.any fun kv => decide (kv.1 = k)) = (ws.any fun kv => decide (kv.1 = Sum.inr (strOf k)))
  | [], ws, h => by rw [KKs] at h; subst h; rfl
  | (j, d) :: r, ws, h => by
    obtain ⟨v, q, rfl, h1, h2⟩ := h
    rw [List.any_cons, List.any_cons, kks_any k h2]
    congr 1
    apply decide_eq_decide.mpr
    exact ⟨fun z => congrArg (fun y => (Sum.inr (strOf y) : Key)) (show j = k from z), fun z => strOf_inj (Sum.inr.inj z)⟩
theorem kks_map {H : Hp} {ι : List Addr} {k : List Nat} {d : D} {v : V} (dv : DV H ι d v) : ∀ {kvs : List (List Nat × D)} {ws : List (Key × V)}, KKs H ι kvs ws → KKs H ι (kvs.map fun kv => if kv.1 = k then (kv.1, d) else kv) (ws.map fun kv => if kv.1 = Sum.inr (strOf k) then (kv.1, v) else kv)
  | [], ws, h => by rw [KKs] at h; subst h; rfl
  | (j, d') :: r, ws, h => by
    obtain ⟨v', q, rfl, h1, h2⟩ := h
    have ih := kks_map (k := k) dv h2
    rw [List.map_cons, List.map_cons]
    by_cases e : j = k
    · subst e
      rw [if_pos rfl, if_pos rfl]
      exact ⟨v, _, rfl, dv, ih⟩
    · have ne : ¬ (Sum.inr (strOf j) : Key) = Sum.inr (strOf k) := fun z => e (strOf_inj (Sum.inr.inj z))
      rw [if_neg (show ¬ ((j, d') : List Nat × D).1 = k from e), if_neg (show ¬ ((Sum.inr (strOf j), v') : Key × V).1 = Sum.inr (strOf k) from ne)]
      exact ⟨v', _, rfl, h1, ih⟩
theorem kks_app {H : Hp} {ι : List Addr} {k : List Nat} {d : D} {v : V} (dv : DV H ι d v) : ∀ {kvs : List (List Nat × D)} {ws : List (Key × V)}, KKs H ι kvs ws → KKs H ι (kvs ++ [(k, d)]) (ws ++ [(Sum.inr (strOf k), v)])
  | [], ws, h => by rw [KKs] at h; subst h; exact ⟨v, [], rfl, dv, rfl⟩
  | (j, d') :: r, ws, h => by
    obtain ⟨v', q, rfl, h1, h2⟩ := h
    exact ⟨v', _, rfl, h1, kks_app dv h2⟩
theorem kks_put {H : Hp} {ι : List Addr} {k : List Nat} {d : D} {v : V} {kvs : List (List Nat × D)} {ws : List (Key × V)} (h : KKs H ι kvs ws) (dv : DV H ι d v) : KKs H ι (kvPut kvs k d) (putK ws (Sum.inr (strOf k)) v) := by
  unfold kvPut putK
  rw [kks_any k h]
  split
  · exact kks_map dv h
  · exact kks_app dv h
theorem kks_len {H : Hp} {ι : List Addr} : ∀ {kvs : List (List Nat × D)} {ws : List (Key × V)}, KKs H ι kvs ws → ws.length = kvs.length
  | [], ws, h => by rw [KKs] at h; subst h; rfl
  | (j, d) :: r, ws, h => by
    obtain ⟨v, q, rfl, h1, h2⟩ := h
    rw [List.length_cons, List.length_cons, kks_len h2]
theorem ms_dsub {o ix e : Expr} {p2 : Pos} {mo mi me : Env → M NF.D} (hu : X.A.units + 100 < cLine) (ho : PE X o (tD C X.K W mo)) (hi : PE X ix (tD C X.K W mi)) (he : PE X e (tD C X.K W me)) (hs : swapsWith e (some (.Subscript o ix p2)) pos.line X.env = pure false) :
    PS X (.Assign [.Subscript o ix p2] e pos) (tS C X.K W fun ρ => liftM (NF.bnd (me ρ) fun d => NF.bnd (mo ρ) fun x => NF.bnd (mi ρ) fun y => dsubM x y d) ρ fun _ => sret (.nx ρ)) :=
  (ps_dput (by omega) ho hi he hs).imp fun D σ H h => three (g := fun d x y _ => dsubM x y d) (lwrite h) fun ρ S ι d x y v a b H3 er s dd dx dy p => by
    cases x with
    | ref n =>
      obtain ⟨ad, rfl, ha⟩ := id dx
      have p' : Post C X.K W σ UV H3 ι (NF.bnd (NF.obj n) (fun u => match u with
        | .dct kvs => match (generalizing := false) asPair y with
          | some k => if kvs.length < line then NF.put n (.dct (kvPut kvs k d)) else bad
          | none => bad
        | .dck kvs => match (generalizing := false) y with
          | .str k => if kvs.length < line then NF.put n (.dck (kvPut kvs k d)) else bad
          | _ => bad
        | _ => bad) S) (fun _ H1 => D.nx σ H1) := p
      obtain ⟨u, hu, p'⟩ := p'.obj
      cases u with
      | dct kvs =>
        obtain ⟨ws, h1, h2⟩ := s.look hu ha
        simp only at p'
        cases hk : asPair y with
        | none => rw [hk] at p'; exact False.elim p'
        | some k =>
          rw [hk] at p'
          obtain ⟨hl, p'⟩ := Post.ifT (m := NF.put n (.dct (kvPut kvs k d))) p'
          obtain ⟨b', rfl, hb⟩ := pair_dv hk dy
          refine ⟨ad, _, rfl, DPut.t h1 hb (by rw [kts_len h2]; exact Nat.lt_of_lt_of_le hl line_le), ?_⟩
          obtain ⟨s', e'⟩ := s.put' (o' := .dct (kvPut kvs k d)) (u := .dT (putK ws (keyD k) v)) hu rfl ha (fun _ _ z => by rw [h1] at z; cases z) rfl fun e => ⟨_, upd_same, (kts_put h2 dd).ext e⟩
          exact p' () _ ι e' s' trivial
      | dck kvs =>
        obtain ⟨ws, h1, h2⟩ := s.look hu ha
        simp only at p'
        cases y with
        | str k =>
          obtain ⟨hl, p'⟩ := Post.ifT (m := NF.put n (.dck (kvPut kvs k d))) p'
          obtain ⟨rfl, _⟩ := id dy
          refine ⟨ad, _, rfl, DPut.k (k := Sum.inr (strOf k)) h1 (by rw [kks_len h2]; exact Nat.lt_of_lt_of_le hl line_le), ?_⟩
          obtain ⟨s', e'⟩ := s.put' (o' := .dck (kvPut kvs k d)) (u := .dK (putK ws (.inr (strOf k)) v)) hu rfl ha (fun _ _ z => by rw [h1] at z; cases z) rfl fun e => ⟨_, upd_same, (kks_put h2 dd).ext e⟩
          exact p' () _ ι e' s' trivial
        | _ => exact False.elim p'
      | _ => exact False.elim p'
    | _ => exact False.elim p
/-! ### raise -/
theorem ms_raise {c : Ex} {x msg : Str} {j : Nat} {p p2 pc : Pos} {bmB : List Value} {B newId initId : String} (hc : X.calm = true) (tk : Takes X W) (F : ExcBaseFacts B newId initId bmB) (q : PySem.W.excIn X.K (C.cad c) bmB newId = true) (gC : X.mg x = some (.ref (C.cad c))) (kC : PySem.W.keepIn X.K (.ref (C.cad c)) = true) (r : Raises X (.ref (C.cad c))) (hg : Gl X x)
    (hdb : (x == ("__debug__" : Str)) = false) : PS X (.Raise (some (.Call (.Name x p) [.Constant (.str msg) j p2] [] pc)) none pos) (tS C X.K W fun ρ => fun S => .exn c ρ S) :=
  (ps_raise hc tk (pmk_own F q gC kC r hg hdb)).imp fun D σ H ⟨ρ, S, ι, er, s, p⟩ => p σ H ι (Ext.refl _ _) s er
end
end NF
end -- NfSt3

section -- NfX
set_option linter.all false
set_option autoImplicit false
set_option maxRecDepth 100000
set_option maxHeartbeats 1000000
/-! More expressions: names of the module, methods. -/
namespace NF
open PySem PySem.Spec PyProof.Rows L2
section
variable {C : Cfg} {X : Cx} {W : WX} {pos : Pos}
/-- a constant of the module -/
def GlbV (C : Cfg) (d : NF.D) (u : Value) : Prop := match d with
  | .int i => RelV (.int i) u
  | .str z => RelV (.str (strOf z)) u ∧ okS z = true
  | .ref n => ∃ a, C.pre[n]? = some a ∧ u = .ref a
  | _ => False
theorem me_glb {x : Str} {d : NF.D} {u : Value} (hg : Gl X x) (hm : X.mg x = some u) (hd : (x == ("__debug__" : Str)) = false) (h : GlbV C d u) : PE X (.Name x pos) (tD C X.K W fun _ => NF.ret d) := by
  cases d with
  | int i => exact me_const (pe_glob (v := .int i) hg hm h hd) fun _ _ _ _ => rfl
  | str z => exact me_const (pe_glob (v := .str (strOf z)) hg hm h.1 hd) fun _ _ _ _ => ⟨rfl, h.2⟩
  | ref n =>
    obtain ⟨a, ha, rfl⟩ := h
    exact me_const (pe_glob (v := .ref a) hg hm rfl hd) fun H ι S s => ⟨a, rfl, s.pre n a ha⟩
  | _ => exact False.elim h
def isLB : Bm → Bool
  | .append | .extend | .insert | .count | .index | .pop1 | .pop0 => true
  | _ => false
theorem bmTy_list {b : Bm} (hb : isLB b = true) (d : NF.D) : bmTy b d = NF.bnd (NF.lstOf d) fun _ => NF.ret () := by
  cases b <;> first | rfl | cases hb
theorem few_ok {es : List Expr} {env : PySem.Env} {cpos : Pos} (h : es.all headOk = true) (hn : es.length < 20) : ((backTo cpos (starEach es env)).all (fun x => !x.1) && (backToKw cpos (keywordEach [] env)).all (fun x => x.1.isSome)
      && decide (es.length + ([] : List Keyword).length + (if ([] : List Keyword).isEmpty then 0 else 1) < 30)) = true := by
  rw [(noStar h).2]
  simp [backToKw, keywordEach]
  omega
theorem me_bmL {b : Bm} {id : String} {name : Str} {o e : Expr} {es : List Expr} {apos : Pos} {mo : Env → M NF.D} {ms : Env → M (List NF.D)} {r : V → List V → Hp → VK → Prop} (hb : isLB b = true) (slot : Slot "list" name id) (hty : typeOf (.builtin id) = pure (.type "method_descriptor")) (hm : MtR X id r) (hv : BVm C X.K (bmM b) r)
    (ho : PE X o (tD C X.K W mo)) (ha : PA X (e :: es) (tDs C X.K W ms)) (hho : headOk o = true) (hh : (e :: es).all headOk = true) (hn : (e :: es).length < 20) (hl : (apos.endLine == pos.line) = true) :
    PE X (.Call (.Attribute o name apos) (e :: es) [] pos) (tD C X.K W fun ρ => NF.bnd (mo ρ) fun x => NF.bnd (bmTy b x) fun _ => NF.bnd (ms ρ) fun ds => bmM b x ds) := by
  have h0 : headOk e = true ∧ es.all headOk = true := by rwa [List.all_cons, Bool.and_eq_true] at hh
  refine (pe_bm F.plainAttrs_list slot hty hm ho ha (base_ok hho) (few_ok hh hn) hl (star_ok h0.1) (noStar h0.2).1).imp fun σ H Q h => one (g := fun x ρ => NF.bnd (bmTy b x) fun _ => NF.bnd (ms ρ) fun ds => bmM b x ds) h fun ρ S ι d x H1 er s dv p => ?_
  rw [bmTy_list hb, bnd_assoc] at p
  obtain ⟨n, a, ds, vs, rfl, rfl, ha', hq, r', hoo, p⟩ := Post.lstOf p s dv
  refine ⟨.inl ⟨rfl, _, hq⟩, ρ, S, ι, er, s, ?_⟩
  have p1 : Post C X.K W σ DV H1 ι (NF.bnd (ms ρ) (fun ds => bmM b (.ref n) ds) S) Q := p
  refine (p1.bnd (dw := DVs)).mono ?_
  rintro xs H2 ⟨es', S2, ι2, e2, s2, d2, p2⟩
  exact hv W σ H2 ι2 S2 _ es' _ xs Q s2 (dv.ext e2) d2 p2
theorem me_bmL0 {b : Bm} {id : String} {name : Str} {o : Expr} {apos : Pos} {mo : Env → M NF.D} {r : V → List V → Hp → VK → Prop} (hb : isLB b = true) (slot : Slot "list" name id) (hty : typeOf (.builtin id) = pure (.type "method_descriptor")) (hm : MtR X id r) (hv : BVm C X.K (bmM b) r)
    (ho : PE X o (tD C X.K W mo)) (hho : headOk o = true) (hl : (apos.endLine == pos.line) = true) :
    PE X (.Call (.Attribute o name apos) [] [] pos) (tD C X.K W fun ρ => NF.bnd (mo ρ) fun x => NF.bnd (bmTy b x) fun _ => NF.bnd (NF.ret []) fun ds => bmM b x ds) := by
  refine (pe_bm0 F.plainAttrs_list slot hty hm ho (base_ok hho) hl).imp fun σ H Q h => one (g := fun x ρ => NF.bnd (bmTy b x) fun _ => NF.bnd (NF.ret []) fun ds => bmM b x ds) h fun ρ S ι d x H1 er s dv p => ?_
  rw [bmTy_list hb, bnd_assoc] at p
  obtain ⟨n, a, ds, vs, rfl, rfl, ha', hq, r', hoo, p⟩ := Post.lstOf p s dv
  exact ⟨.inl ⟨rfl, _, hq⟩, hv W σ H1 ι S _ [] _ [] Q s dv rfl p⟩
theorem me_join {o e : Expr} {apos : Pos} {mo : Env → M NF.D} {ms : Env → M (List NF.D)} {me : Env → M NF.D} (ho : PE X o (tD C X.K W mo)) (he : PE X e (tD C X.K W me)) (hho : headOk o = true) (hh : headOk e = true) (hl : (apos.endLine == pos.line) = true) :
    PE X (.Call (.Attribute o "join" apos) [e] [] pos) (tD C X.K W fun ρ => NF.bnd (mo ρ) fun x => NF.bnd (bmTy .join x) fun _ => NF.bnd (NF.bnd (me ρ) fun d => NF.bnd (NF.ret []) fun ds => NF.ret (d :: ds)) fun ds => bmM .join x ds) := by
  refine (pe_m1 F.slot_str_join F.type_str_join mt_join ho he (by rw [star_ok hh] <;> rfl) (base_ok hho) hl).imp fun σ H Q h => one (g := fun x ρ => NF.bnd (bmTy .join x) fun _ => NF.bnd (NF.bnd (me ρ) fun d => NF.bnd (NF.ret []) fun ds => NF.ret (d :: ds)) fun ds => bmM .join x ds) h fun ρ S ι d x H1 er s dv p => ?_
  have p0 : Post C X.K W σ DV H1 ι (NF.bnd (NF.bnd (orBad (strO d)) fun _ => NF.ret ()) (fun _ => NF.bnd (NF.bnd (me ρ) fun d => NF.bnd (NF.ret []) fun ds => NF.ret (d :: ds)) fun ds => bmM .join d ds) S) Q := p
  rw [bnd_assoc] at p0
  obtain ⟨z, hz, p1⟩ := Post.orBad p0
  obtain rfl : d = .str z := by
    cases d <;> simp only [strO, reduceCtorEq, Option.some.injEq] at hz
    rw [hz]
  have dv' := dv
  rw [DV] at dv'
  obtain ⟨rfl, hok⟩ := dv'
  refine ⟨⟨_, rfl⟩, ρ, S, ι, er, s, ?_⟩
  have p2 : Post C X.K W σ DV H1 ι (NF.bnd (NF.bnd (me ρ) fun d => NF.ret [d]) (fun ds => bmM .join (.str z) ds) S) Q := p1
  rw [bnd_assoc] at p2
  have p3 : Post C X.K W σ DV H1 ι (NF.bnd (me ρ) (fun d => bmM .join (.str z) [d]) S) Q := p2
  refine (p3.bnd (dw := DV)).mono ?_
  rintro y H2 ⟨d2, S2, ι2, e2, s2, dv2, p4⟩
  exact bm_join W σ H2 ι2 S2 _ [d2] _ [y] Q s2 (dv.ext e2) (DVs.one dv2) p4
def isSB : Bm → Bool
  | .join | .split | .startswith => true
  | _ => false
theorem bmTy_str {b : Bm} (hb : isSB b = true) (d : NF.D) : bmTy b d = NF.bnd (orBad (strO d)) fun _ => NF.ret () := by
  cases b <;> first | rfl | cases hb
theorem me_bmS {b : Bm} {id : String} {name : Str} {o e : Expr} {es : List Expr} {apos : Pos} {mo : Env → M NF.D} {ms : Env → M (List NF.D)} {r : V → List V → Hp → VK → Prop} (hb : isSB b = true) (slot : Slot "str" name id) (hty : typeOf (.builtin id) = pure (.type "method_descriptor")) (hm : MtR X id r) (hv : BVm C X.K (bmM b) r)
    (ho : PE X o (tD C X.K W mo)) (ha : PA X (e :: es) (tDs C X.K W ms)) (hho : headOk o = true) (hh : (e :: es).all headOk = true) (hn : (e :: es).length < 20) (hl : (apos.endLine == pos.line) = true) :
    PE X (.Call (.Attribute o name apos) (e :: es) [] pos) (tD C X.K W fun ρ => NF.bnd (mo ρ) fun x => NF.bnd (bmTy b x) fun _ => NF.bnd (ms ρ) fun ds => bmM b x ds) := by
  have h0 : headOk e = true ∧ es.all headOk = true := by rwa [List.all_cons, Bool.and_eq_true] at hh
  refine (pe_bm F.plainAttrs_str slot hty hm ho ha (base_ok hho) (few_ok hh hn) hl (star_ok h0.1) (noStar h0.2).1).imp fun σ H Q h => one (g := fun x ρ => NF.bnd (bmTy b x) fun _ => NF.bnd (ms ρ) fun ds => bmM b x ds) h fun ρ S ι d x H1 er s dv p => ?_
  rw [bmTy_str hb, bnd_assoc] at p
  obtain ⟨z, hz, p1⟩ := Post.orBad p
  obtain rfl : d = .str z := by
    cases d <;> simp only [strO, reduceCtorEq, Option.some.injEq] at hz
    rw [hz]
  have dv' := dv
  rw [DV] at dv'
  obtain ⟨rfl, hok⟩ := dv'
  refine ⟨rfl, ρ, S, ι, er, s, ?_⟩
  have p2 : Post C X.K W σ DV H1 ι (NF.bnd (ms ρ) (fun ds => bmM b (.str z) ds) S) Q := p1
  refine (p2.bnd (dw := DVs)).mono ?_
  rintro xs H2 ⟨es', S2, ι2, e2, s2, d2, p3⟩
  exact hv W σ H2 ι2 S2 _ es' _ xs Q s2 (dv.ext e2) d2 p3
end
end NF
end -- NfX

section -- NfSortP
set_option linter.all false
set_option autoImplicit false
/-! The order of data, the stable sort: plain. -/
namespace NF
open SrtO
theorem cmpI_swap (a b : Int) : cmpI b a = (cmpI a b).swap := by
  unfold cmpI
  by_cases h1 : a < b
  · have : ¬ b < a := by omega
    simp [h1, this]
  · by_cases h2 : b < a
    · simp [h1, h2]
    · simp [h1, h2]
theorem cmpL_swap : ∀ a b : List Nat, cmpL b a = (cmpL a b).swap
  | [], [] => rfl
  | [], _ :: _ => rfl
  | _ :: _, [] => rfl
  | a :: r, b :: q => by
    unfold cmpL
    by_cases h1 : a < b
    · have : ¬ b < a := by omega
      simp [h1, this]
    · by_cases h2 : b < a
      · simp [h1, h2]
      · simp only [h1, h2, if_false]
        exact cmpL_swap r q
mutual
theorem cmpD_swap : ∀ a b : D, cmpD b a = (cmpD a b).swap
  | .non, b => by cases b <;> rfl
  | .bl a, b => by
    cases b with
    | bl b => cases a <;> cases b <;> rfl
    | _ => rfl
  | .int a, b => by
    cases b with
    | int b => exact cmpI_swap a b
    | _ => rfl
  | .str a, b => by
    cases b with
    | str b => exact cmpL_swap a b
    | _ => rfl
  | .tup a, b => by
    cases b with
    | tup b => simp only [cmpD]; exact cmpDs_swap a b
    | _ => rfl
  | .ref a, b => by
    cases b with
    | ref b => exact cmpI_swap a b
    | _ => rfl
theorem cmpDs_swap : ∀ a b : List D, cmpDs b a = (cmpDs a b).swap
  | [], [] => rfl
  | [], _ :: _ => rfl
  | _ :: _, [] => rfl
  | a :: r, b :: q => by
    simp only [cmpDs]
    rw [cmpD_swap a b]
    cases cmpD a b <;> first | rfl | exact cmpDs_swap r q
end
theorem cmpI_eq' {a b : Int} (h : cmpI a b = .eq) : a = b := by
  unfold cmpI at h
  split at h
  · cases h
  · split at h
    · cases h
    · omega
theorem cmpI_refl (a : Int) : cmpI a a = .eq := by simp [cmpI]
theorem cmpL_eq' : ∀ {a b : List Nat}, cmpL a b = .eq → a = b
  | [], [], _ => rfl
  | [], _ :: _, h => by cases h
  | _ :: _, [], h => by cases h
  | a :: r, b :: q, h => by
    unfold cmpL at h
    split at h
    · cases h
    · split at h
      · cases h
      · have e : a = b := by omega
        rw [e, cmpL_eq' h]
theorem cmpL_refl : ∀ a : List Nat, cmpL a a = .eq
  | [] => rfl
  | a :: r => by unfold cmpL; simp [cmpL_refl r]
mutual
theorem cmpD_eq' : ∀ {a b : D}, cmpD a b = .eq → a = b
  | .non, b, h => by cases b <;> first | rfl | cases h
  | .bl a, b, h => by
    cases b with
    | bl b => cases a <;> cases b <;> first | rfl | cases h
    | _ => cases h
  | .int a, b, h => by
    cases b with
    | int b => rw [cmpI_eq' (show cmpI a b = .eq from h)]
    | _ => cases h
  | .str a, b, h => by
    cases b with
    | str b => rw [cmpL_eq' (show cmpL a b = .eq from h)]
    | _ => cases h
  | .tup a, b, h => by
    cases b with
    | tup b => simp only [cmpD] at h; rw [cmpDs_eq' h]
    | _ => cases h
  | .ref a, b, h => by
    cases b with
    | ref b => have := cmpI_eq' (show cmpI a b = .eq from h); rw [Int.ofNat.inj this]
    | _ => cases h
theorem cmpDs_eq' : ∀ {a b : List D}, cmpDs a b = .eq → a = b
  | [], [], _ => rfl
  | [], _ :: _, h => by cases h
  | _ :: _, [], h => by cases h
  | a :: r, b :: q, h => by
    simp only [cmpDs] at h
    cases e : cmpD a b with
    | eq => rw [e] at h; rw [cmpD_eq' e, cmpDs_eq' h]
    | lt => rw [e] at h; cases h
    | gt => rw [e] at h; cases h
end
mutual
theorem cmpD_refl : ∀ a : D, cmpD a a = .eq
  | .non => rfl
  | .bl a => by cases a <;> rfl
  | .int a => cmpI_refl a
  | .str a => cmpL_refl a
  | .tup a => by simp only [cmpD]; exact cmpDs_refl a
  | .ref a => cmpI_refl a
theorem cmpDs_refl : ∀ a : List D, cmpDs a a = .eq
  | [] => rfl
  | a :: r => by simp only [cmpDs]; rw [cmpD_refl a]; exact cmpDs_refl r
end
theorem cmpI_trans {a b c : Int} (h1 : cmpI a b ≠ .gt) (h2 : cmpI b c ≠ .gt) : cmpI a c ≠ .gt := by
  unfold cmpI at *
  intro h
  by_cases x1 : a < b
  · by_cases x2 : b < c
    · simp only [show a < c from by omega, if_true] at h; cases h
    · by_cases x3 : c < b
      · simp [x2, x3] at h2
      · simp only [show a < c from by omega, if_true] at h; cases h
  · by_cases x4 : b < a
    · simp [x1, x4] at h1
    · by_cases x2 : b < c
      · simp only [show a < c from by omega, if_true] at h; cases h
      · by_cases x3 : c < b
        · simp [x2, x3] at h2
        · simp only [show ¬ a < c from by omega, show ¬ c < a from by omega, if_false] at h; cases h
theorem cmpL_trans : ∀ {a b c : List Nat}, cmpL a b ≠ .gt → cmpL b c ≠ .gt → cmpL a c ≠ .gt
  | [], _, [], _, _ => by simp [cmpL]
  | [], _, _ :: _, _, _ => by simp [cmpL]
  | _ :: _, [], _, h, _ => by simp [cmpL] at h
  | _ :: _, _ :: _, [], _, h => by simp [cmpL] at h
  | a :: r, b :: q, c :: p, h1, h2 => by
    unfold cmpL at *
    by_cases x1 : a < b
    · by_cases x2 : b < c
      · simp [show a < c from by omega]
      · by_cases x3 : c < b
        · simp [x2, x3] at h2
        · simp [show a < c from by omega]
    · by_cases x4 : b < a
      · simp [x1, x4] at h1
      · by_cases x2 : b < c
        · simp [show a < c from by omega]
        · by_cases x3 : c < b
          · simp [x2, x3] at h2
          · simp only [x1, x4, x2, x3, if_false] at h1 h2
            simp only [show ¬ a < c from by omega, show ¬ c < a from by omega, if_false]
            exact cmpL_trans h1 h2
mutual
theorem cmpD_trans : ∀ {a b c : D}, cmpD a b ≠ .gt → cmpD b c ≠ .gt → cmpD a c ≠ .gt
  | .non, b, c, h1, h2 => by cases c <;> simp [cmpD]
  | .bl a, b, c, h1, h2 => by
    cases b <;> cases c <;> simp only [cmpD] at h1 h2 ⊢ <;> first | (intro h; cases h; done) | exact absurd rfl h1 | exact absurd rfl h2 | skip
    rename_i x y
    cases a <;> cases x <;> cases y <;> simp_all
  | .int a, b, c, h1, h2 => by
    cases b <;> cases c <;> simp only [cmpD] at h1 h2 ⊢ <;> first | (intro h; cases h; done) | exact absurd rfl h1 | exact absurd rfl h2 | exact cmpI_trans h1 h2
  | .str a, b, c, h1, h2 => by
    cases b <;> cases c <;> simp only [cmpD] at h1 h2 ⊢ <;> first | (intro h; cases h; done) | exact absurd rfl h1 | exact absurd rfl h2 | exact cmpL_trans h1 h2
  | .tup a, .tup b, .tup c, h1, h2 => by
    simp only [cmpD] at h1 h2 ⊢
    exact cmpDs_trans h1 h2
  | .tup a, .tup b, .ref c, h1, h2 => by simp [cmpD]
  | .tup a, .ref b, .tup c, h1, h2 => by simp [cmpD] at h2
  | .tup a, .ref b, .ref c, h1, h2 => by simp [cmpD]
  | .tup a, .non, c, h1, h2 => by simp [cmpD] at h1
  | .tup a, .bl _, c, h1, h2 => by simp [cmpD] at h1
  | .tup a, .int _, c, h1, h2 => by simp [cmpD] at h1
  | .tup a, .str _, c, h1, h2 => by simp [cmpD] at h1
  | .tup a, .tup b, .non, h1, h2 => by simp [cmpD] at h2
  | .tup a, .tup b, .bl _, h1, h2 => by simp [cmpD] at h2
  | .tup a, .tup b, .int _, h1, h2 => by simp [cmpD] at h2
  | .tup a, .tup b, .str _, h1, h2 => by simp [cmpD] at h2
  | .tup a, .ref b, .non, h1, h2 => by simp [cmpD] at h2
  | .tup a, .ref b, .bl _, h1, h2 => by simp [cmpD] at h2
  | .tup a, .ref b, .int _, h1, h2 => by simp [cmpD] at h2
  | .tup a, .ref b, .str _, h1, h2 => by simp [cmpD] at h2
  | .ref a, b, c, h1, h2 => by
    cases b <;> cases c <;> simp only [cmpD] at h1 h2 ⊢ <;> first | (intro h; cases h; done) | exact absurd rfl h1 | exact absurd rfl h2 | exact cmpI_trans h1 h2
theorem cmpDs_trans : ∀ {a b c : List D}, cmpDs a b ≠ .gt → cmpDs b c ≠ .gt → cmpDs a c ≠ .gt
  | [], _, [], _, _ => by simp [cmpDs]
  | [], _, _ :: _, _, _ => by simp [cmpDs]
  | _ :: _, [], _, h, _ => by simp [cmpDs] at h
  | _ :: _, _ :: _, [], _, h => by simp [cmpDs] at h
  | a :: r, b :: q, c :: p, h1, h2 => by
    simp only [cmpDs] at h1 h2 ⊢
    have hab : cmpD a b ≠ .gt := fun e => by rw [e] at h1; exact h1 rfl
    have hbc : cmpD b c ≠ .gt := fun e => by rw [e] at h2; exact h2 rfl
    have hac := cmpD_trans hab hbc
    cases eac : cmpD a c with
    | gt => exact absurd eac hac
    | lt => intro h; cases h
    | eq =>
      have e := cmpD_eq' eac
      subst e
      have eab : cmpD a b = .eq := by
        cases q1 : cmpD a b with
        | eq => rfl
        | gt => exact absurd q1 hab
        | lt =>
          exfalso
          apply hbc
          rw [cmpD_swap a b, q1]
          rfl
      have e2 := cmpD_eq' eab
      subst e2
      rw [cmpD_refl] at h1 h2
      exact cmpDs_trans h1 h2
end
theorem ltD_iff {a b : D} : ltD a b = true ↔ cmpD a b = .lt := by unfold ltD; cases cmpD a b <;> simp
theorem ltD_no {a b : D} : ltD a b = false ↔ cmpD b a ≠ .gt := by
  unfold ltD
  rw [cmpD_swap a b]
  cases cmpD a b <;> simp
theorem swo_ltD : Swo ltD := by
  refine ⟨fun x y h => ?_, fun x y z h1 h2 => ?_⟩
  · rw [ltD_no]
    rw [ltD_iff] at h
    rw [h]; simp
  · rw [ltD_no] at *
    exact cmpD_trans h1 h2
theorem swo_map {α β : Type} {lt : β → β → Bool} (O : Swo lt) (f : α → β) : Swo fun a b => lt (f a) (f b) := ⟨fun x y => O.asym _ _, fun x y z => O.tr _ _ _⟩
/-! ### the stable sort -/
section
variable {α : Type} {lt : α → α → Bool}
theorem ins_perm (x : α) : ∀ l : List α, (sortBy.insBy lt x l).Perm (x :: l)
  | [] => List.Perm.refl _
  | y :: r => by
    unfold sortBy.insBy
    split
    · exact (List.Perm.cons y (ins_perm x r)).trans (List.Perm.swap x y r)
    · exact List.Perm.refl _
theorem sort_perm : ∀ l : List α, (sortBy lt l).Perm l
  | [] => List.Perm.refl _
  | x :: r => (ins_perm x _).trans (List.Perm.cons x (sort_perm r))
theorem ins_sorted (O : Swo lt) (x : α) : ∀ {l : List α}, Srtd lt l → Srtd lt (sortBy.insBy lt x l)
  | [], _ => List.pairwise_singleton _ _
  | y :: r, h => by
    obtain ⟨h1, h2⟩ := List.pairwise_cons.mp h
    unfold sortBy.insBy
    cases e : lt y x with
    | true =>
      simp only [if_true]
      refine List.pairwise_cons.mpr ⟨fun z hz => ?_, ins_sorted O x h2⟩
      rcases List.mem_cons.mp ((ins_perm x r).mem_iff.mp hz) with rfl | hz
      · exact O.asym _ _ e
      · exact h1 z hz
    | false =>
      simp only [Bool.false_eq_true, if_false]
      refine List.pairwise_cons.mpr ⟨fun z hz => ?_, h⟩
      rcases List.mem_cons.mp hz with rfl | hz
      · exact e
      · exact O.tr _ _ _ e (h1 z hz)
theorem sort_sorted (O : Swo lt) : ∀ l : List α, Srtd lt (sortBy lt l)
  | [] => List.Pairwise.nil
  | x :: r => ins_sorted O x (sort_sorted O r)
theorem ins_cls (O : Swo lt) (x z : α) : ∀ l : List α, (sortBy.insBy lt x l).filter (eqv lt z) = (x :: l).filter (eqv lt z)
  | [] => rfl
  | y :: r => by
    unfold sortBy.insBy
    cases e : lt y x with
    | true =>
      simp only [if_true]
      rw [List.filter_cons, ins_cls O x z r, List.filter_cons, List.filter_cons, List.filter_cons]
      cases hy : eqv lt z y with
      | false => simp
      | true =>
        cases hx : eqv lt z x with
        | false => simp
        | true =>
          obtain ⟨a1, a2⟩ := eqv_iff.mp hy
          obtain ⟨b1, b2⟩ := eqv_iff.mp hx
          have := O.tr x z y b1 a2
          rw [e] at this
          cases this
    | false => simp
theorem sort_stb (O : Swo lt) : ∀ l : List α, Stb lt (sortBy lt l) l
  | [] => Stb.refl _
  | x :: r => ⟨sort_perm (x :: r), fun z => by
    show (sortBy.insBy lt x (sortBy lt r)).filter _ = _
    rw [ins_cls O x z, List.filter_cons, (sort_stb O r).cls z, List.filter_cons]⟩
theorem stb_unique (O : Swo lt) : ∀ {l m : List α}, Srtd lt l → Srtd lt m → Stb lt l m → l = m
  | [], m, _, _, s => (List.Perm.nil_eq s.perm)
  | x :: l, [], _, _, s => by have := s.len; simp at this
  | x :: l, y :: m, h1, h2, s => by
    obtain ⟨a1, a2⟩ := List.pairwise_cons.mp h1
    obtain ⟨b1, b2⟩ := List.pairwise_cons.mp h2
    have hxy : lt y x = false := by
      rcases List.mem_cons.mp (s.perm.mem_iff.mpr (List.mem_cons_self (a := y) (l := m))) with e | e
      · rw [e]; exact O.refl x
      · exact a1 y e
    have hyx : lt x y = false := by
      rcases List.mem_cons.mp (s.perm.mem_iff.mp (List.mem_cons_self (a := x) (l := l))) with e | e
      · rw [← e]; exact O.refl x
      · exact b1 x e
    have hc := s.cls x
    rw [List.filter_cons, List.filter_cons, if_pos (eqv_iff.mpr ⟨O.refl x, O.refl x⟩), if_pos (eqv_iff.mpr ⟨hyx, hxy⟩)] at hc
    obtain ⟨rfl, hc⟩ := List.cons.inj hc
    have s' : Stb lt l m := ⟨List.Perm.cons_inv s.perm, fun z => by
      have := s.cls z
      rw [List.filter_cons, List.filter_cons] at this
      split at this
      · exact (List.cons.inj this).2
      · exact this⟩
    rw [stb_unique O a2 b2 s']
/-- two lists, item by item -/
inductive Par {α β : Type} (R : α → β → Prop) : List α → List β → Prop
  | nil : Par R [] []
  | cons {a : α} {b : β} {l : List α} {m : List β} : R a b → Par R l m → Par R (a :: l) (b :: m)
theorem par_sort {α β : Type} {R : α → β → Prop} {lt : α → α → Bool} {lt' : β → β → Bool} (h : ∀ a b a' b', R a b → R a' b' → lt a a' = lt' b b') : ∀ {l : List α} {m : List β}, Par R l m → Par R (sortBy lt l) (sortBy lt' m)
  | _, _, .nil => .nil
  | _, _, .cons r p => ins r (par_sort h p)
where
  ins {x : α} {y : β} (r : R x y) : ∀ {l : List α} {m : List β}, Par R l m → Par R (sortBy.insBy lt x l) (sortBy.insBy lt' y m)
    | _, _, .nil => .cons r .nil
    | a :: l, b :: m, .cons q p => by
      unfold sortBy.insBy
      rw [h a b x y q r]
      split
      · exact .cons q (ins r p)
      · exact .cons r (.cons q p)
end
end NF
end -- NfSortP

section -- NfSort
set_option linter.all false
set_option autoImplicit false
set_option maxRecDepth 100000
set_option maxHeartbeats 1000000
/-! sorted(..) of comparable data. -/
namespace NF
open PySem PySem.Spec PyProof.Rows L2 SrtO
/-- a datum and its value -/
def RDV (H : Hp) (ι : List Addr) (d : D) (u : Value) : Prop := ∃ x, DV H ι d x ∧ RelV x u
theorem par_rdv {H : Hp} {ι : List Addr} : ∀ {ds : List D} {xs : List V} {us : List Value}, DVs H ι ds xs → Vals xs us → Par (RDV H ι) ds us
  | [], xs, us, r, v => by rw [DVs] at r; subst r; cases v; exact .nil
  | d :: ds, xs, us, r, v => by
    obtain ⟨x, q, rfl, h1, h2⟩ := r
    cases v with
    | cons a b => exact .cons ⟨x, h1, a⟩ (par_rdv h2 b)
theorem par_back {H : Hp} {ι : List Addr} : ∀ {ds : List D} {us : List Value}, Par (RDV H ι) ds us → ∃ xs, DVs H ι ds xs ∧ Vals xs us
  | _, _, .nil => ⟨[], rfl, .nil⟩
  | _, _, .cons ⟨x, h1, h2⟩ p => by
    obtain ⟨xs, a, b⟩ := par_back p
    exact ⟨x :: xs, ⟨x, xs, rfl, h1, a⟩, .cons h2 b⟩
theorem par_mem {α β : Type} {R : α → β → Prop} : ∀ {l : List α} {m : List β}, Par R l m → ∀ b ∈ m, ∃ a ∈ l, R a b
  | _, _, .nil, b, h => by cases h
  | _, _, .cons r p, b, h => by
    rcases List.mem_cons.mp h with rfl | h
    · exact ⟨_, List.mem_cons_self, r⟩
    · obtain ⟨a, ha, q⟩ := par_mem p b h
      exact ⟨a, List.mem_cons_of_mem _ ha, q⟩
theorem par_mem' {α β : Type} {R : α → β → Prop} : ∀ {l : List α} {m : List β}, Par R l m → ∀ a ∈ l, ∃ b ∈ m, R a b
  | _, _, .nil, b, h => by cases h
  | _, _, .cons r p, b, h => by
    rcases List.mem_cons.mp h with rfl | h
    · exact ⟨_, List.mem_cons_self, r⟩
    · obtain ⟨a, ha, q⟩ := par_mem' p b h
      exact ⟨a, List.mem_cons_of_mem _ ha, q⟩
theorem par_len {α β : Type} {R : α → β → Prop} : ∀ {l : List α} {m : List β}, Par R l m → l.length = m.length
  | _, _, .nil => rfl
  | _, _, .cons r p => by rw [List.length_cons, List.length_cons, par_len p]
mutual
/-- a value has one pure datum -/
theorem pure_one {H : Hp} {ι : List Addr} : ∀ (k : Nat) {d e : D} {x : V}, pureN k d = true → pureN k e = true → DV H ι d x → DV H ι e x → d = e
  | _, .int i, e, x, _, he, h1, h2 => by
    rw [DV] at h1; subst h1
    cases e <;> simp only [DV] at h2
    · cases h2
    · cases h2
    · cases h2; rfl
    · obtain ⟨h2, _⟩ := h2; cases h2
    · obtain ⟨_, _, h2, _⟩ := h2; cases h2
    · obtain ⟨_, h2, _⟩ := h2; cases h2
  | _, .str i, e, x, _, he, h1, h2 => by
    obtain ⟨rfl, _⟩ := h1
    cases e <;> simp only [DV] at h2
    · cases h2
    · cases h2
    · cases h2
    · obtain ⟨h2, _⟩ := h2
      have := strOf_inj (V.str.inj h2)
      rw [this]
    · obtain ⟨_, _, h2, _⟩ := h2; cases h2
    · obtain ⟨_, h2, _⟩ := h2; cases h2
  | 0, .tup _, _, _, hd, _, _, _ => by simp [pureN] at hd
  | k + 1, .tup ds, e, x, hd, he, h1, h2 => by
    obtain ⟨a, vs, rfl, ha, r⟩ := h1
    cases e with
    | tup es =>
      obtain ⟨b, ws, e1, hb, r2⟩ := h2
      cases e1
      rw [ha] at hb
      cases hb
      rw [pures_one k (show ds.all (pureN k) = true from hd) (show es.all (pureN k) = true from he) r r2]
    | str z => obtain ⟨h2, _⟩ := h2; cases h2
    | int z => cases h2
    | _ => simp [pureN] at he
  | k, .non, _, _, hd, _, _, _ => by cases k <;> simp [pureN] at hd
  | k, .bl _, _, _, hd, _, _, _ => by cases k <;> simp [pureN] at hd
  | k, .ref _, _, _, hd, _, _, _ => by cases k <;> simp [pureN] at hd
theorem pures_one {H : Hp} {ι : List Addr} : ∀ (k : Nat) {ds es : List D} {xs : List V}, ds.all (pureN k) = true → es.all (pureN k) = true → DVs H ι ds xs → DVs H ι es xs → ds = es
  | k, [], es, xs, _, _, h1, h2 => by
    rw [DVs] at h1; subst h1
    cases es with
    | nil => rfl
    | cons e es => obtain ⟨_, _, h2, _⟩ := h2; cases h2
  | k, d :: ds, es, xs, hd, he, h1, h2 => by
    obtain ⟨x, q, rfl, a1, a2⟩ := h1
    cases es with
    | nil => rw [DVs] at h2; cases h2
    | cons e es =>
      obtain ⟨y, q2, e1, b1, b2⟩ := h2
      cases e1
      rw [List.all_cons, Bool.and_eq_true] at hd he
      rw [pure_one k hd.1 he.1 a1 b1, pures_one k hd.2 he.2 a2 b2]
end
theorem rel_one {H : Hp} {ι : List Addr} {k : Nat} {d e : D} {u : Value} (hd : pureN k d = true) (he : pureN k e = true) (h1 : RDV H ι d u) (h2 : RDV H ι e u) : d = e := by
  obtain ⟨x, a, b⟩ := h1
  obtain ⟨y, a', b'⟩ := h2
  have : x = y := by
    cases d with
    | int i =>
      rw [DV] at a; subst a
      obtain ⟨t, rfl⟩ := b
      cases e with
      | int j => rw [DV] at a'; subst a'; obtain ⟨t', b'⟩ := b'; cases b'; rfl
      | str z => obtain ⟨rfl, _⟩ := a'; obtain ⟨t', b'⟩ := b'; cases b'
      | tup z => obtain ⟨_, _, rfl, _⟩ := a'; cases (show Value.int i t = Value.ref _ from b')
      | _ => cases k <;> simp [pureN] at he
    | str z =>
      obtain ⟨rfl, _⟩ := a
      obtain ⟨t, rfl⟩ := b
      cases e with
      | int j => rw [DV] at a'; subst a'; obtain ⟨t', b'⟩ := b'; cases b'
      | str z => obtain ⟨rfl, _⟩ := a'; obtain ⟨t', b'⟩ := b'; cases b'; rfl
      | tup z => obtain ⟨_, _, rfl, _⟩ := a'; cases (show Value.str _ t = Value.ref _ from b')
      | _ => cases k <;> simp [pureN] at he
    | tup ds =>
      obtain ⟨p, _, rfl, _⟩ := a
      cases (show u = Value.ref p from b)
      cases e with
      | int j => rw [DV] at a'; subst a'; obtain ⟨t', b'⟩ := b'; cases b'
      | str z => obtain ⟨rfl, _⟩ := a'; obtain ⟨t', b'⟩ := b'; cases b'
      | tup z => obtain ⟨_, _, rfl, _⟩ := a'; cases (show Value.ref p = Value.ref _ from b'); rfl
      | _ => cases k <;> simp [pureN] at he
    | _ => cases k <;> simp [pureN] at hd
  subst this
  exact pure_one k hd he a a'
/-- a value's datum -/
noncomputable def datV (H : Hp) (ι : List Addr) (u : Value) : D := by
  classical
  exact if h : ∃ d, pureD d = true ∧ RDV H ι d u then h.choose else .non
theorem datV_eq {H : Hp} {ι : List Addr} {u : Value} {d : D} (hd : pureD d = true) (h : RDV H ι d u) : datV H ι u = d := by
  unfold datV
  have hx : ∃ d, pureD d = true ∧ RDV H ι d u := ⟨d, hd, h⟩
  rw [dif_pos hx]
  exact rel_one hx.choose_spec.1 hd hx.choose_spec.2 h
noncomputable def ltv (H : Hp) (ι : List Addr) (v u : Value) : Bool := ltD (datV H ι v) (datV H ι u)
theorem swo_ltv (H : Hp) (ι : List Addr) : Swo (ltv H ι) := swo_map swo_ltD _
section
variable {X : Cx} {pins : List (Addr × Obj)} {σ : L2.St} {H : Hp} {s : Shared} {ι : List Addr}
/-- the items of two tuples, compared one by one -/
theorem data_lex (I : Inv X pins σ H s) {A : Around} {b : Bool} {Q : Bool → Shared → Prop} (hu : A.units + 8 < cLine) : ∀ (as bs : List D) (xs ys : List V) (us zs : List Value) (i : Nat) (fin : Bool), as.all (pureN 7) = true → bs.all (pureN 7) = true → cmpbs as bs = true →
    DVs H ι as xs → DVs H ι bs ys → Vals xs us → Vals ys zs → (b = true → i = 0 → ∀ a q, as = a :: q → (∃ n, a = .int n) ∨ ∃ n, a = .str n) → fin = decide (as.length < bs.length) → Q (cmpDs as bs == .lt) s →
    PySem.W.KatLex X.prog X.w A b fin Q (us.zip zs) i s
  | [], bs, xs, ys, us, zs, i, fin, _, _, _, r1, r2, v1, v2, _, hf, hq => by
    rw [DVs] at r1; subst r1
    cases v1
    show Q fin s
    rw [hf]
    cases bs with
    | nil => exact hq
    | cons b bs => exact hq
  | a :: as, [], xs, ys, us, zs, i, fin, _, _, _, r1, r2, v1, v2, _, hf, hq => by
    rw [DVs] at r2; subst r2
    cases v2
    rw [List.zip_nil_right]
    show Q fin s
    rw [hf]
    exact hq
  | a :: as, c :: cs, xs, ys, us, zs, i, fin, h1, h2, hc, r1, r2, v1, v2, hb, hf, hq => by
    obtain ⟨x, xs', rfl, dx, r1⟩ := r1
    obtain ⟨y, ys', rfl, dy, r2⟩ := r2
    cases v1 with
    | cons rx v1 =>
      cases v2 with
      | cons ry v2 =>
        rw [List.all_cons, Bool.and_eq_true] at h1 h2
        rw [List.zip_cons_cons]
        refine PySem.W.kat_cons (pure_eqAt I h1.1 h2.1 dx dy rx ry (by omega) X.prog X.w _ _ ?_)
        refine PySem.W.kat_go (fun e => ?_) (fun e => ?_)
        · have e' : a = c := by simpa using e
          subst e'
          simp only [cmpbs, cmpD_refl, if_true] at hc
          simp only [cmpDs, cmpD_refl] at hq
          exact PySem.W.kat_yes (data_lex I hu as cs xs' ys' _ _ (i + 1) fin h1.2 h2.2 hc r1 r2 v1 v2 (fun _ z => by omega) (by rw [hf]; simp) hq)
        · have ne : ¬ a = c := by simpa using e
          have ne' : cmpD a c ≠ .eq := fun z => ne (cmpD_eq' z)
          simp only [cmpbs, if_neg ne'] at hc
          have hq' : Q (cmpD a c == .lt) s := by
            have : cmpDs (a :: as) (c :: cs) = cmpD a c := by
              simp only [cmpDs]
            rw [this] at hq
            exact hq
          refine PySem.W.kat_no ?_
          cases hbi : (b && i == 0) with
          | true =>
            simp only [Bool.and_eq_true, beq_iff_eq] at hbi
            rcases hb hbi.1 hbi.2 a as rfl with ⟨n, rfl⟩ | ⟨n, rfl⟩
            · cases c with
              | int m =>
                rw [DV] at dx dy; subst dx dy
                obtain ⟨t, rfl⟩ := rx
                obtain ⟨t', rfl⟩ := ry
                refine oneLt_any_int ?_
                rw [← cmpI_lt]
                exact hq'
              | _ => simp [cmpb] at hc
            · cases c with
              | str m =>
                obtain ⟨rfl, _⟩ := dx
                obtain ⟨rfl, _⟩ := dy
                obtain ⟨t, rfl⟩ := rx
                obtain ⟨t', rfl⟩ := ry
                refine oneLt_any_str ?_
                show Q (decide ((strOf n).cps.toList < (strOf m).cps.toList)) s
                rw [show (strOf n).cps.toList = n from by simp [strOf], show (strOf m).cps.toList = m from by simp [strOf], ← cmpL_lt]
                exact hq'
              | _ => simp [cmpb] at hc
          | false =>
            refine PySem.W.kat_one _ _ ?_
            rw [hop_lt]
            exact ord_rc ord_lt I 7 a c x y _ _ A h1.1 h2.1 hc dx dy rx ry (by omega) X.prog X.w _ _ hq'
end
end NF
end -- NfSort

section -- NfSort2
set_option linter.all false
set_option autoImplicit false
set_option maxRecDepth 100000
set_option maxHeartbeats 1000000
namespace NF
open PySem PySem.Spec PyProof.Rows L2 SrtO
def kindD : D → Nat
  | .int _ => 0
  | .str _ => 1
  | .tup _ => 2
  | _ => 3
def kindT : Nat → Value
  | 0 => .type "int"
  | 1 => .type "str"
  | _ => .type "tuple"
theorem cmpb_kind {d e : D} (h : cmpb d e = true) : kindD d = kindD e ∧ kindD d < 3 := by
  rcases cmpb_cases h with ⟨a, b, rfl, rfl⟩ | ⟨a, b, rfl, rfl⟩ | ⟨a, b, rfl, rfl, _⟩ <;> refine ⟨rfl, ?_⟩ <;> simp [kindD]
theorem all_mem {α : Type} {p : α → Bool} {l : List α} (h : l.all p = true) {x : α} (hx : x ∈ l) : p x = true := List.all_eq_true.mp h x hx
theorem allCmp_at {ds : List D} (h : allCmp ds = true) {d : D} (hd : d ∈ ds) : pureD d = true ∧ noNil d = true ∧ ∀ e ∈ ds, cmpb d e = true := by
  unfold allCmp at h
  have q := all_mem h hd
  simp only [Bool.and_eq_true] at q
  exact ⟨q.1.1, q.1.2, fun e he => all_mem q.2 he⟩
section
variable {X : Cx} {pins : List (Addr × Obj)} {σ : L2.St} {H : Hp} {s : Shared} {ι : List Addr}
/-- what type a pure datum's value has -/
theorem data_type (I : Inv X pins σ H s) {k : Nat} {d : D} {u : Value} {M : Model} (hd : pureN k d = true) (h : RDV H ι d u) : PySem.W.Looks M s.heap (typeOf u) (kindT (kindD d)) := by
  obtain ⟨x, a, b⟩ := h
  cases d with
  | int i => rw [DV] at a; subst a; obtain ⟨t, rfl⟩ := b; exact PySem.W.Looks.now
  | str i => obtain ⟨rfl, _⟩ := a; obtain ⟨t, rfl⟩ := b; exact PySem.W.Looks.now
  | tup ds =>
    obtain ⟨p, vs, rfl, hp, r⟩ := a
    cases (show u = Value.ref p from b)
    obtain ⟨_, its, r2, o, ho, hc, n, hdat⟩ := I.hok _ _ hp
    show PySem.W.Looks M s.heap (typeOf (.ref p)) (.type "tuple")
    rw [← hc]
    exact (PySem.W.Looks.ld ho).andThen .now
  | _ => cases k <;> simp [pureN] at hd
theorem data_tup (I : Inv X pins σ H s) {ds : List D} {u : Value} (h : RDV H ι (.tup ds) u) : ∃ p o xs us n, u = .ref p ∧ s.heap.get? p = some o ∧ o.cls = .type "tuple" ∧ o.data = .seq us n ∧ DVs H ι ds xs ∧ Vals xs us.toList := by
  obtain ⟨x, a, b⟩ := h
  obtain ⟨p, vs, rfl, hp, r⟩ := a
  cases (show u = Value.ref p from b)
  obtain ⟨_, its, r2, o, ho, hc, n, hdat⟩ := I.hok _ _ hp
  exact ⟨p, o, vs, _, n, rfl, ho, hc, hdat, r, by simpa using r2⟩
theorem data_cmp (I : Inv X pins σ H s) {A : Around} (hu : A.units + 16 < cLine) {ds : List D} {us : List Value} (hc : allCmp ds = true) (p : Par (RDV H ι) ds us) (h2 : 2 ≤ us.length) :
    ∃ κ, (∀ (Q : SortKind → Shared → Prop) (E : Value → Shared → Prop), Q κ s → wpAny (model X.prog X.w) A (keyKind' us.toArray) Q E s) ∧ Cmp X.prog X.w A s κ (fun q => q.1 ∈ us) (lt2 (ltv H ι)) := by
  obtain ⟨d0, hd0, u0, hu0⟩ : ∃ d, d ∈ ds ∧ ∃ u, RDV H ι d u := by
    cases p with
    | nil => simp at h2
    | cons r p => exact ⟨_, List.mem_cons_self, _, r⟩
  obtain ⟨hp0, hn0, hc0⟩ := allCmp_at hc hd0
  have kk : ∀ u ∈ us, ∃ d ∈ ds, RDV H ι d u ∧ kindD d = kindD d0 := fun u hu => by
    obtain ⟨d, hd, r⟩ := par_mem p u hu
    exact ⟨d, hd, r, (cmpb_kind (hc0 d hd)).1.symm⟩
  have ltv_eq : ∀ {d e : D} {u z : Value}, d ∈ ds → e ∈ ds → RDV H ι d u → RDV H ι e z → ltv H ι u z = (cmpD d e == .lt) := fun {d e u z} hd he r1 r2 => by
    unfold ltv
    rw [datV_eq (allCmp_at hc hd).1 r1, datV_eq (allCmp_at hc he).1 r2]
    rfl
  rcases cmpb_cases (hc0 d0 hd0) with ⟨i0, _, e0, _⟩ | ⟨z0, _, e0, _⟩ | ⟨t0, _, e0, _, _⟩
  · refine ⟨oneType', fun Q E hq => PySem.W.kas_kind (T := .type "int") h2 (fun v hv => ?_) (by decide +kernel) (by decide +kernel) hq, fun a b ha hb => ?_⟩
    · obtain ⟨d, hd, r, hk⟩ := kk v hv
      have := data_type (M := model X.prog X.w) I (allCmp_at hc hd).1 r
      rw [hk, e0] at this
      exact this
    · obtain ⟨d, hd, r, hk⟩ := kk _ ha
      obtain ⟨e, he, r', hk'⟩ := kk _ hb
      have hl : lt2 (ltv H ι) a b = (cmpD d e == .lt) := ltv_eq hd he r r'
      rw [hl]
      rcases cmpb_cases ((allCmp_at hc hd).2.2 e he) with ⟨i, j, rfl, rfl⟩ | ⟨i, j, rfl, rfl⟩ | ⟨i, j, rfl, rfl, _⟩
      · obtain ⟨x, q1, q2⟩ := r
        obtain ⟨y, q3, q4⟩ := r'
        rw [DV] at q1 q3; subst q1 q3
        obtain ⟨t, q2⟩ := q2
        obtain ⟨t', q4⟩ := q4
        rw [q2, q4]
        exact PySem.W.kat_lt_int ⟨rfl, cmpI_lt.symm⟩
      · rw [e0] at hk; cases hk
      · rw [e0] at hk; cases hk
  · refine ⟨oneType', fun Q E hq => PySem.W.kas_kind (T := .type "str") h2 (fun v hv => ?_) (by decide +kernel) (by decide +kernel) hq, fun a b ha hb => ?_⟩
    · obtain ⟨d, hd, r, hk⟩ := kk v hv
      have := data_type (M := model X.prog X.w) I (allCmp_at hc hd).1 r
      rw [hk, e0] at this
      exact this
    · obtain ⟨d, hd, r, hk⟩ := kk _ ha
      obtain ⟨e, he, r', hk'⟩ := kk _ hb
      have hl : lt2 (ltv H ι) a b = (cmpD d e == .lt) := ltv_eq hd he r r'
      rw [hl]
      rcases cmpb_cases ((allCmp_at hc hd).2.2 e he) with ⟨i, j, rfl, rfl⟩ | ⟨i, j, rfl, rfl⟩ | ⟨i, j, rfl, rfl, _⟩
      · rw [e0] at hk; cases hk
      · obtain ⟨x, q1, q2⟩ := r
        obtain ⟨y, q3, q4⟩ := r'
        obtain ⟨rfl, _⟩ := q1
        obtain ⟨rfl, _⟩ := q3
        obtain ⟨t, q2⟩ := q2
        obtain ⟨t', q4⟩ := q4
        rw [q2, q4]
        refine PySem.W.kas_lt_str ⟨rfl, ?_⟩
        show decide ((strOf i).cps.toList < (strOf j).cps.toList) = _
        rw [show (strOf i).cps.toList = i from by simp [strOf], show (strOf j).cps.toList = j from by simp [strOf], ← cmpL_lt]
        rfl
      · rw [e0] at hk; cases hk
  · have tups : ∀ u ∈ us, ∃ a q, (D.tup (a :: q)) ∈ ds ∧ RDV H ι (.tup (a :: q)) u := fun u hu => by
      obtain ⟨d, hd, r, hk⟩ := kk u hu
      rw [e0] at hk
      cases d with
      | tup as =>
        cases as with
        | nil => have := (allCmp_at hc hd).2.1; simp [noNil] at this
        | cons a q => exact ⟨a, q, hd, r⟩
      | _ => cases hk
    obtain ⟨a0, q0, rfl⟩ : ∃ a q, t0 = a :: q := by
      cases t0 with
      | nil => rw [e0] at hn0; simp [noNil] at hn0
      | cons a q => exact ⟨a, q, rfl⟩
    subst e0
    have fk : ∀ {a q}, D.tup (a :: q) ∈ ds → kindD a = kindD a0 := fun {a q} h => by
      have := hc0 _ h
      simp only [cmpb, cmpbs] at this
      split at this
      · rename_i z; rw [cmpD_eq' z]
      · exact (cmpb_kind this).1.symm
    have pa : ∀ {a q}, D.tup (a :: q) ∈ ds → pureN 7 a = true ∧ (a :: q).all (pureN 7) = true := fun {a q} h => by
      have := (allCmp_at hc h).1
      have h2 : (a :: q).all (pureN 7) = true := this
      refine ⟨?_, h2⟩
      rw [List.all_cons, Bool.and_eq_true] at h2
      exact h2.1
    have firsts : ∀ us' : List Value, (∀ u ∈ us', u ∈ us) → ∃ fs, PySem.W.KatTups s.heap us' fs ∧ fs.length = us'.length ∧ ∀ f ∈ fs, PySem.W.Looks (model X.prog X.w) s.heap (typeOf f) (kindT (kindD a0)) := by
      intro us'
      induction us' with
      | nil => exact fun _ => ⟨[], .nil, rfl, fun f hf => by cases hf⟩
      | cons u us' ih =>
        intro hm
        obtain ⟨fs, g1, g2, g3⟩ := ih fun u hu => hm u (List.mem_cons_of_mem _ hu)
        obtain ⟨a, q, hd, r⟩ := tups u (hm u List.mem_cons_self)
        obtain ⟨p', o, xs, vs, n, rfl, ho, hcl, hdat, rd, rv⟩ := data_tup I r
        obtain ⟨x, xs', rfl, dx, _⟩ := rd
        cases hvs : vs.toList with
        | nil => rw [hvs] at rv; cases rv
        | cons f vs' =>
          rw [hvs] at rv
          cases rv with
          | cons rx _ =>
            have hf0 : vs[0]? = some f := by rw [← Array.getElem?_toList, hvs]; rfl
            refine ⟨f :: fs, PySem.W.KatTups.cons ho hcl hdat hf0 g1, by rw [List.length_cons, List.length_cons, g2], fun f' hf' => ?_⟩
            rcases List.mem_cons.mp hf' with rfl | hf'
            · have := data_type (M := model X.prog X.w) I (pa hd).1 ⟨x, dx, rx⟩
              rw [fk hd] at this
              exact this
            · exact g3 f' hf'
    obtain ⟨fs, g1, g2, g3⟩ := firsts us fun _ h => h
    refine ⟨tuples' (kindT (kindD a0) != Value.type "tuple"), fun Q E hq => PySem.W.kat_kind g1 (by omega) g3 ?_ hq, fun x y hx hy => ?_⟩
    · generalize kindD a0 = n
      match n with
      | 0 => decide +kernel
      | 1 => decide +kernel
      | n + 2 => show (Value.type "tuple" == Value.type "tuple") = true; decide +kernel
    · obtain ⟨a, q, hd, r⟩ := tups _ hx
      obtain ⟨b, q', he, r'⟩ := tups _ hy
      have hl : lt2 (ltv H ι) x y = (cmpD (.tup (a :: q)) (.tup (b :: q')) == .lt) := ltv_eq hd he r r'
      rw [hl]
      obtain ⟨p1, o1, xs1, vs1, n1, ex, ho1, hc1, hdat1, rd1, rv1⟩ := data_tup I r
      obtain ⟨p2, o2, xs2, vs2, n2, ey, ho2, hc2, hdat2, rd2, rv2⟩ := data_tup I r'
      rw [ex, ey]
      refine PySem.W.kat_lt ho1 hdat1 ho2 hdat2 ?_
      have hcm : cmpbs (a :: q) (b :: q') = true := (allCmp_at hc hd).2.2 _ he
      refine data_lex I (by omega) (a :: q) (b :: q') xs1 xs2 _ _ 0 _ (pa hd).2 (pa he).2 hcm rd1 rd2 rv1 rv2 (fun hb _ a' q'' e => ?_) ?_ ⟨rfl, by simp only [cmpD]⟩
      · cases e
        have hk := fk hd
        have hlt := (cmpb_kind (d := a) (e := a) (by
          have := (allCmp_at hc hd).2.2 _ hd
          have pd := (pa hd).1
          cases a with
          | int i => rfl
          | str i => rfl
          | tup t =>
            exfalso
            rw [show kindD (D.tup t) = 2 from rfl] at hk
            rw [← hk] at hb
            exact absurd hb (by decide +kernel)
          | _ => simp [pureN] at pd)).2
        cases a with
        | int i => exact .inl ⟨i, rfl⟩
        | str i => exact .inr ⟨i, rfl⟩
        | tup t =>
          exfalso
          rw [show kindD (D.tup t) = 2 from rfl] at hk
          rw [← hk] at hb
          exact absurd hb (by decide +kernel)
        | _ => simp [kindD] at hlt
      · rw [← rd1.len, ← rd2.len, rv1.length, rv2.length]
        simp
/-- sorted(xs), xs a list of comparable data -/
def rSortD (K : PySem.W.Frag) : List V → Hp → VK → Prop := fun vs H Q => ∃ (a : Addr) (ds : List D) (xs : List V) (ι : List Addr), vs = [V.ref a] ∧ SqL K H a xs ∧ DVs H ι ds xs ∧ allCmp ds = true ∧
  ∀ ys p, DVs H ι (sortBy ltD ds) ys → H p = none → Q (.ref p) (upd H p (.lst ys))
theorem cr_sortD (hu : X.A.units + 64 < cLine) : CallR X (.builtin "sorted") (rSortD X.K) := by
  intro pins s σ H vs us Q I r h
  obtain ⟨a, ds, xs, ι, rfl, hs, rd, hc, q⟩ := h
  obtain ⟨its, rv, hl, hz⟩ := I.list hs
  obtain ⟨u, rfl, ru⟩ := vals1 r
  obtain rfl : u = Value.ref a := ru
  have pr : Par (RDV H ι) ds its := par_rdv rd rv
  have hlen := par_len pr
  refine SrtO.sorted_ord (swo_ltv H ι) hl.isList (by rw [← rv.length]; exact hz) (fun h2 h₁ b hb kk h' keep => ?_) fun out h1 h2 => ?_
  · have J : Inv X pins σ H { s with heap := h' } := I.kept (t' := s.toks) fun c o e => keep c o (kk c o e).1 (kk c o e).2
    exact data_cmp J (by rw [in1_units, in1_units]; omega) hc pr h2
  · have eo : out = sortBy (ltv H ι) its := stb_unique (swo_ltv H ι) h1 (sort_sorted (swo_ltv H ι) _) ⟨h2.perm.trans (sort_perm _).symm, fun z => (h2.cls z).trans ((sort_stb (swo_ltv H ι) its).cls z).symm⟩
    have pm : Par (fun d u => d ∈ ds ∧ RDV H ι d u) ds its := by
      have : ∀ {ds' : List D} {its' : List Value}, Par (RDV H ι) ds' its' → (∀ d ∈ ds', d ∈ ds) → Par (fun d u => d ∈ ds ∧ RDV H ι d u) ds' its' := by
        intro ds' its' p
        induction p with
        | nil => exact fun _ => .nil
        | cons r p ih => exact fun h => .cons ⟨h _ List.mem_cons_self, r⟩ (ih fun d hd => h d (List.mem_cons_of_mem _ hd))
      exact this pr fun _ h => h
    have ps : Par (fun d u => d ∈ ds ∧ RDV H ι d u) (sortBy ltD ds) out := by
      rw [eo]
      refine par_sort (fun d u d' u' h h' => ?_) pm
      unfold ltv
      rw [datV_eq (allCmp_at hc h.1).1 h.2, datV_eq (allCmp_at hc h'.1).1 h'.2]
    have ps' : Par (RDV H ι) (sortBy ltD ds) out := by
      have : ∀ {ds' : List D} {its' : List Value}, Par (fun d u => d ∈ ds ∧ RDV H ι d u) ds' its' → Par (RDV H ι) ds' its' := by
        intro ds' its' p
        induction p with
        | nil => exact .nil
        | cons r p ih => exact .cons r.2 ih
      exact this ps
    obtain ⟨ys, dy, vy⟩ := par_back ps'
    obtain ⟨ep, hat⟩ := PyProof.Rows.sortedAll_at s.heap its out.toArray
    refine ⟨.ref (s.heap.objs.size + 1), upd H (s.heap.objs.size + 1) (.lst ys), I.laid (t' := s.toks) (fun b o e => PyProof.Rows.sortedAll_old e) (Nat.le_succ _) ⟨?_, out, ep, vy, hat⟩, rfl, q ys _ dy (I.hok.fresh (Nat.le_succ _))⟩
    rw [vy.length, ← par_len ps', (sort_perm ds).length_eq, hlen, ← rv.length]
    exact hz
theorem bv_sorted {C : Cfg} : BV1s C X.K (biM .sorted) (rSortD X.K) := by
  intro W σ H ι S ds xs Q s d1 p
  obtain ⟨d, y, rfl, rfl, d2, p⟩ := Post.arg1 p d1
  obtain ⟨n, a, es, vs, _, rfl, ha, hq, rd, _, p⟩ := Post.lstOf p s d2
  have p' : Post C X.K W σ DV H ι (NF.bnd (if allCmp es then NF.ret (sortBy ltD es) else bad) (fun es => NF.new (.lst es)) S) Q := p
  unfold NF.bnd at p'
  by_cases hc : allCmp es = true
  · rw [if_pos hc] at p'
    exact ⟨a, es, vs, ι, rfl, hq, rd, hc, fun ys p dy hp => Post.lst p' s dy hp⟩
  · rw [if_neg hc] at p'
    exact False.elim p'
end
end NF
end -- NfSort2

section -- NfSortK
set_option linter.all false
set_option autoImplicit false
set_option maxRecDepth 100000
set_option maxHeartbeats 2000000
/-! sorted(.., key=f). -/
namespace NF
open PySem PySem.Spec PyProof.Rows L2 SrtO
theorem mapM_cons {m : D → M D} {d : D} {r : List D} {S S' : Store} {ks : List D} (h : mapM' m (d :: r) S = .ok ks S') : ∃ k q S1, m d S = .ok k S1 ∧ mapM' m r S1 = .ok q S' ∧ ks = k :: q := by
  obtain ⟨k, S1, h1, h2⟩ := bnd_ok (m := m d) h
  obtain ⟨q, S2, h3, h4⟩ := bnd_ok (m := mapM' m r) h2
  cases h4
  exact ⟨k, q, S1, h1, h3, rfl⟩
theorem par_zip {α β γ δ : Type} {R : α → β → Prop} {R' : γ → δ → Prop} : ∀ {l : List α} {m : List β} {n : List γ} {p : List δ}, Par R l m → Par R' n p → Par (fun (x : α × γ) (y : β × δ) => R x.1 y.1 ∧ R' x.2 y.2) (l.zip n) (m.zip p)
  | _, _, _, _, .nil, _ => by simp; exact .nil
  | _, _, _, _, .cons _ _, .nil => by simp; exact .nil
  | _, _, _, _, .cons a b, .cons c d => .cons ⟨a, c⟩ (par_zip b d)
theorem par_imp {α β : Type} {R R' : α → β → Prop} : ∀ {l : List α} {m : List β}, Par R l m → (∀ a ∈ l, ∀ b, R a b → R' a b) → Par R' l m
  | _, _, .nil, _ => .nil
  | _, _, .cons a b, h => .cons (h _ List.mem_cons_self _ a) (par_imp b fun x hx => h x (List.mem_cons_of_mem _ hx))
theorem par_map {α β γ δ : Type} {R : α → β → Prop} {R' : γ → δ → Prop} {f : α → γ} {g : β → δ} (h : ∀ a b, R a b → R' (f a) (g b)) : ∀ {l : List α} {m : List β}, Par R l m → Par R' (l.map f) (m.map g)
  | _, _, .nil => .nil
  | _, _, .cons a b => .cons (h _ _ a) (par_map h b)
theorem RDV.ext {H H' : Hp} {ι ι' : List Addr} {d : D} {u : Value} (e : Ext H ι H' ι') (r : RDV H ι d u) : RDV H' ι' d u := let ⟨x, a, b⟩ := r; ⟨x, a.ext e, b⟩
section
variable {C : Cfg} {X : Cx} {pins : List (Addr × Obj)} {σ : L2.St} {H : Hp} {s : Shared} {ι : List Addr} {S : Store}
theorem nofr (I : Inv X pins σ H s) {f : Addr} (hf : s.heap.objs.size ≤ f) : f ∉ frs X.stack := fun z => by
  rcases List.mem_cons.mp (I.stkSub _ z) with e | e
  · have h1 := I.lt
    rw [← e] at h1
    exact Nat.lt_irrefl _ (Nat.lt_of_lt_of_le h1 hf)
  · exact I.nofs hf e
/-- between two keys: what has become of the state -/
structure Mid (X : Cx) (H : Hp) (s : Shared) (H' : Hp) (s' : Shared) : Prop where
  os : s'.os = s.os
  bare : AllBare s'.gens
  un : Un (frs X.stack) [] H H' s.heap s'.heap
  hok : HOk X.prog X.w H' s'.heap
theorem Mid.inv {H' : Hp} {s' : Shared} (m : Mid X H s H' s') (I : Inv X pins σ H s) : Inv X pins σ H' s' := I.call' m.os m.un m.hok m.bare fun _ z => nomatch z
/-- what the key's function does -/
def KeyRun (C : Cfg) (X : Cx) (f : Addr) (fobj : Obj) (m : D → M D) (H : Hp) (ι : List Addr) : Prop :=
  ∀ (s' : Shared) (H' : Hp) (ι' : List Addr) (S' S2 : Store) (d k : D) (u : Value) (Q : VK), Ext H ι H' ι' → Env0 X.prog X.w X.K X.mg X.base X.A.in1.in1 X.stack s' H' → s'.heap.get? f = some fobj → H' f = none → StR C X.K H' ι' S' → RDV H' ι' d u → m d S' = .ok k S2 →
    (∀ v H2 ι2, Ext H' ι' H2 ι2 → StR C X.K H2 ι2 S2 → DV H2 ι2 k v → Q v H2) →
    codeAny (model X.prog X.w) X.A.in1.in1 (.call (.ref f) ⟨[u], []⟩) (CR (L2.CX X.prog X.w) X.stack X.prog X.w H' s' Q (fun _ _ _ => False)) s'
theorem run_sortK {f l : Addr} {fobj : Obj} {m : D → M D} {ds ks : List D} {xs : List V} {S2 : Store} {Q : VK} (I : Inv X pins σ H s) (st : StR C X.K H ι S) (hs : SqL X.K H l xs) (rd : DVs H ι ds xs) (hf : s.heap.get? f = some fobj) (hfH : H f = none) (hff : f ∉ frs X.stack)
    (hu : X.A.units + 64 < cLine) (hrun : KeyRun C X f fobj m H ι) (hm : mapM' m ds S = .ok ks S2) (hc : allCmp ks = true)
    (fin : ∀ p H' ι' , Ext H ι H' (ι' ++ [p]) → StR C X.K H' (ι' ++ [p]) (S2 ++ [.lst ((sortBy (fun a b => ltD a.1 b.1) (ks.zip ds)).map (·.2))]) → ι'.length = S2.length → Q (.ref p) H') :
    wpAny (model X.prog X.w) X.A (call (.builtin "sorted") [.ref l] [(Str.ofString "key", .ref f)]) (EP X pins σ Q) X.xe s := by
  obtain ⟨its, rv, pl, hz⟩ := I.list hs
  have hz' : its.length ≤ sizeLine := by rw [← rv.length]; exact hz
  have hlen : ds.length = its.length := by rw [← rd.len, rv.length]
  refine call_function_entry_kw kind_sorted plain_sorted entry_sorted (ksk_s1 _ _) ?_
  unfold Builtin.«sorted»
  refine wpAny_bind (m := checkCount "sorted" 1 1 _) (wpAny_pure ?_)
  refine wpAny_bind (collect_list pl.isList ?_ hz')
  refine wpAny_bind (wpAny_newList ?_ hz')
  have hsz : ((s.heap.push (seqObj "list" #[] 0)).update s.heap.objs.size (Obj.mapSeq (· ++ its.toArray))).objs.size = s.heap.objs.size + 1 := by
    rw [Heap.size_update, size_push']
  have hoL : (((s.heap.push (seqObj "list" #[] 0)).update s.heap.objs.size (Obj.mapSeq (· ++ its.toArray))).push (seqObj "list" its.toArray 0)).get? (s.heap.objs.size + 1) = some (seqObj "list" its.toArray 0) := by
    rw [← hsz]; exact Heap.get?_push_size _ rfl
  have keep : ∀ b o, s.heap.get? b = some o → b ≠ s.heap.objs.size + 1 ∧ (((s.heap.push (seqObj "list" #[] 0)).update s.heap.objs.size (Obj.mapSeq (· ++ its.toArray))).push (seqObj "list" its.toArray 0)).get? b = some o := fun b o q => by
    have hlt : b < s.heap.objs.size := Heap.lt_size q
    refine ⟨Nat.ne_of_lt (Nat.lt_succ_of_lt hlt), Heap.get?_push_of_some _ ?_⟩
    rw [Heap.get?_update_ne _ _ _ _ (Nat.ne_of_lt hlt)]
    exact Heap.get?_push_of_some _ q
  show wpAny _ _ _ _ _ { s with heap := ((s.heap.push (seqObj "list" #[] 0)).update s.heap.objs.size (Obj.mapSeq (· ++ its.toArray))).push (seqObj "list" its.toArray 0) }
  rw [hsz]
  have hs1 : (((s.heap.push (seqObj "list" #[] 0)).update s.heap.objs.size (Obj.mapSeq (· ++ its.toArray))).push (seqObj "list" its.toArray 0)).objs.size = s.heap.objs.size + 2 := by rw [Heap.size_push, hsz]
  generalize ((s.heap.push (seqObj "list" #[] 0)).update s.heap.objs.size (Obj.mapSeq (· ++ its.toArray))).push (seqObj "list" its.toArray 0) = h1 at hoL keep hs1 ⊢
  refine wpAny_bind (wpAny_holding (wpAny_call_entry_kw slot_list_sort ⟨_, hoL, rfl⟩ entry_list_sort ?_ (ksk_l1 _ _)))
  rw [ksk_t1]
  unfold ksk_tree
  refine wpAny_bind (listItems_at hoL rfl ?_)
  refine wpAny_bind (listUpdate_at hoL rfl ?_ (by rw [List.size_toArray]; exact hz') (Nat.zero_le _))
  obtain ⟨e1, ho1⟩ : ∃ e1, (h1.update (s.heap.objs.size + 1) (Obj.mapSeq fun _ => #[])).get? (s.heap.objs.size + 1) = some (seqObj "list" #[] e1) := ⟨_, get?_update_seq hoL (fun _ => #[])⟩
  have hs2 : (h1.update (s.heap.objs.size + 1) (Obj.mapSeq fun _ => #[])).objs.size = s.heap.objs.size + 2 := by rw [Heap.size_update, hs1]
  have keep2 : ∀ b o, s.heap.get? b = some o → (h1.update (s.heap.objs.size + 1) (Obj.mapSeq fun _ => #[])).get? b = some o := fun b o e => (Heap.get?_update_ne _ _ _ _ (keep b o e).1).trans (keep b o e).2
  show wpAny _ _ _ _ _ { s with heap := h1.update (s.heap.objs.size + 1) (Obj.mapSeq fun _ => #[]) }
  generalize h1.update (s.heap.objs.size + 1) (Obj.mapSeq fun _ => #[]) = h2 at ho1 hs2 keep2 ⊢
  refine wpAny_bind (seqEpoch_at ho1 rfl ?_)
  refine wpAny_bind (wpAny_newTuple ?_ (by show its.length ≤ _; exact hz'))
  refine wpAny_bind (wpAny_newList ?_ (Nat.zero_le _))
  refine wpAny_holding ?_
  have hs3 : (h2.push (seqObj "tuple" its.toArray 0)).objs.size = s.heap.objs.size + 3 := by rw [Heap.size_push, hs2]
  have ho4 : ((h2.push (seqObj "tuple" its.toArray 0)).push (seqObj "list" #[] 0)).get? (s.heap.objs.size + 1) = some (seqObj "list" #[] e1) := Heap.get?_push_of_some _ (Heap.get?_push_of_some _ ho1)
  have keep4 : ∀ b o, s.heap.get? b = some o → ((h2.push (seqObj "tuple" its.toArray 0)).push (seqObj "list" #[] 0)).get? b = some o := fun b o e => Heap.get?_push_of_some _ (Heap.get?_push_of_some _ (keep2 b o e))
  have hk4 : ((h2.push (seqObj "tuple" its.toArray 0)).push (seqObj "list" #[] 0)).get? (s.heap.objs.size + 3) = some (seqObj "list" #[] 0) := by rw [← hs3]; exact Heap.get?_push_size _ rfl
  show wpAny (model X.prog X.w) _ (ksk_rest (s.heap.objs.size + 1) (.ref f) false its.toArray e1 (.ref (h2.push (seqObj "tuple" its.toArray 0)).objs.size)) _ _ { s with heap := (h2.push (seqObj "tuple" its.toArray 0)).push (seqObj "list" #[] 0) }
  rw [hs3]
  generalize (h2.push (seqObj "tuple" its.toArray 0)).push (seqObj "list" #[] 0) = h4 at ho4 keep4 hk4 ⊢
  generalize hL : s.heap.objs.size + 1 = L at ho4 ⊢
  generalize hkS : s.heap.objs.size + 3 = kS at hk4 ⊢
  have nL : H L = none := I.hok.fresh (by omega)
  have nK : H kS = none := I.hok.fresh (by omega)
  have LK : L ≠ kS := by omega
  have fL : f ≠ L := Nat.ne_of_lt (Nat.lt_of_lt_of_le (Heap.lt_size hf) (by omega))
  have fK : f ≠ kS := Nat.ne_of_lt (Nat.lt_of_lt_of_le (Heap.lt_size hf) (by omega))
  have sL : ∀ b o, s.heap.get? b = some o → b ≠ L := fun b o e => Nat.ne_of_lt (Nat.lt_of_lt_of_le (Heap.lt_size e) (by omega))
  have frL : L ∉ frs X.stack := nofr I (by omega)
  have I4 : Inv X pins σ (upd H kS (.lst [])) { s with heap := h4 } := I.laid (t' := s.toks) keep4 (by omega) ⟨Nat.zero_le _, [], 0, .nil, hk4⟩
  have M4 : Mid X H s (upd H kS (.lst [])) { s with heap := h4 } := ⟨rfl, I.bare, Un.laid keep4 (by omega) nK, I4.hok⟩
  unfold ksk_rest
  refine wpAny_bind (wpAny_rule ?_)
  first
    | rw [List.forIn_toArray]
    | (rw [← Array.forIn_toList]; simp only [List.toList_toArray])
    | rw [← Array.forIn_toList]
  refine wpAny_bind (ksk_fold (fun i s' => ∃ (H' : Hp) (Si : Store) (ιi : List Addr) (ka : List D) (vk : List V) (kr : List D), Mid X H s H' s' ∧ Ext H ι H' ιi ∧ StR C X.K H' ιi Si ∧ H' kS = some (.lst vk) ∧ kS ∉ ιi.drop 2 ∧ DVs H' ιi ka vk ∧ mapM' m (ds.drop i) Si = .ok kr S2 ∧ ka ++ kr = ks ∧
    s'.heap.get? L = some (seqObj "list" #[] e1) ∧ H' L = none ∧ s'.heap.get? f = some fobj ∧ H' f = none ∧ ka.length = i) its 0 _
    ⟨_, S, ι, [], [], ks, M4, Ext.new nK, st.hid nK, upd_same, st.free nK, rfl, by rw [List.drop_zero]; exact hm, rfl, ho4, by rw [upd_ne LK]; exact nL, keep4 f _ hf, by rw [upd_ne fK]; exact hfH, rfl⟩ ?_ ?_)
  · rintro j x s' hx ⟨H', Si, ιi, ka, vk, kr, M, e, si, hKS, hKn, rk, hmi, hks, gL, nL', gf, nf, hka⟩
    rw [Nat.zero_add] at *
    have hj : j < its.length := (List.getElem?_eq_some_iff.mp hx).1
    have hjd : j < ds.length := by rw [hlen]; exact hj
    rw [List.drop_eq_getElem_cons hjd] at hmi
    obtain ⟨k, q, S1, hmd, hmq, rfl⟩ := mapM_cons hmi
    have J := M.inv I
    have e0 : Env0 X.prog X.w X.K X.mg X.base X.A.in1.in1 X.stack s' H' := J.env0.in1.in1
    obtain ⟨vx, hvx, dvx⟩ := rd.get (List.getElem?_eq_getElem hjd)
    obtain ⟨u, hu', ru⟩ := rv.get hvx
    rw [hx] at hu'
    cases hu'
    have rdv : RDV H' ιi ds[j] x := ⟨vx, dvx.ext e, ru⟩
    refine wpAny_bind (wpAny_attempt (wpAny_call (codeAny_mono (hrun s' H' ιi Si S1 ds[j] k x (fun v H2 => ∃ ι2, Ext H' ιi H2 ι2 ∧ StR C X.K H2 ι2 S1 ∧ DV H2 ι2 k v) e e0 gf nf si rdv hmd fun v H2 ι2 e2 s2 d2 => ⟨ι2, e2, s2, d2⟩) fun r s'' hq => ?_)))
    cases r with
    | error er =>
      obtain ⟨_, _, _, _, _, _, _, _, _, _, _, _, z⟩ := hq
      exact False.elim z
    | ok fl =>
      cases fl with
      | next => exact False.elim hq
      | brk => exact False.elim hq
      | cont => exact False.elim hq
      | ret u' =>
        obtain ⟨v, H2, os, bare, un, hok, rv', ι2, e2, s2, dk⟩ := hq
        have M2 : Mid X H s H2 s'' := ⟨os.trans M.os, bare, M.un.trans un, hok⟩
        have J2 := M2.inv I
        have hK2 : H2 kS = some (.lst vk) := e2.frame kS _ hKS (fun _ z => by cases z) hKn
        have hKn2 := e2.nin hKS hKn
        have gL2 := un.keep L _ gL nL' frL (by simp)
        have nL2 := un.free L _ gL nL' (by simp)
        have gf2 := un.keep f _ gf nf hff (by simp)
        have nf2 := un.free f _ gf nf (by simp)
        obtain ⟨hz2, kits, kn, rkk, gk⟩ := hok kS _ hK2
        have rk2 := rk.ext e2
        have hkl : ka.length < sizeLine := by omega
        have hkits : kits.length = ka.length := by rw [← rkk.length, rk2.len]
        refine wpAny_bind (listUpdate_at gk rfl ?_ (by rw [List.size_toArray]; omega) (by rw [Array.size_push, List.size_toArray]; omega))
        obtain ⟨c2, hc2⟩ : ∃ c2, (s''.heap.update kS (Obj.mapSeq (·.push u'))).get? kS = some (seqObj "list" (kits ++ [u']).toArray c2) := ⟨_, by rw [show (kits ++ [u']).toArray = kits.toArray.push u' from by simp]; exact get?_update_seq gk (·.push u')⟩
        have sb : ∀ b u, b ≠ kS → s''.heap.get? b = some u → (s''.heap.update kS (Obj.mapSeq (·.push u'))).get? b = some u := fun b u hb q => (Heap.get?_update_ne _ _ _ _ hb).trans q
        have new : ObjOk X.prog X.w (upd H2 kS (.lst (vk ++ [v]))) (s''.heap.update kS (Obj.mapSeq (·.push u'))) kS (.lst (vk ++ [v])) := ⟨by rw [List.length_append, rk2.len]; simp; omega, kits ++ [u'], c2, rkk.append (.cons rv' .nil), hc2⟩
        have mu : Mut (H2 kS) := by rw [hK2]; trivial
        have J3 := J2.write (t' := s''.toks) mu (.inl rfl) sb ⟨_, hc2⟩ new
        refine wpAny_pure ⟨rfl, upd H2 kS (.lst (vk ++ [v])), S1, ι2, ka ++ [k], vk ++ [v], q, ⟨M2.os, M2.bare, M2.un.trans (Un.write mu (.inl rfl) sb ⟨_, hc2⟩), J3.hok⟩, (e.trans e2).side nK, s2.side hKn2 hK2, upd_same, hKn2, (rk2.app (DVs.one dk)).ext0 (Ex0.side hK2), hmq, by rw [List.append_assoc]; exact hks, sb L _ LK gL2, by rw [upd_ne LK]; exact nL2, sb f _ fK gf2, by rw [upd_ne fK]; exact nf2, by rw [List.length_append, hka]; rfl⟩
  · rintro s' ⟨H', Si, ιi, ka, vk, kr, M, e, si, hKS, hKn, rk, hmi, hks, gL, nL', gf, nf, hka⟩
    rw [Nat.zero_add] at *
    rw [List.drop_eq_nil_of_le (by omega)] at hmi
    cases hmi
    rw [List.append_nil] at hks
    subst hks
    have J := M.inv I
    obtain ⟨hz2, kits, kn, rkk, gk⟩ := M.hok kS _ hKS
    have hkits : kits.length = its.length := by rw [← rkk.length, rk.len, hka]
    refine wpAny_bind (listItems_at gk rfl ?_)
    have pk : Par (RDV H' ιi) ka kits := par_rdv rk rkk
    have pd : Par (RDV H' ιi) ds its := par_imp (par_rdv rd rv) fun _ _ _ r => r.ext e
    have pz := par_zip pk pd
    have pz2 : Par (fun (x : D × D) (y : Value × Value) => x.1 ∈ ka ∧ RDV H' ιi x.1 y.1 ∧ RDV H' ιi x.2 y.2) (ka.zip ds) (kits.zip its) := par_imp pz fun a ha b r => ⟨(List.of_mem_zip ha).1, r⟩
    have O : Swo (lt2 (ltv H' ιi)) := swo2 (swo_ltv H' ιi)
    -- the end: whatever the sorted pairs are
    have last : ∀ (st' : SortSt) (R : PySem.Fin → Shared → Prop) (E : Value → Shared → Prop), Srtd (lt2 (ltv H' ιi)) (arrOf st').toList → Stb (lt2 (ltv H' ιi)) (arrOf st').toList (kits.zip its) → failedOf st' = none →
        (∀ s3, EP X pins σ Q (.ref L) s3 → R (.done (.ret .none)) s3) → wpAny (model X.prog X.w) X.A.in1.in1 (ksk_tail L false e1 (.ref kS) st') R E s' := by
      intro st' R E h1 h2 h3 hR
      have eo : (arrOf st').toList = sortBy (lt2 (ltv H' ιi)) (kits.zip its) := stb_unique O h1 (sort_sorted O _) ⟨h2.perm.trans (sort_perm _).symm, fun z => (h2.cls z).trans ((sort_stb O (kits.zip its)).cls z).symm⟩
      have ps := par_sort (lt := fun (a b : D × D) => ltD a.1 b.1) (lt' := lt2 (ltv H' ιi)) (fun a b a' b' r r' => by
        show ltD a.1 a'.1 = ltD (datV H' ιi b.1) (datV H' ιi b'.1)
        rw [datV_eq (allCmp_at hc r.1).1 r.2.1, datV_eq (allCmp_at hc r'.1).1 r'.2.1]) pz2
      have po : Par (RDV H' ιi) ((sortBy (fun (a b : D × D) => ltD a.1 b.1) (ka.zip ds)).map (·.2)) (((arrOf st').map (·.2)).toList) := by
        rw [Array.toList_map, eo]
        exact par_map (fun a b r => r.2.2) ps
      obtain ⟨ys, dy, vy⟩ := par_back po
      have hyl : ys.length ≤ sizeLine := by
        rw [vy.length, ← par_len po, List.length_map, (sort_perm _).length_eq, List.length_zip]
        omega
      have hsz5 : ((arrOf st').map (·.2)).size = ys.length := by rw [vy.length, Array.length_toList]
      unfold ksk_tail
      try dsimp only
      refine wpAny_bind (listUpdate_at gk rfl ?_ (by rw [List.size_toArray]; omega) (Nat.zero_le _))
      refine wpAny_bind (wpAny_letGo ?_)
      obtain ⟨c2, hc2⟩ : ∃ c2, (s'.heap.update kS (Obj.mapSeq fun _ => #[])).get? kS = some (seqObj "list" #[] c2) := ⟨_, get?_update_seq gk (fun _ => #[])⟩
      have sb : ∀ b u, b ≠ kS → s'.heap.get? b = some u → (s'.heap.update kS (Obj.mapSeq fun _ => #[])).get? b = some u := fun b u hb q => (Heap.get?_update_ne _ _ _ _ hb).trans q
      have mu : Mut (H' kS) := by rw [hKS]; trivial
      have new : ObjOk X.prog X.w (upd H' kS (.lst [])) (s'.heap.update kS (Obj.mapSeq fun _ => #[])) kS (.lst []) := ⟨Nat.zero_le _, [], c2, .nil, hc2⟩
      have J3 := J.write (t' := s'.toks) mu (.inl rfl) sb ⟨_, hc2⟩ new
      have U3 := M.un.trans (Un.write (o := .lst []) mu (.inl rfl) sb ⟨_, hc2⟩)
      have gL3 := sb L _ LK gL
      generalize s'.heap.update kS (Obj.mapSeq fun _ => #[]) = h5 at sb hc2 new J3 U3 gL3 ⊢
      show wpAny _ _ _ _ _ { s' with heap := h5 }
      refine wpAny_bind (seqEpoch_at gL3 rfl ?_)
      refine wpAny_bind (listUpdate_at gL3 rfl ?_ (Nat.zero_le _) (by show ((arrOf st').map (·.2)).size ≤ _; rw [hsz5]; omega))
      rw [h3]
      simp only [bne_self_eq_false, Bool.false_eq_true, if_false]
      refine wpAny_pure (hR _ ?_)
      obtain ⟨c6, hc6⟩ : ∃ c6, (h5.update L (Obj.mapSeq fun _ => (arrOf st').map (·.2))).get? L = some (seqObj "list" ((arrOf st').map (·.2)) c6) := ⟨_, get?_update_seq gL3 (fun _ => (arrOf st').map (·.2))⟩
      have sb6 : ∀ b u, b ≠ L → h5.get? b = some u → (h5.update L (Obj.mapSeq fun _ => (arrOf st').map (·.2))).get? b = some u := fun b u hb q => (Heap.get?_update_ne _ _ _ _ hb).trans q
      show EP X pins σ Q (.ref L) { s' with heap := h5.update L (Obj.mapSeq fun _ => (arrOf st').map (·.2)) }
      generalize h5.update L (Obj.mapSeq fun _ => (arrOf st').map (·.2)) = h6 at hc6 sb6 ⊢
      have nL5 : upd H' kS (.lst []) L = none := by rw [upd_ne LK]; exact nL'
      have nHL : ∀ b u, (upd H' kS (.lst [])) b = some u → b ≠ L := fun b u q => ne_of_none q nL5
      have U6 : Un (frs X.stack) [] H (upd (upd H' kS (.lst [])) L (.lst ys)) s.heap h6 := by
        refine ⟨fun b o q n hb hx => sb6 b o (sL b o q) (U3.keep b o q n hb hx), fun b o q n hb hx => ?_, fun b o q n hx => ?_, fun b o q hx => ?_, fun b xs q => ?_, fun b o u q => ?_, fun b ps q => ?_⟩
        · obtain ⟨sl, z⟩ := U3.slot b o q n hb hx
          exact ⟨sl, sb6 b _ (sL b o q) z⟩
        · rw [upd_ne (sL b o q)]; exact U3.free b o q n hx
        · obtain ⟨o', z⟩ := U3.there b o q hx
          exact ⟨o', sb6 b _ (sL b o q) z⟩
        · rw [upd_ne (ne_of_none q nL)]; exact U3.tups b xs q
        · rw [upd_ne (ne_of_none q nL)]; exact U3.frzs b o u q
        · rw [upd_ne (ne_of_none q nL)]; exact U3.tbls b ps q
      have hok6 : HOk X.prog X.w (upd (upd H' kS (.lst [])) L (.lst ys)) h6 := fun b u q => by
        by_cases hb : b = L
        · rw [hb, upd_same] at q
          cases q
          rw [hb]
          exact ⟨hyl, _, c6, vy, by rw [Array.toArray_toList]; exact hc6⟩
        · rw [upd_ne hb] at q
          refine (J3.hok b u q).stay (fun c o hcc z => sb6 c o ?_ z) (fun c z => by rw [upd_ne (nHL c _ z)]; exact z) fun c xs z => by rw [upd_ne (nHL c _ z)]; exact z
          rcases hcc with z' | z'
          · rw [z']; exact hb
          · exact nHL c _ z'
      have M6 : Mid X H s (upd (upd H' kS (.lst [])) L (.lst ys)) { s' with heap := h6 } := ⟨M.os, M.bare, U6, hok6⟩
      have s5 := si.side (u := .lst []) hKn hKS
      have e5 : Ext H ι (upd H' kS (.lst [])) ιi := e.side nK
      have e6 : Ext H ι (upd (upd H' kS (.lst [])) L (.lst ys)) (ιi ++ [L]) := e5.trans (Ext.laid nL5)
      have dy6 : DVs (upd (upd H' kS (.lst [])) L (.lst ys)) (ιi ++ [L]) ((sortBy (fun (a b : D × D) => ltD a.1 b.1) (ka.zip ds)).map (·.2)) ys := (dy.ext0 (Ex0.side hKS)).ext (Ext.laid nL5)
      exact ⟨.ref L, _, M6.inv I, rfl, fin L _ ιi e6 (s5.laid nL5 ⟨ys, upd_same, dy6⟩ rfl) s5.len⟩
    have hR : ∀ s3, EP X pins σ Q (.ref L) s3 → (∃ v, (PySem.Fin.done (.ret .none) : PySem.Fin) = .done (.ret v) ∧ wpAny (model X.prog X.w) X.A.in1 (pure (PySem.Fin.done (.ret (.ref L)))) (fun fin s' => ∃ v, fin = .done (.ret v) ∧ EP X pins σ Q v s') X.xe s3) := fun s3 h => ⟨_, rfl, wpAny_pure ⟨_, rfl, h⟩⟩
    have hzip : (kits.toArray.zip its.toArray).toList = kits.zip its := by simp
    unfold ksk_end
    try dsimp only
    simp only [Bool.false_eq_true, if_false]
    have hsz : its.toArray.size = its.length := by simp
    by_cases h2 : its.toArray.size < 2
    · rw [if_pos h2, if_pos h2]
      refine wpAny_bind (wpAny_pure ?_)
      rw [StateT.run_pure]
      refine wpAny_bind (wpAny_pure ?_)
      try dsimp only
      refine last (SortSt.mk' general' (kits.toArray.zip its.toArray) #[] 7 none) _ _ ?_ ?_ rfl hR
      · show Srtd _ (kits.toArray.zip its.toArray).toList
        rw [hzip]
        match kits, its, hkits, h2 with
        | [], [], _, _ => exact List.Pairwise.nil
        | [a], [b], _, _ => exact List.pairwise_singleton _ _
        | _ :: _ :: _, _ :: _ :: _, _, h2 =>
          exfalso
          rw [List.size_toArray, List.length_cons, List.length_cons] at h2
          omega
      · show Stb _ (kits.toArray.zip its.toArray).toList _
        rw [hzip]
        exact Stb.refl _
    · rw [if_neg h2, if_neg h2]
      obtain ⟨κ, hkind, hT⟩ := data_cmp (A := X.A.in1.in1) J (by rw [in1_units, in1_units]; omega) hc pk (by omega)
      refine wpAny_bind (hkind _ _ ?_)
      have hall : AllL (fun q : Keyed => q.1 ∈ kits) (kits.zip its) := fun q hq => (List.of_mem_zip hq).1
      refine wpAny_bind (wpAny_mono (wpS_sortO (st0 := SortSt.mk' κ (kits.toArray.zip its.toArray) #[] 7 none)
        (Q := fun _ st' => Srtd (lt2 (ltv H' ιi)) (arrOf st').toList ∧ Stb (lt2 (ltv H' ιi)) (arrOf st').toList (kits.zip its) ∧ failedOf st' = none) O hT rfl (by show AllL _ (kits.toArray.zip its.toArray).toList; rw [hzip]; exact hall) rfl rfl fun st' a1 a2 a3 => ⟨a1, (by
          have a2' : Stb _ (arrOf st').toList (kits.toArray.zip its.toArray).toList := a2
          rw [hzip] at a2'
          exact a2'), a3⟩) ?_ fun _ _ e => e)
      rintro ⟨⟨⟩, st'⟩ s'' ⟨rfl, hp1, hp2, hfl⟩
      try dsimp only
      exact last st' _ _ hp1 hp2 hfl hR
end
end NF
end -- NfSortK

section -- NfLam
set_option linter.all false
set_option autoImplicit false
set_option maxRecDepth 100000
set_option maxHeartbeats 2000000
/-! sorted(xs, key=lambda x: ..), sorted(xs, key=f). -/
namespace NF
open PySem PySem.Spec PyProof.Rows L2 SrtO
theorem ext_ne {cls : Value} {a c : Addr} {q : Str} : ExAt cls a ≠ LamX.CodeO c q := fun h => by
  unfold ExAt LamX.CodeO at h
  have h := HO.ext.inj h
  have h0 := congrFun h { objs := Array.replicate (a + 1) { cls := cls, data := .fields #[] } }
  have l : (∃ oe : Obj, ({ objs := Array.replicate (a + 1) { cls := cls, data := .fields #[] } } : Heap).get? a = some oe ∧ Zc cls none oe ∧ ∃ vs, oe.data = .fields vs) := ⟨{ cls := cls, data := .fields #[] }, by simp [Heap.get?], ⟨rfl, rfl⟩, #[], rfl⟩
  rw [h0] at l
  obtain ⟨oc, vs, t, e1, e2, e3⟩ := l
  unfold Heap.get? at e1
  simp only [Array.getElem?_replicate] at e1
  by_cases hc : c < a + 1
  · rw [if_pos hc] at e1
    cases e1
    cases e2
    simp at e3
  · rw [if_neg hc] at e1
    cases e1
section
variable {C : Cfg} {K : PySem.W.Frag}
theorem code_nin {H : Hp} {ι : List Addr} {S : Store} {c : Addr} {q : Str} (s : StR C K H ι S) (h : H c = some (LamX.CodeO c q)) : c ∉ ι.drop 2 := fun hm => by
  obtain ⟨i, hi⟩ := List.mem_iff_getElem?.mp hm
  rw [List.getElem?_drop] at hi
  have hlt : 2 + i < S.length := by rw [← s.len]; exact (List.getElem?_eq_some_iff.mp hi).1
  have hS : S[2 + i]? = some S[2 + i] := List.getElem?_eq_getElem hlt
  have hf : fixed S[2 + i] = false := by
    cases hf' : fixed S[2 + i] with
    | true => have := (s.fix _ _ hS).mp hf'; omega
    | false => rfl
  have ho := s.obj _ _ _ hS hi
  generalize S[2 + i] = o at hS hf ho
  cases o with
  | exc e =>
    have ho : H c = some (ExAt (.ref (C.cad e)) c) := ho
    rw [h] at ho
    exact ext_ne (Option.some.inj ho).symm
  | _ =>
    have := (ho.noCode hf (by intro c h; cases h)).2 
    unfold LamX.CodeO at h
    exact this _ h
end
/-- the lambda runs -/
theorem lam_run {CX : CXT} {P : Program} {w : World} {K : PySem.W.Frag} {mg : Str → Option Value} {base : Heap} {A : Around} {outer : List PySem.Env} {s : Shared} {H : Hp} {f c' : Addr} {q x : Str} {params : Arguments} {body : Expr} {scope : Scope} {pm ctv u : Value} {v : V} {Q : VK} {E : XK} {tb : TE} {k : Nat}
    (S : FnScope [x] [x] scope) (hf : s.heap.get? f = some (PySem.W.kla_obj "<lambda>" q params body scope [] pm c' ctv)) (hco : s.heap.CodeRec (.ref c') q) (hb : BindsTo s (PySem.W.kla_fn "<lambda>" q params body scope [] pm (.ref c') ctv) ⟨[u], []⟩ ([x].zip [u]))
    (hr : Room (k + 1) A) (e0 : Env0 P w K mg base A outer s H) (r : RelV v u) (hbody : PE (cxOf CX P w K mg base [x] q scope f (.ref c') A outer s H E) body tb) (hq : tb (start [x] [v]) H Q) :
    codeAny (model P w) A (.call (.ref f) ⟨[u], []⟩) (CR CX outer P w H s Q E) s := by
  have KX : K.In s.heap := e0.mod.kin.keeps fun b o e => (e0.bs b o e).1
  have lim : s.heap.NoLimit := e0.mod.nolimit.keeps fun b o e => (e0.bs b o e).1
  have rv : Vals [v] [u] := .cons r .nil
  have hkind : ∀ y ∈ [x].zip [u], scope.names.lookup y.1 = some .local ∨ (scope.names.lookup y.1 = some .cell ∧ ((cellsFrom (s.heap.objs.size + 1) scope.names []).lookup y.1).isSome = true) := fun ⟨n, v⟩ hy => by
    rcases S.par n (List.of_mem_zip hy).1 with q | q
    · exact .inl q
    · exact .inr ⟨q, PySem.W.cellsFrom_some _ _ _ (.inl q)⟩
  refine PySem.W.kla_callFunE hr.depth hf rfl S.co S.gen rfl hco (hb _ _ _ _ ?_)
  refine wpAny_newFunctionEnv_cells S.kind hkind fun env he s1 xx => ?_
  subst he
  refine ⟨lim.keeps xx.toInCall.keep, PySem.W.kla_codeExpr ?_⟩
  have I : Inv (cxOf CX P w K mg base [x] q scope f (.ref c') A outer s H E) [] (start [x] [v]) H s1 := inv_start S hr.hd e0 rfl rv xx
  exact wpAny_mono (hbody.run [] s1 _ H Q I hq) (fun u' s' ⟨y, H', J, ry, q⟩ => ⟨y, H', J.os, J.bare, J.base, J.hok, ry, q⟩) fun e s' hs => hs
section
variable {C : Cfg} {X : Cx} {W : WX} {pos : Pos}
theorem Ext.ofN {H H' : Hp} {ι : List Addr} (e : LamX.ExtN H H') : Ext H ι H' ι :=
  ⟨List.prefix_refl _, fun a vs h => e a _ h (fun _ z => by cases z), fun a o h ht _ => e a o h ht, fun a h => .inl h, fun a o u h => e a _ h (fun _ z => by cases z)⟩
theorem StR.ofN {H H' : Hp} {ι : List Addr} {S : Store} {K : PySem.W.Frag} (s : StR C K H ι S) (e : LamX.ExtN H H') (t : LamX.Tabs C.tab H') : StR C K H' ι S := by
  have ex : Ex0 H ι H' ι := (Ext.ofN e).ex0
  refine ⟨s.len, s.pre, fun n o a h1 h2 => ?_, s.nd, s.two, s.fix, t⟩
  have q := s.obj n o a h1 h2
  cases o with
  | rol ds =>
    obtain ⟨vs, hr, hd⟩ := q
    refine ⟨vs, ?_, hd.ext0 ex⟩
    rcases hr with ⟨ob, hr⟩ | hr
    · exact .inl ⟨ob, e _ _ hr (fun _ z => by cases z)⟩
    · exact .inr hr
  | rod kvs => exact q
  | lst ds => obtain ⟨vs, a1, a2⟩ := q; exact ⟨vs, e _ _ a1 (fun _ z => by cases z), a2.ext0 ex⟩
  | dct ds => obtain ⟨vs, a1, a2⟩ := q; exact ⟨vs, e _ _ a1 (fun _ z => by cases z), a2.ext0 ex⟩
  | dck ds => obtain ⟨vs, a1, a2⟩ := q; exact ⟨vs, e _ _ a1 (fun _ z => by cases z), a2.ext0 ex⟩
  | ins c fs => obtain ⟨dx, gs, a1, a2, a3, a4⟩ := q; exact ⟨dx, gs, e _ _ a1 (fun _ z => by cases z), a2, a3, a4.ext0 ex⟩
  | exc c => exact e _ _ q (fun _ z => by unfold ExAt at z; cases z)
  | lck kvs => obtain ⟨ob, ws, a1, a2⟩ := q; exact ⟨ob, ws, e _ _ a1 (fun _ z => by cases z), a2.ext0 ex⟩
/-- what the def that makes the lambda knows of its code -/
def LamOk (C : Cfg) (X : Cx) : Prop := ∃ c P, X.env.code = .ref c ∧ LamX.TabB X.base X.mg c P ∧ (P, X.env.qual ++ "<lambda>") ∈ C.tab ∧ ∀ p ∈ C.tab, p.1 = P → p.2 = X.env.qual ++ "<lambda>"
theorem clo_nil {cells : List (Str × Addr)} : ∀ {names : List (Str × NameKind)} {acc : List (Str × Addr)}, (∀ y ∈ names, y.2 ≠ .free) → cloFrom cells names acc = acc
  | [], _, _ => rfl
  | (n, k) :: r, acc, h => by
    have hk : (k == NameKind.free) = false := by
      have := h (n, k) List.mem_cons_self
      simpa using this
    unfold cloFrom
    rw [hk]
    exact clo_nil fun y hy => h y (List.mem_cons_of_mem _ hy)
theorem me_sortk {x : Str} {a body : Expr} {params : Arguments} {scope : Scope} {lpos kpos p0 : Pos} {ma mb : Env → M NF.D} {k : Nat} (hr : Room (k + 3) X.A) (L : LamOk C X) (hg : Gl X "sorted") (hm : X.mg "sorted" = none)
    (ha : PE X a (tD C X.K W ma)) (hh : headOk a = true) (hdef : defaultsOf params X.env = ([], [])) (S : FnScope [x] [x] scope)
    (hb : ∀ q pm c' ctv u, bindArgs (PySem.W.kla_fn "<lambda>" q params body scope [] pm (.ref c') ctv) ⟨[u], []⟩ = pure [(x, u)])
    (hbody : ∀ (q : Str) (f c' : Addr) (A : Around) (outer : List PySem.Env) (s : Shared) (H : Hp), Room (k + 1) A → PE (cxOf (L2.CX X.prog X.w) X.prog X.w X.K X.mg X.base [x] q scope f (.ref c') A outer s H (fun _ _ _ => False)) body (tD C X.K noW mb)) :
    PE X (.Call (.Name "sorted" p0) [a] [⟨some "key", .Lambda params body scope lpos, kpos⟩] pos) (tD C X.K W fun ρ => NF.bnd (ma ρ) fun x => NF.bnd (lstOf x) fun ds => sortKM (fun d => mb [some d]) ds) := by
  obtain ⟨c, P, hcode, TB, hmem, huniq⟩ := L
  have hes : [a].all headOk = true := by rw [List.all_cons, hh]; rfl
  refine ⟨fun pins s σ H Q I h => ?_⟩
  obtain ⟨ρ, S0, ι, er, st, p⟩ := h
  refine wpAny_Call_Name_kw (ld_blt I hg hm (by rfl) ?_ (by decide +kernel) (by decide +kernel))
  have hA : PA X [a] (tDs C X.K W fun ρ => NF.bnd (ma ρ) fun d => NF.bnd (NF.ret []) fun ds => NF.ret (d :: ds)) := mes_cons ha mes_nil (star_ok hh)
  have args : tDs C X.K W (fun ρ => NF.bnd (ma ρ) fun d => NF.bnd (NF.ret []) fun ds => NF.ret (d :: ds)) σ H (fun xs H1 => ∃ d x S1 ι1, xs = [x] ∧ Ext H ι H1 ι1 ∧ StR C X.K H1 ι1 S1 ∧ DV H1 ι1 d x ∧ Post C X.K W σ DV H1 ι1 (NF.bnd (lstOf d) (fun ds => sortKM (fun d => mb [some d]) ds) S1) Q) := by
    refine ⟨ρ, S0, ι, er, st, ?_⟩
    have e1 : NF.bnd (ma ρ) (fun d => NF.bnd (NF.ret []) fun ds => NF.ret (d :: ds)) S0 = (match ma ρ S0 with | .ok d S1 => .ok [d] S1 | .exn c S1 => .exn c S1 | .bad => .bad) := by
      unfold NF.bnd
      cases ma ρ S0 <;> rfl
    show Post C X.K W σ DVs H ι (NF.bnd (ma ρ) (fun d => NF.bnd (NF.ret []) fun ds => NF.ret (d :: ds)) S0) _
    rw [e1]
    unfold NF.bnd at p
    simp only at p
    cases hma : ma ρ S0 with
    | bad => rw [hma] at p; exact False.elim p
    | exn c S1 => rw [hma] at p; exact p
    | ok d S1 =>
      rw [hma] at p
      intro xs H1 ι1 e s1 r
      obtain ⟨v, q, rfl, dv, rfl⟩ := r
      exact ⟨d, v, S1, ι1, rfl, e, s1, dv, Post.ext (r := NF.bnd (lstOf d) (fun ds => sortKM (fun d => mb [some d]) ds) S1) p e⟩
  refine callWith_kw (thn (hA.run pos pins s σ H _ I args) fun us s1 ⟨vs, H1, I1, r1, d, v, S1, ι1, ev, e1, st1, dv, p1⟩ => ?_) (by rw [star_ok hh]; rfl) (noStar hes).1 rfl rfl
  subst ev
  obtain ⟨u, rfl, ru⟩ := vals1 r1
  obtain ⟨n, l, ds, xs, rfl, rfl, hl, hq, rd, _, p1⟩ := Post.lstOf p1 st1 dv
  obtain rfl : u = Value.ref l := ru
  have hdef' := hdef
  show wpAny _ _ (evalAll ((do let v ← eval (.Lambda params body scope lpos) X.env; standAt _; pure v) :: [])) _ _ _
  have hfree : ∀ y ∈ scope.names, y.2 = .free → ∃ c, X.env.cells.lookup y.1 = some c := fun y hy e => absurd e (S.nofree y hy)
  refine wpAny_evalAll_cons (wpAny_bind (LamX.lam_make2 I1 TB hcode hmem huniq st1.tabs hdef hfree fun f c' pm ctv H2 s2 I2 eN t2 gf nf nfr hc' => wpAny_bind (wpAny_standAt (wpAny_pure (wpAny_evalAll_nil ?_)))))
  rw [clo_nil S.nofree] at gf
  have e2 : Ext H1 ι1 H2 ι1 := Ext.ofN eN
  have st2 := st1.ofN eN t2
  have rd2 := rd.ext e2
  have hq2 : SqL X.K H2 l xs := by
    rcases hq with (z | ⟨o, z⟩) | z
    · exact .inl (.inl (eN _ _ z (fun _ z => by cases z)))
    · exact .inl (.inr ⟨o, eN _ _ z (fun _ z => by cases z)⟩)
    · exact .inr z
  have p2 := Post.ext (r := sortKM (fun d => mb [some d]) ds S1) p1 e2
  have p3 : Post C X.K W σ DV H2 ι1 (NF.bnd (noExn (mapM' (fun d => mb [some d]) ds)) (fun ks => if allCmp ks then NF.new (.lst ((sortBy (fun a b => ltD a.1 b.1) (ks.zip ds)).map (·.2))) else bad) S1) Q := p2
  cases hne : noExn (mapM' (fun d => mb [some d]) ds) S1 with
  | bad => unfold NF.bnd at p3; simp only [hne] at p3; exact False.elim p3
  | exn c S2 => exact absurd hne noExn_no
  | ok ks S2 =>
    rw [bnd_of hne] at p3
    obtain ⟨hc, p4⟩ := Post.ifT (m := NF.new (.lst ((sortBy (fun a b => ltD a.1 b.1) (ks.zip ds)).map (·.2)))) p3
    have hks := noExn_ok hne
    refine run_sortK (m := fun d => mb [some d]) I2 st2 hq2 rd2 gf nf nfr (by have := hr.units; omega) ?_ hks hc fun q H3 ι3 e3 s3 hlen => p4 (.ref q) H3 _ e3 s3 ⟨q, rfl, by rw [← hlen, List.getElem?_append_right (Nat.le_refl _)]; simp⟩
    intro s' H' ι' S' S3 d k' u Q' e' e0 gf' nf' st' rdv hmd hQ
    have hc3 : H' c' = some (LamX.CodeO c' (X.env.qual ++ "<lambda>")) := e'.frame c' _ hc' (fun ps z => LamX.codeO_ne ps z) (code_nin st2 hc')
    obtain ⟨x', dx, rx⟩ := rdv
    refine lam_run S gf' (NdefX.codeO_at e0.hok hc3) (.of_eq (hb _ _ _ _ _)) hr.in1.in1 e0 rx (hbody _ _ _ _ _ _ _ hr.in1.in1) ⟨[some d], S', ι', ⟨rfl, fun i d' hi => ?_⟩, st', ?_⟩
    · match i, hi with
      | 0, hi => cases hi; exact ⟨x', rfl, dx⟩
    · show Post C X.K noW (L2.start [x] [x']) DV H' ι' (mb [some d] S') Q'
      rw [show mb [some d] S' = .ok k' S3 from hmd]
      exact hQ
end
end NF
end -- NfLam

section -- NfChk1
set_option linter.all false
set_option autoImplicit false
set_option maxRecDepth 100000
set_option maxHeartbeats 1000000
/-! Rules by the language's own operators. -/
namespace NF
open PySem PySem.Spec PyProof.Rows L2
def opOf : Bop → Operator
  | .add => .Add | .sub => .Sub | .mul => .Mult | .md => .Mod | .fd => .FloorDiv | .pw => .Pow
def copOf : Cop → CmpOp
  | .eq => .Eq | .ne => .NotEq | .lt => .Lt | .le => .LtE | .gt => .Gt | .ge => .GtE | .inn => .In | .nin => .NotIn
section
variable {C : Cfg} {X : Cx} {W : WX} {pos : Pos} {a b c : Expr} {ma mb mc : Env → M NF.D}
theorem bin_rule : ∀ op : Bop, ∃ r, OpR X (binaryOp (opOf op)) r ∧ BV2 C X.K (binD op) r
  | .add => ⟨_, op_addD, bv_add⟩
  | .sub => ⟨_, op_sub, bv_sub⟩
  | .mul => ⟨_, op_mulD, bv_mul⟩
  | .md => ⟨_, op_mod, bv_md⟩
  | .fd => ⟨_, op_fdiv, bv_fd⟩
  | .pw => ⟨_, op_pow, bv_pw⟩
theorem bv_inn : BV2 C X.K (cmpM .inn) (rInAll C X.K false) := fun W σ H ι S dx dy x y Q s d1 d2 p => inD_post (neg := false) s d1 d2 p
theorem bv_nin : BV2 C X.K (cmpM .nin) (rInAll C X.K true) := fun W σ H ι S dx dy x y Q s d1 d2 p => inD_post (neg := true) s d1 d2 p
theorem cmp_rule (hw : X.w = C.w) (hu : X.A.units + 100 < cLine) : ∀ op : Cop, ∃ r, OpR X (compareOp (copOf op)) r ∧ BV2 C X.K (cmpM op) r
  | .eq => ⟨_, op_eqD (by omega), bv_eq⟩
  | .ne => ⟨_, op_neD (by omega), bv_ne⟩
  | .lt => ⟨rOrd () .Lt (· == .lt), op_ord ord_lt hop_lt (by omega), fun W σ H ι S dx dy x y Q s d1 d2 p => bv_ord (C := C) (X := X) (op := .Lt) (p := (· == .lt)) W σ H ι S dx dy x y Q s d1 d2 p⟩
  | .le => ⟨rOrd () .LtE (· != .gt), op_ord ord_le hop_le (by omega), fun W σ H ι S dx dy x y Q s d1 d2 p => bv_ord (C := C) (X := X) (op := .LtE) (p := (· != .gt)) W σ H ι S dx dy x y Q s d1 d2 p⟩
  | .gt => ⟨rOrd () .Gt (· == .gt), op_ord ord_gt hop_gt (by omega), fun W σ H ι S dx dy x y Q s d1 d2 p => bv_ord (C := C) (X := X) (op := .Gt) (p := (· == .gt)) W σ H ι S dx dy x y Q s d1 d2 p⟩
  | .ge => ⟨rOrd () .GtE (· != .lt), op_ord ord_ge hop_ge (by omega), fun W σ H ι S dx dy x y Q s d1 d2 p => bv_ord (C := C) (X := X) (op := .GtE) (p := (· != .lt)) W σ H ι S dx dy x y Q s d1 d2 p⟩
  | .inn => ⟨_, op_inAll hw hu, bv_inn⟩
  | .nin => ⟨_, op_notInAll hw hu, bv_nin⟩
theorem blM_truth {o : Option Bool} {S S' : Store} {d : D} (h : blM o S = .ok d S') : ∃ b, d = .bl b := by
  cases o with
  | none => cases h
  | some b => cases h; exact ⟨b, rfl⟩
theorem ord_truth {p : Ordering → Bool} {x y : D} {S S' : Store} {d : D} (h : ordM p x y S = .ok d S') : ∃ b, d = .bl b := by
  unfold ordM at h
  split at h
  · cases h; exact ⟨_, rfl⟩
  · cases h
theorem cmp_truths : ∀ op : Cop, Truths (cmpM op) := by
  intro op x y S d S' h
  cases op with
  | eq => exact blM_truth h
  | ne => exact blM_truth h
  | lt => exact ord_truth (p := (· == .lt)) (x := x) (y := y) h
  | le => exact ord_truth (p := (· != .gt)) (x := x) (y := y) h
  | gt => exact ord_truth (p := (· == .gt)) (x := x) (y := y) h
  | ge => exact ord_truth (p := (· != .lt)) (x := x) (y := y) h
  | inn => obtain ⟨b, S1, h1, h2⟩ := bnd_ok (m := inD x y) h; cases h2; exact ⟨_, rfl⟩
  | nin => obtain ⟨b, S1, h1, h2⟩ := bnd_ok (m := inD x y) h; cases h2; exact ⟨_, rfl⟩
theorem truths_bnd {K : PySem.W.Frag} {σ : L2.St} {H : Hp} {ι : List Addr} {m : M D} (t : ∀ S d S', m S = .ok d S' → ∃ b, d = .bl b) {S : Store} {Q : Bool → Hp → Prop} (p : Post C K W σ BV H ι (NF.bnd m truthM S) Q) :
    Post C K W σ DV H ι (m S) fun v H' => ∃ k, v = .bl k ∧ Q k H' := by
  unfold NF.bnd at p
  cases h : m S with
  | ok d S1 =>
    obtain ⟨b, rfl⟩ := t S d S1 h
    rw [h] at p
    exact fun v H1 ι1 e s dv => ⟨b, dv, p b H1 ι1 e s rfl⟩
  | exn c S1 => rw [h] at p; exact p
  | bad => rw [h] at p; exact p
abbrev chainM (o p : Cop) (ma mb mc : Env → M NF.D) : Env → M NF.D := fun ρ => NF.bnd (ma ρ) fun x => NF.bnd (mb ρ) fun y => NF.bnd (cmpM o x y) fun k => match k with
    | .bl true => NF.bnd (mc ρ) fun z => cmpM p y z
    | .bl false => NF.ret (.bl false)
    | _ => bad
theorem chain_read {o p : Cop} {r r' : R2} (hb : BV2 C X.K (cmpM o) r) (hb' : BV2 C X.K (cmpM p) r') {σ : L2.St} {H : Hp} {Q : VK} (h : tD C X.K W (chainM o p ma mb mc) σ H Q) : tChain r r' (tD C X.K W ma) (tD C X.K W mb) (tD C X.K W mc) σ H Q :=
  two (g := fun x y ρ => NF.bnd (cmpM o x y) fun k => match k with
    | .bl true => NF.bnd (mc ρ) fun z => cmpM p y z
    | .bl false => NF.ret (.bl false)
    | _ => bad) h fun ρ S ι dx dy x y H2 er s d1 d2 p1 => by
    refine hb W σ H2 ι S dx dy x y _ s d1 d2 ((p1.bnd (dw := DV)).mono ?_)
    rintro z H3 ⟨dz, S3, ι3, e3, s3, dz3, p3⟩
    cases dz with
    | bl k =>
      rw [DV] at dz3; subst dz3
      refine ⟨k, rfl, ?_⟩
      cases k with
      | false => exact p3.ret s3 rfl
      | true =>
        simp only [if_true]
        refine ⟨ρ, S3, ι3, er.ext e3, s3, (Post.bnd (dw := DV) (f := fun z => cmpM p dy z) p3).mono ?_⟩
        rintro w H4 ⟨dw, S4, ι4, e4, s4, dw4, p4⟩
        exact hb' W σ H4 ι4 S4 dy dw y w Q s4 ((d2.ext e3).ext e4) dw4 p4
    | _ => exact False.elim p3
theorem me_chain {o p : Cop} (hw : X.w = C.w) (hu : X.A.units + 100 < cLine) (ha : PE X a (tD C X.K W ma)) (hb : PE X b (tD C X.K W mb)) (hc : PE X c (tD C X.K W mc)) (hm : lastMarks [copOf o, copOf p] [b, c] = false) :
    PE X (.Compare a [copOf o, copOf p] [b, c] pos) (tD C X.K W (chainM o p ma mb mc)) := by
  obtain ⟨r, h1, h2⟩ := cmp_rule (C := C) hw hu o
  obtain ⟨r', h1', h2'⟩ := cmp_rule (C := C) hw hu p
  exact (pe_chain h1 h1' ha hb hc hm).imp fun σ H Q h => chain_read h2 h2' h
theorem chain_truth {o p : Cop} {ρ : Env} {S S' : Store} {d : D} (h : chainM o p ma mb mc ρ S = .ok d S') : ∃ b, d = .bl b := by
  obtain ⟨x, S1, _, h⟩ := bnd_ok (m := ma ρ) h
  obtain ⟨y, S2, _, h⟩ := bnd_ok (m := mb ρ) h
  obtain ⟨k, S3, _, h⟩ := bnd_ok (m := cmpM o x y) h
  cases k with
  | bl k =>
    cases k with
    | true =>
      obtain ⟨z, S4, _, h⟩ := bnd_ok (m := mc ρ) h
      exact cmp_truths p y z S4 d S' h
    | false => cases h; exact ⟨_, rfl⟩
  | _ => cases h
theorem mt_chain {o p : Cop} (hw : X.w = C.w) (hu : X.A.units + 100 < cLine) (ha : PE X a (tD C X.K W ma)) (hb : PE X b (tD C X.K W mb)) (hc : PE X c (tD C X.K W mc)) (hm : lastMarks [copOf o, copOf p] [b, c] = false) :
    PT X (.Compare a [copOf o, copOf p] [b, c] pos) (tT C X.K W fun ρ => NF.bnd (chainM o p ma mb mc ρ) truthM) := by
  obtain ⟨r, h1, h2⟩ := cmp_rule (C := C) hw hu o
  obtain ⟨r', h1', h2'⟩ := cmp_rule (C := C) hw hu p
  refine (pt_chain h1 h1' ha hb hc hm).imp fun σ H Q ⟨ρ, S, ι, er, s, p0⟩ => chain_read h2 h2' ⟨ρ, S, ι, er, s, ?_⟩
  exact truths_bnd (m := chainM o p ma mb mc ρ) (S := S) (fun S d S' h => chain_truth h) p0
theorem mt_isn {neg : Bool} {j : Nat} {p2 : Pos} (ha : PE X a (tD C X.K W ma)) : PT X (.Compare a [if neg then .IsNot else .Is] [.Constant .none j p2] pos) (tT C X.K W fun ρ => NF.bnd (NF.bnd (ma ρ) fun x => NF.ret (.bl (if neg then !isN x else isN x))) truthM) := by
  have key : ∀ {d : D} {x : V} {H : Hp} {ι : List Addr}, DV H ι d x → isN d = decide (x = .non) := fun {d x H ι} dv => by
    cases d <;> simp only [DV] at dv
    case non => subst dv; rfl
    case bl => subst dv; rfl
    case int => subst dv; rfl
    case str => obtain ⟨rfl, _⟩ := dv; rfl
    case tup => obtain ⟨_, _, rfl, _⟩ := dv; rfl
    case ref => obtain ⟨_, rfl, _⟩ := dv; rfl
  cases neg with
  | false =>
    exact (pt_cmp (pc_isN ha) rfl).imp fun σ H Q ⟨ρ, S, ι, er, s, p⟩ => by
      have p' : Post C X.K W σ BV H ι (NF.bnd (ma ρ) (fun x => NF.ret (isN x)) S) Q := by
        have e : NF.bnd (NF.bnd (ma ρ) fun x => NF.ret (D.bl (if false then !isN x else isN x))) truthM = NF.bnd (ma ρ) (fun x => NF.ret (isN x)) := by rw [bnd_assoc]; rfl
        have p1 : Post C X.K W σ BV H ι (NF.bnd (NF.bnd (ma ρ) fun x => NF.ret (D.bl (if false then !isN x else isN x))) truthM S) Q := p
        rw [e] at p1
        exact p1
      refine ⟨ρ, S, ι, er, s, (p'.bnd (dw := DV)).mono ?_⟩
      rintro x H1 ⟨d, S1, ι1, e1, s1, dv, p1⟩
      exact ⟨_, rfl, by rw [← key dv]; exact p1.ret s1 rfl⟩
  | true =>
    exact (pt_cmp (pc_notN ha) rfl).imp fun σ H Q ⟨ρ, S, ι, er, s, p⟩ => by
      have p' : Post C X.K W σ BV H ι (NF.bnd (ma ρ) (fun x => NF.ret (!isN x)) S) Q := by
        have e : NF.bnd (NF.bnd (ma ρ) fun x => NF.ret (D.bl (if true then !isN x else isN x))) truthM = NF.bnd (ma ρ) (fun x => NF.ret (!isN x)) := by rw [bnd_assoc]; rfl
        have p1 : Post C X.K W σ BV H ι (NF.bnd (NF.bnd (ma ρ) fun x => NF.ret (D.bl (if true then !isN x else isN x))) truthM S) Q := p
        rw [e] at p1
        exact p1
      refine ⟨ρ, S, ι, er, s, (p'.bnd (dw := DV)).mono ?_⟩
      rintro x H1 ⟨d, S1, ι1, e1, s1, dv, p1⟩
      exact ⟨_, rfl, by rw [← key dv]; exact p1.ret s1 rfl⟩
end
end NF
end -- NfChk1

section -- NfKeys
set_option linter.all false
set_option autoImplicit false
set_option maxRecDepth 100000
set_option maxHeartbeats 2000000
/-! list(d.keys()), sorted(d.keys()) of dicts with pairs as keys. -/
namespace NF
open PySem PySem.Spec PyProof.Rows L2 SrtO
/-- the view d.keys() at p -/
def keysO (p d : Addr) : HO := .ext fun h => PySem.W.KdlKeysView h p d
theorem keysO_ok {P : Program} {w : World} {H : Hp} {h : Heap} {p d : Addr} (e : h.get? p = some { cls := .type "dict_keys", data := .fields #[.ref d] }) : ObjOk P w H h p (keysO p d) :=
  ⟨⟨_, e, rfl, rfl⟩, ⟨_, e⟩, fun h1 h2 x k => let ⟨o, ho, r⟩ := x; ⟨o, k o ho, r⟩⟩
section
variable {C : Cfg} {X : Cx} {W : WX} {pos : Pos}
def rKeysT : V → List V → Hp → VK → Prop := fun x xs H Q => ∃ (a : Addr) (kvs : List (List L2.Key × V)), x = .ref a ∧ xs = [] ∧ H a = some (.dT kvs) ∧ ∀ p, H p = none → Q (.ref p) (upd H p (keysO p a))
theorem mt_keysT : MtR X "dict.keys" rKeysT := by
  intro pins s σ H x xs v us Q I rx rxs h
  obtain ⟨a, kvs, rfl, rfl, ha, q⟩ := h
  cases rx
  cases rxs
  obtain ⟨z, hd, xs', rel, o, es, ep, ho, hx, hdat, _⟩ := dt_of I.hok ha
  have hf : H s.heap.objs.size = none := I.hok.fresh (Nat.le_refl _)
  refine call_meetsIn PySem.F.slot_dict_keys ⟨o, ho, hx.1⟩ PySem.F.entry_dict_keys (PySem.F.args_dict_keys_1 _) (PySem.meets_dict_keys_raw a hd) ⟨⟨es, ep, o, ho, hx, hdat⟩, ?_⟩
  exact ⟨.ref s.heap.objs.size, upd H s.heap.objs.size (keysO s.heap.objs.size a), I.laid (t' := s.toks) (fun b u e => Heap.get?_push_of_some _ e) (Nat.le_refl _) (keysO_ok (Heap.get?_push_size _ rfl)), rfl, q _ hf⟩
theorem call_list_keysT (hc : X.calm = true) : CallR X (.type "list") (fun xs H Q => ∃ p d kvs, xs = [V.ref p] ∧ H p = some (keysO p d) ∧ H d = some (.dT kvs) ∧ ∀ q bs, H q = none → IsKeys H kvs bs → Q (.ref q) (upd H q (.lst (bs.map V.ref)))) := by
  intro pins s σ H xs us Q I r h
  obtain ⟨p, d, kvs, rfl, hp, hd, q⟩ := h
  obtain ⟨u, rfl, rx⟩ := r.one
  cases rx
  obtain ⟨hv, _, _⟩ := (show ObjOk X.prog X.w H s.heap p (keysO p d) from I.hok p _ hp)
  obtain ⟨z, hs, ks, pr, o, es, ep, ho, hx, hdt, he, hn⟩ := (show ObjOk X.prog X.w H s.heap d (.dT kvs) from I.hok d _ hd)
  have l1 : es.size = ks.length := size_of_entries he
  have l2 : kvs.length = ks.length := Paired.length pr
  refine PySem.W.kdl_call (PySem.KdlSrc.rawKeys (r := p) (d := d) (es := es) (ep := ep)) (I.ok.hd hc) ⟨hv, o, ho, hx, hdt⟩ (by omega) fun h' tk acc' c' kp e it => ?_
  have ea : acc'.toList = (ks.map fun x => x.2.1).map Value.ref := by
    have hl : acc'.toList.length = ks.length := by rw [Array.length_toList, it.1]; exact l1
    apply List.ext_getElem?
    intro j
    rw [List.getElem?_map, List.getElem?_map]
    cases hj : acc'.toList[j]? with
    | none =>
      have h1 := List.getElem?_eq_none_iff.mp hj
      rw [List.getElem?_eq_none (by omega)]
      rfl
    | some v =>
      obtain ⟨hi, hv⟩ := it.2 j v (by rw [← Array.getElem?_toList]; exact hj)
      have qe := entry_at he j
      rw [Array.getElem?_eq_getElem hi] at qe
      cases hb : ks[j]? with
      | none =>
        rw [hb] at qe
        cases qe
      | some b =>
        rw [hb] at qe
        have e2 : es[j] = entryOfKey (tupleKind (mixKind X.prog X.w)) b := Option.some.inj qe
        rw [hv, e2]
        rfl
  have rv : Vals ((ks.map fun x => x.2.1).map V.ref) acc'.toList := by rw [ea]; exact vals_refs _
  have hz : ((ks.map fun x => x.2.1).map V.ref).length ≤ sizeLine := by rw [List.length_map, List.length_map]; omega
  refine ⟨.ref s.heap.objs.size, _, I.laid (t' := tk) (o := .lst ((ks.map fun x => x.2.1).map V.ref)) kp (Nat.le_refl _) ?_, rfl, q _ _ (I.hok.fresh (Nat.le_refl _)) (isKeys_of pr)⟩
  exact ⟨hz, acc'.toList, c', rv, by rw [Array.toArray_toList]; exact e⟩
/-- the keys as data -/
theorem keys_dvs {H : Hp} {ι : List Addr} : ∀ {kvs : List ((Int × Int) × NF.D)} {ws : List (List L2.Key × V)} {bs : List Addr}, KTs H ι kvs ws → IsKeys H ws bs → DVs H ι (kvs.map fun kv => pairD kv.1) (bs.map V.ref)
  | [], ws, bs, h, g => by
    rw [KTs] at h; subst h
    cases g
    rfl
  | (k, d) :: r, ws, bs, h, g => by
    obtain ⟨v, q, rfl, h1, h2⟩ := h
    cases g with
    | cons a b => exact ⟨_, _, rfl, ⟨_, _, rfl, a, _, _, rfl, rfl, _, _, rfl, rfl, rfl⟩, keys_dvs h2 b⟩
theorem me_listkeys {x : Expr} {ap p0 p1 : Pos} {ma : Env → M NF.D} (hc : X.calm = true) (hg : Gl X "list") (hm : X.mg "list" = none) (ha : PE X x (tD C X.K W ma)) (hh : headOk x = true) (hl : (ap.endLine == p1.line) = true) :
    PE X (.Call (.Name "list" p0) [.Call (.Attribute x "keys" ap) [] [] p1] [] pos) (tD C X.K W fun ρ => NF.bnd (ma ρ) fun z => match z with
      | .ref n => NF.bnd (obj n) fun o => match o with
        | .dct kvs => NF.new (.lst (kvs.map fun kv => pairD kv.1))
        | _ => bad
      | _ => bad) := by
  refine (pe_callTy (call_list_keysT hc) hg hm (by rfl) (pa_cons (pe_bm0 F.plainAttrs_dict F.slot_dict_keys F.type_dict_keys mt_keysT ha (base_ok hh) hl) pa_nil) (by decide +kernel) (by decide +kernel)).imp fun σ H Q h => one (g := fun z _ => match z with
      | .ref n => NF.bnd (obj n) fun o => match o with
        | .dct kvs => NF.new (.lst (kvs.map fun kv => pairD kv.1))
        | _ => bad
      | _ => bad) h fun ρ S ι d v H1 er s dv p => ?_
  cases d with
  | ref n =>
    obtain ⟨a, rfl, hι⟩ := id dv
    obtain ⟨o, ho, p⟩ := Post.obj (n := n) p
    cases o with
    | dct kvs =>
      obtain ⟨ws, h1, h2⟩ := s.look ho hι
      refine ⟨.inr (.inr (.inl ⟨rfl, .inr ⟨ws, h1⟩⟩)), a, ws, rfl, rfl, h1, fun q hq => ?_⟩
      have hqa : a ≠ q := ne_of_none h1 hq
      refine ⟨q, a, ws, rfl, upd_same, by rw [upd_ne hqa]; exact h1, fun r bs hr hk => ?_⟩
      have e1 : Ext H1 ι (upd H1 q (keysO q a)) ι := Ext.new hq
      have s1 := s.hid (u := keysO q a) hq
      exact Post.lst (Post.ext (r := NF.new (.lst (kvs.map fun kv => pairD kv.1)) S) p e1) s1 (keys_dvs (KTs.ext e1 _ _ h2) hk) hr
    | _ => exact False.elim p
  | _ => exact False.elim p
end
end NF
end -- NfKeys

section -- NfKeys2
set_option linter.all false
set_option autoImplicit false
set_option maxRecDepth 100000
set_option maxHeartbeats 2000000
/-! sorted(d.keys()) of a dict with pairs as keys. -/
namespace NF
open PySem PySem.Spec PyProof.Rows L2 SrtO
section
variable {C : Cfg} {X : Cx} {W : WX} {pos : Pos}
theorem cr_sortKeys (hc : X.calm = true) (hu : X.A.units + 64 < cLine) : CallR X (.builtin "sorted") (fun xs H Q => ∃ p d ws kvs ι, xs = [V.ref p] ∧ H p = some (keysO p d) ∧ H d = some (.dT ws) ∧ KTs H ι kvs ws ∧ allCmp (kvs.map fun kv => pairD kv.1) = true ∧
    ∀ ys q, DVs H ι (sortBy ltD (kvs.map fun kv => pairD kv.1)) ys → H q = none → Q (.ref q) (upd H q (.lst ys))) := by
  intro pins s σ H xs us Q I r h
  obtain ⟨p, d, ws, kvs, ι, rfl, hp, hd, kt, hcm, q⟩ := h
  obtain ⟨u, rfl, rx⟩ := r.one
  cases rx
  obtain ⟨hv, _, _⟩ := (show ObjOk X.prog X.w H s.heap p (keysO p d) from I.hok p _ hp)
  obtain ⟨z, hs, ks, pr, o, es, ep, ho, hx, hdt, he, hn⟩ := (show ObjOk X.prog X.w H s.heap d (.dT ws) from I.hok d _ hd)
  have l1 : es.size = ks.length := size_of_entries he
  have l2 : ws.length = ks.length := Paired.length pr
  refine Calls.call_function_entry kind_sorted plain_sorted entry_sorted (args_sorted1 _) ?_
  unfold Builtin.«sorted»
  refine wpAny_bind (m := checkCount "sorted" 1 1 _) (wpAny_pure ?_)
  refine wpAny_bind (PySem.W.kdu_collect (PySem.KdlSrc.rawKeys (r := p) (d := d) (es := es) (ep := ep)) (I.ok.hd hc) ⟨hv, o, ho, hx, hdt⟩ (by omega) fun h1 tk acc kp it => ?_)
  have ea : acc.toList = (ks.map fun x => x.2.1).map Value.ref := by
    have hl : acc.toList.length = ks.length := by rw [Array.length_toList, it.1]; exact l1
    apply List.ext_getElem?
    intro j
    rw [List.getElem?_map, List.getElem?_map]
    cases hj : acc.toList[j]? with
    | none =>
      have h1 := List.getElem?_eq_none_iff.mp hj
      rw [List.getElem?_eq_none (by omega)]
      rfl
    | some v =>
      obtain ⟨hi, hv⟩ := it.2 j v (by rw [← Array.getElem?_toList]; exact hj)
      have qe := entry_at he j
      rw [Array.getElem?_eq_getElem hi] at qe
      cases hb : ks[j]? with
      | none =>
        rw [hb] at qe
        cases qe
      | some b =>
        rw [hb] at qe
        have e2 : es[j] = entryOfKey (tupleKind (mixKind X.prog X.w)) b := Option.some.inj qe
        rw [hv, e2]
        rfl
  have rv : Vals ((ks.map fun x => x.2.1).map V.ref) acc.toList := by rw [ea]; exact vals_refs _
  have rd := keys_dvs kt (isKeys_of pr)
  generalize hits : acc.toList = its at rv
  have pr2 : Par (RDV H ι) (kvs.map fun kv => pairD kv.1) its := par_rdv rd rv
  have hlen := par_len pr2
  have hz' : its.length ≤ sizeLine := by rw [← rv.length, List.length_map, List.length_map]; omega
  refine wpAny_bind (wpAny_newList ?_ hz')
  have I1 : Inv X pins σ H { s with heap := h1, toks := tk } := I.kept kp
  have hoL : (h1.push (seqObj "list" its.toArray 0)).get? h1.objs.size = some (seqObj "list" its.toArray 0) := Heap.get?_push_size _ rfl
  have O := swo_ltv H ι
  show wpAny _ _ _ _ _ { s with heap := h1.push (seqObj "list" its.toArray 0), toks := tk }
  refine wpAny_bind (wpAny_holding (wpAny_call_entry slot_list_sort ⟨_, hoL, rfl⟩ entry_list_sort (list_sort_ord O hoL hz' (fun h2 h' keep => ?_) fun out hs hb => ⟨_, rfl, ?_⟩) (args_list_sort _)))
  · have J : Inv X pins σ H { s with heap := h', toks := tk } := I1.kept (t' := tk) fun c o e => keep c o (Nat.ne_of_lt (Heap.lt_size e)) (Heap.get?_push_of_some _ e)
    exact data_cmp J (by rw [in1_units, in1_units]; omega) hcm pr2 h2
  · refine wpAny_pure ⟨_, rfl, ?_⟩
    have eo : out = sortBy (ltv H ι) its := stb_unique O hs (sort_sorted O _) ⟨hb.perm.trans (sort_perm _).symm, fun z => (hb.cls z).trans ((sort_stb O its).cls z).symm⟩
    have pm := par_imp (R' := fun d u => d ∈ (kvs.map fun kv => pairD kv.1) ∧ RDV H ι d u) pr2 fun a ha b r => ⟨ha, r⟩
    have ps : Par (fun d u => d ∈ (kvs.map fun kv => pairD kv.1) ∧ RDV H ι d u) (sortBy ltD (kvs.map fun kv => pairD kv.1)) out := by
      rw [eo]
      refine par_sort (fun d u d' u' h h' => ?_) pm
      unfold ltv
      rw [datV_eq (allCmp_at hcm h.1).1 h.2, datV_eq (allCmp_at hcm h'.1).1 h'.2]
    obtain ⟨ys, dy, vy⟩ := par_back (par_imp ps fun _ _ _ r => r.2)
    obtain ⟨e6, hat⟩ := sortedHeap_at (out := out.toArray) hoL
    have hH : H h1.objs.size = none := I1.hok.fresh (Nat.le_refl _)
    refine ⟨.ref h1.objs.size, upd H h1.objs.size (.lst ys), ?_, rfl, q ys _ dy hH⟩
    refine I1.laid (t' := tk) (fun b o e => ?_) (Nat.le_refl _) ⟨?_, out, e6, vy, hat⟩
    · rw [sortedHeap_old (Nat.ne_of_lt (Heap.lt_size e)) (by rw [Heap.size_push]; exact Nat.lt_succ_of_lt (Heap.lt_size e))]
      exact Heap.get?_push_of_some _ e
    · rw [vy.length, ← par_len ps, (sort_perm _).length_eq, hlen]
      exact hz'
theorem me_sortkeys {x : Expr} {ap p0 p1 : Pos} {ma : Env → M NF.D} (hc : X.calm = true) (hu : X.A.units + 64 < cLine) (hg : Gl X "sorted") (hm : X.mg "sorted" = none) (ha : PE X x (tD C X.K W ma)) (hh : headOk x = true) (hl : (ap.endLine == p1.line) = true) :
    PE X (.Call (.Name "sorted" p0) [.Call (.Attribute x "keys" ap) [] [] p1] [] pos) (tD C X.K W fun ρ => NF.bnd (ma ρ) fun z => match z with
      | .ref n => NF.bnd (obj n) fun o => match o with
        | .dct kvs => NF.bnd (sortM (kvs.map fun kv => pairD kv.1)) fun es => NF.new (.lst es)
        | _ => bad
      | _ => bad) := by
  refine (pe_callB (cr_sortKeys hc hu) hg hm (by rfl) (pa_cons (pe_bm0 F.plainAttrs_dict F.slot_dict_keys F.type_dict_keys mt_keysT ha (base_ok hh) hl) pa_nil) (by decide +kernel) (by decide +kernel)).imp fun σ H Q h => one (g := fun z _ => match z with
      | .ref n => NF.bnd (obj n) fun o => match o with
        | .dct kvs => NF.bnd (sortM (kvs.map fun kv => pairD kv.1)) fun es => NF.new (.lst es)
        | _ => bad
      | _ => bad) h fun ρ S ι d v H1 er s dv p => ?_
  cases d with
  | ref n =>
    obtain ⟨a, rfl, hι⟩ := id dv
    obtain ⟨o, ho, p⟩ := Post.obj (n := n) p
    cases o with
    | dct kvs =>
      obtain ⟨ws, h1, h2⟩ := s.look ho hι
      refine ⟨.inr (.inr (.inl ⟨rfl, .inr ⟨ws, h1⟩⟩)), a, ws, rfl, rfl, h1, fun q hq => ?_⟩
      have hqa : a ≠ q := ne_of_none h1 hq
      have e1 : Ext H1 ι (upd H1 q (keysO q a)) ι := Ext.new hq
      have s1 := s.hid (u := keysO q a) hq
      have p' : Post C X.K W σ DV H1 ι (NF.bnd (if allCmp (kvs.map fun kv => pairD kv.1) then NF.ret (sortBy ltD (kvs.map fun kv => pairD kv.1)) else bad) (fun es => NF.new (.lst es)) S) Q := p
      unfold NF.bnd at p'
      by_cases hcm : allCmp (kvs.map fun kv => pairD kv.1) = true
      · rw [if_pos hcm] at p'
        exact ⟨q, a, ws, kvs, ι, rfl, upd_same, by rw [upd_ne hqa]; exact h1, KTs.ext e1 _ _ h2, hcm, fun ys r dy hr => Post.lst (Post.ext (r := NF.new (.lst (sortBy ltD (kvs.map fun kv => pairD kv.1))) S) p' e1) s1 dy hr⟩
      · rw [if_neg hcm] at p'
        exact False.elim p'
    | _ => exact False.elim p
  | _ => exact False.elim p
end
end NF
end -- NfKeys2

section -- NfSet1
set_option linter.all false
set_option autoImplicit false
set_option maxRecDepth 100000
set_option maxHeartbeats 2000000
/-! Sets whose members are nested tuples: how one is put in. -/
namespace NF
open PySem PySem.Spec PyProof.Rows L2
/-- the tuple at b is the key k -/
def NK (h : Heap) (k : NestedKey) (b : Addr) : Prop := NestedIs h k (.ref b) ∧ k.depth ≤ 8
theorem NK.mono {h h' : Heap} {k : NestedKey} {b : Addr} (x : NK h k b) (hk : ∀ a o vs n, h.get? a = some o → o.data = .seq vs n → h'.get? a = some o) : NK h' k b := ⟨x.1.at hk _ _, x.2⟩
theorem NK.but {h h' : Heap} {k : NestedKey} {a b : Addr} {o : Obj} {es : Array (Int × Value)} {ep : Nat} {t : SetTable} (x : NK h k b) (ho : h.get? a = some o) (hd : o.data = .set es ep t) (hs : Heap.SameBut a h h') : NK h' k b :=
  x.mono fun c u vs n hc hv => by
    by_cases e : c = a
    · subst e
      rw [ho] at hc
      cases hc
      rw [hd] at hv
      cases hv
    · exact (hs.2 c e).trans hc
section
variable {P : Program} {w : World} {A : Around} {E : Value → Shared → Prop} {s : Shared}
theorem nall_mem {h : Heap} : ∀ {ks : List NestedKey} {vs : List Value}, NestedAll h ks vs → ∀ v ∈ vs, ∃ k ∈ ks, NestedIs h k v
  | [], _, x, v, hv => by cases x; cases hv
  | k :: ks, _, x, v, hv => by
    cases x with
    | cons x1 x2 =>
      rcases List.mem_cons.mp hv with e | hv
      · exact ⟨k, List.mem_cons_self, e ▸ x1⟩
      · obtain ⟨k', m, r⟩ := nall_mem x2 v hv
        exact ⟨k', List.mem_cons_of_mem _ m, r⟩
theorem depth_mem {k : NestedKey} : ∀ {ks : List NestedKey}, k ∈ ks → k.depth ≤ NestedKey.depthAll ks
  | [], h => by cases h
  | j :: ks, h => by
    unfold NestedKey.depthAll
    rcases List.mem_cons.mp h with e | h
    · subst e; omega
    · have := depth_mem h; omega
/-- no class statement is asked of it -/
theorem ofClass_nested : ∀ (n : Nat) (k : NestedKey) (v : Value) (s : Shared) (Q : Bool → Shared → Prop), NestedIs s.heap k v → k.depth ≤ n → Q false s → wpAny (model P w) A (ofAClassStatement n v) Q E s := by
  intro n
  induction n with
  | zero =>
    intro k v s Q x hd h
    cases x with
    | tup => simp only [NestedKey.depth] at hd; omega
    | none => exact wpAny_pure h
    | bool => exact wpAny_pure h
    | int => exact wpAny_pure h
    | text => exact wpAny_pure h
  | succ n ih =>
    intro k v s Q x hd h
    cases x with
    | none => exact wpAny_pure h
    | bool => exact wpAny_pure h
    | int => exact wpAny_pure h
    | text => exact wpAny_pure h
    | @tup b o vs m ks ho hc hdat hall =>
      have hT : s.TypeIs (.ref b) "tuple" := ⟨o, ho, hc⟩
      unfold ofAClassStatement
      refine wpAny_bind (wpAny_typeOf hT ?_)
      dsimp only
      have e : (("tuple" : String) == "tuple") = true := by decide
      simp only [e, if_true, Bool.not_true, Bool.false_eq_true, if_false]
      try refine wpAny_bind (wpAny_pure ?_)
      try simp only [Bool.not_true, Bool.false_eq_true, if_false]
      refine wpAny_bind (m := seqItems? (.ref b)) (wpAny_seqItems ho hdat ?_)
      dsimp only
      refine wpAny_bind ?_
      show wpAny _ _ (forIn vs _ _) _ _ s
      rw [← Array.forIn_toList]
      refine wpAny_forIn_list _ (fun rest r s' => r.1 = Option.none ∧ s' = s ∧ ∀ v ∈ rest, v ∈ vs.toList) _ ?_ ?_ _ _ ⟨rfl, rfl, fun v hv => hv⟩
      · rintro v rest r s' ⟨hr, rfl, hin⟩
        obtain ⟨k', hm, hk'⟩ := nall_mem hall v (hin v List.mem_cons_self)
        have hdk := depth_mem hm
        simp only [NestedKey.depth] at hd
        refine wpAny_bind (ih k' v s' _ hk' (by omega) ?_)
        simp only [Bool.false_eq_true, if_false]
        exact wpAny_pure ⟨rfl, rfl, fun u hu => hin u (List.mem_cons_of_mem _ hu)⟩
      · rintro ⟨r1, r2⟩ s' ⟨hr, rfl, _⟩
        simp only at hr
        subst hr
        exact wpAny_pure h
/-- whether its hash is by value: some answer -/
theorem byValue_nested : ∀ (n : Nat) (k : NestedKey) (v : Value) (s : Shared) (Q : Bool → Shared → Prop), NestedIs s.heap k v → k.depth ≤ n → (∀ b, Q b s) → wpAny (model P w) A (hashByValue n v) Q E s := by
  intro n
  induction n with
  | zero =>
    intro k v s Q x hd h
    cases x with
    | tup => simp only [NestedKey.depth] at hd; omega
    | none => exact wpAny_pure (h _)
    | bool => exact wpAny_pure (h _)
    | int => exact wpAny_pure (h _)
    | text => exact wpAny_pure (h _)
  | succ n ih =>
    intro k v s Q x hd h
    cases x with
    | none => exact wpAny_pure (h _)
    | bool => exact wpAny_pure (h _)
    | int => exact wpAny_pure (h _)
    | text => exact wpAny_pure (h _)
    | @tup b o vs m ks ho hc hdat hall =>
      have hT : s.TypeIs (.ref b) "tuple" := ⟨o, ho, hc⟩
      unfold hashByValue
      refine wpAny_bind (wpAny_specialOf hT F.slot_tuple_hash.lookup ?_)
      show wpAny _ _ (seqItems? (.ref b) >>= _) _ _ s
      refine wpAny_bind (wpAny_seqItems ho hdat ?_)
      refine wpAny_bind ?_
      show wpAny _ _ (forIn vs _ _) _ _ s
      rw [← Array.forIn_toList]
      refine wpAny_forIn_list _ (fun rest r s' => s' = s ∧ ∀ v ∈ rest, v ∈ vs.toList) _ ?_ ?_ _ _ ⟨rfl, fun v hv => hv⟩
      · rintro v rest r s' ⟨rfl, hin⟩
        obtain ⟨k', hm, hk'⟩ := nall_mem hall v (hin v List.mem_cons_self)
        have hdk := depth_mem hm
        simp only [NestedKey.depth] at hd
        refine wpAny_bind (ih k' v s' _ hk' (by omega) fun b => ?_)
        cases b with
        | false =>
          simp only [Bool.not_false, if_true]
          exact wpAny_pure (wpAny_pure (h _))
        | true =>
          simp only [Bool.not_true, Bool.false_eq_true, if_false]
          exact wpAny_pure ⟨rfl, fun u hu => hin u (List.mem_cons_of_mem _ hu)⟩
      · rintro ⟨r1, r2⟩ s' ⟨rfl, _⟩
        cases r1 with
        | none => exact wpAny_pure (h _)
        | some b => exact wpAny_pure (h _)
/-- the search shows nothing -/
theorem unseen_nested {k : NestedKey} {b : Addr} {Q : Bool → Shared → Prop} (hk : NK s.heap k b) {ys : List Value} (hy : ∀ y ∈ ys, ∃ k' c, y = Value.ref c ∧ NK s.heap k' c) (h : Q false s) : wpAny (model P w) A (searchCouldBeSeen (.ref b) ys) Q E s := by
  unfold searchCouldBeSeen
  refine wpAny_bind ?_
  refine wpAny_forIn_list _ (fun rest r s' => r.1 = Option.none ∧ s' = s ∧ ∀ y ∈ rest, ∃ k' c, y = Value.ref c ∧ NK s.heap k' c) _ ?_ ?_ _ _ ⟨rfl, rfl, hy⟩
  · rintro v rest r s' ⟨hr, rfl, hall⟩
    obtain ⟨k', c, rfl, hc⟩ := hall v List.mem_cons_self
    have more : ∀ y ∈ rest, ∃ k' c, y = Value.ref c ∧ NK s'.heap k' c := fun u hu => hall u (List.mem_cons_of_mem _ hu)
    dsimp only
    by_cases hv : (b == c || (carriedByValue (.ref b) && carriedByValue (.ref c))) = true
    · exact wp_if_pos hv (wpAny_pure ⟨rfl, rfl, more⟩)
    · refine wp_if_neg hv ?_
      refine wpAny_bind (quiet_key k _ 8 s' hk.1 hk.2 _ _ _ ?_)
      simp only [Bool.not_true, Bool.false_eq_true, if_false]
      refine wpAny_bind (quiet_key k' _ 8 s' hc.1 hc.2 _ _ _ ?_)
      simp only [Bool.not_true, Bool.false_eq_true, if_false]
      refine wpAny_bind (ofClass_nested 8 k _ s' _ hk.1 hk.2 ?_)
      simp only [Bool.false_eq_true, if_false]
      refine wpAny_bind (ofClass_nested 8 k' _ s' _ hc.1 hc.2 ?_)
      simp only [Bool.false_eq_true, if_false]
      exact wpAny_pure ⟨rfl, rfl, more⟩
  · rintro ⟨r1, r2⟩ s' ⟨hr, rfl, _⟩
    simp only at hr
    subst hr
    exact wpAny_pure h
end
end NF
end -- NfSet1

section -- NfSet2
set_option linter.all false
set_option autoImplicit false
set_option maxRecDepth 100000
set_option maxHeartbeats 2000000
namespace NF
open PySem PySem.Spec PyProof.Rows L2
def rowK (w : World) (p : NestedKey × Addr) : Int × Value := (p.1.hash w, .ref p.2)
/-- the set of nested tuples at a: its rows L by their places -/
structure SetN (w : World) (h : Heap) (a : Addr) (L : List (NestedKey × Addr)) (es : Array (Int × Value)) (ep : Nat) (t : SetTable) : Prop where
  ob : ∃ o, h.get? a = some o ∧ o.ExactSet ∧ o.data = .set es ep t
  rows : es.toList = L.map (rowK w)
  tab : TabOk t (L.map fun p => p.1.hash w)
  nd : (L.map (·.1)).Nodup
  is : ∀ p ∈ L, NK h p.1 p.2
  led : w.params.followText "set-order" = true ∨ t.led = true
  room : L.length * 5 < t.mask * 3
  few : L.length < 64
theorem rows_len {w : World} {L : List (NestedKey × Addr)} {es : Array (Int × Value)} (h : es.toList = L.map (rowK w)) : es.size = L.length := by
  rw [← Array.length_toList, h, List.length_map]
theorem rows_at {w : World} {L : List (NestedKey × Addr)} {es : Array (Int × Value)} (h : es.toList = L.map (rowK w)) {i : Nat} {p : NestedKey × Addr} (e : L[i]? = some p) : es[i]? = some (rowK w p) := by
  rw [← Array.getElem?_toList, h, List.getElem?_map, e] <;> rfl
theorem fits_of {t : SetTable} {n : Nat} (hz : t.place.size = n) (hd : t.dummies = #[]) (hm : n ≤ t.mask) : t.fits n = true := by
  unfold SetTable.fits SetTable.fill
  rw [hd, Bool.and_eq_true, beq_iff_eq, decide_eq_true_eq]
  exact ⟨hz, by rw [hz]; exact hm⟩
section
variable {P : Program} {w : World} {A : Around} {E : Value → Shared → Prop} {s : Shared} {a : Addr} {L : List (NestedKey × Addr)} {es : Array (Int × Value)} {ep : Nat} {t : SetTable}
theorem SetN.size (R : SetN w s.heap a L es ep t) : es.size = L.length := rows_len R.rows
theorem SetN.psz (R : SetN w s.heap a L es ep t) : t.place.size = L.length := by have := R.tab.sz; rwa [List.length_map] at this
theorem SetN.fits (R : SetN w s.heap a L es ep t) : t.fits es.size = true := fits_of (by rw [R.psz, R.size]) R.tab.dm (by rw [R.size]; have := R.room; omega)
/-- where the c-th step of the way from a hash's start stands -/
abbrev stepP (m : Nat) (h : Int) (c : Nat) : SetTable.Probe := nth m (runAt m (SetTable.bits h % (m + 1)) (SetTable.bits h)) c
theorem nth_dummy (m : Nat) : ∀ (n : Nat) (p : SetTable.Probe), p.dummy = none → (nth m p n).dummy = none
  | 0, p, h => h
  | n + 1, p, h => nth_dummy m n (adv m p) (by unfold adv; split <;> exact h)
/-- the search for k, from the c-th step on -/
theorem find_from (R : SetN w s.heap a L es ep t) {x : Addr} {k : NestedKey} (hx : NK s.heap k x) (hu : A.units + 8 < cLine) {Z : Nat} (hZf : Z < 10 * SetTable.turns t.mask)
    (hZ : way t.mask (k.hash w) Z ∉ t.place.toList) (hZb : ∀ c, c < Z → way t.mask (k.hash w) c ∈ t.place.toList) {Q : SetFound → Shared → Prop}
    (hin : k ∈ L.map (·.1) → Q (.there none) s) (hout : k ∉ L.map (·.1) → Q (.free (way t.mask (k.hash w) Z) false) s) :
    ∀ (f c : Nat) (stand : Option SetTable.Probe), stand.getD (t.probeStart (k.hash w)) = stepP t.mask (k.hash w) c → c ≤ Z → Z - c < f →
      (∀ (i : Nat) (p : NestedKey × Addr), L[i]? = some p → p.1 = k → ∃ c', c ≤ c' ∧ c' < Z ∧ t.place.toList[i]? = some (way t.mask (k.hash w) c')) →
      wpAny (model P w) A (setSearchFrom a (.ref x) (k.hash w) true f stand) Q E s := by
  intro f
  induction f with
  | zero => intro c stand _ _ hf _; omega
  | succ f ih =>
    intro c stand hst hc hf hre
    obtain ⟨o, ho, hex, hd⟩ := R.ob
    have gw : ¬ t.gaveWay = true := by
      unfold SetTable.gaveWay
      rw [mask_odd R.tab.mok]
      decide
    have shift : ∀ q, (nth t.mask (stepP t.mask (k.hash w) c) q) = stepP t.mask (k.hash w) (c + q) := fun q => (nth_add t.mask c _ q).symm
    have hj : ∀ q, (nth t.mask (stepP t.mask (k.hash w) c) q).j = way t.mask (k.hash w) (c + q) := fun q => congrArg SetTable.Probe.j (shift q)
    have hlook : ∀ (i : Nat) (p : NestedKey × Addr), L[i]? = some p → (fun i => (es[i]?.map (·.1)).getD 0) i = p.1.hash w := fun i p hp => by
      show (es[i]?.map (·.1)).getD 0 = _
      rw [rows_at R.rows hp] <;> rfl
    have spec := go_spec t R.tab.ris R.tab.dm (fun i => (es[i]?.map (·.1)).getD 0) (k.hash w) (10 * SetTable.turns t.mask) (Z - c) (stepP t.mask (k.hash w) c) (nth_dummy _ _ _ rfl) (by omega)
      (fun q hq => by rw [hj]; exact hZb (c + q) (by omega)) (by rw [hj, show c + (Z - c) = Z by omega]; exact hZ)
    rw [setSearchFrom_succ]
    refine wpAny_bind (wpAny_setState_of ho hd R.fits ?_)
    dsimp only
    refine wp_if_neg gw ?_
    try refine wpAny_bind (wpAny_pure ?_)
    rcases spec with ⟨q, i, hq, hi, hh, hno, hpr⟩ | ⟨hno, hpr⟩
    · have hpr' : t.probe (fun i => (es[i]?.map (·.1)).getD 0) (k.hash w) (stand.getD (t.probeStart (k.hash w))) = some (.candidate (way t.mask (k.hash w) (c + q)) i (stepP t.mask (k.hash w) (c + (q + 1)))) := by
        rw [hst, ← hj, ← shift]
        exact hpr
      rw [hpr']
      dsimp only
      rw [hj] at hi
      have hil : i < L.length := by
        have h1 : i < t.place.toList.length := (List.getElem?_eq_some_iff.mp hi).1
        rw [Array.length_toList, R.psz] at h1
        exact h1
      obtain ⟨p, hp⟩ : ∃ p, L[i]? = some p := ⟨_, List.getElem?_eq_getElem hil⟩
      have hmem : p ∈ L := List.mem_of_getElem? hp
      have hsl : t.slot (way t.mask (k.hash w) (c + q)) = .live i := slot_live R.tab.ris hi
      have go : wpAny (model P w) A (searchRest a (.ref x) (k.hash w) true f es t (way t.mask (k.hash w) (c + q)) i (stepP t.mask (k.hash w) (c + (q + 1)))) Q E s := by
        unfold searchRest
        rw [rows_at R.rows hp]
        dsimp only [rowK]
        refine wpAny_bind (wpAny_holding (eqAt_key p.1 k A s _ _ (R.is p hmem).1 hx.1 (by have := hx.2; omega) P w E _ ?_))
        refine wpAny_bind (wpAny_setState_of ho hd R.fits ?_)
        dsimp only
        rw [← NestedKey.decide_eq]
        by_cases hkk : p.1 = k
        · refine wp_if_pos (by simp [hkk]) ?_
          exact wpAny_pure (hin (List.mem_map.mpr ⟨p, hmem, hkk⟩))
        · refine wp_if_neg (by simp [hkk]) ?_
          try refine wpAny_bind (wpAny_pure ?_)
          rw [sameMem]
          dsimp only
          simp only [if_true, hsl, rows_at R.rows hp]
          dsimp only [rowK]
          refine wpAny_bind (wpAny_isSame_ref_self (wpAny_bind (wpAny_pure ?_)))
          simp only [if_true]
          refine wp_if_neg (by simp [hkk]) ?_
          refine ih (c + (q + 1)) _ rfl (by omega) (by omega) fun i0 p0 h0 hk0 => ?_
          obtain ⟨c', a1, a2, a3⟩ := hre i0 p0 h0 hk0
          refine ⟨c', ?_, a2, a3⟩
          rcases Nat.lt_trichotomy c' (c + q) with z | z | z
          · exact absurd ((hlook i0 p0 h0).trans (by rw [hk0])) (hno (c' - c) i0 (by omega) (by rw [hj, show c + (c' - c) = c' by omega]; exact a3))
          · subst z
            have s0 := slot_live R.tab.ris a3
            rw [hsl] at s0
            cases s0
            rw [hp] at h0
            cases h0
            exact absurd hk0 hkk
          · omega
      by_cases hl : t.led = true
      · refine wp_if_neg (by simp [hl]) ?_
        try refine wpAny_bind (wpAny_pure ?_)
        exact go
      · refine wp_if_pos (by simp [hl]) ?_
        refine wpAny_bind (unseen_nested hx (fun y hy => ?_) ?_)
        · obtain ⟨e, he, ee⟩ := List.mem_map.mp hy
          have he1 : e ∈ es ∧ e.1 = k.hash w := by simpa using he
          have he2 : e ∈ es.toList := by simpa using he1.1
          rw [R.rows] at he2
          obtain ⟨p2, hp2, e2⟩ := List.mem_map.mp he2
          exact ⟨p2.1, p2.2, by rw [← ee, ← e2] <;> rfl, R.is p2 hp2⟩
        · refine wp_if_neg (by decide) ?_
          try refine wpAny_bind (wpAny_pure ?_)
          exact go
    · have hpr' : t.probe (fun i => (es[i]?.map (·.1)).getD 0) (k.hash w) (stand.getD (t.probeStart (k.hash w))) = some (.empty (way t.mask (k.hash w) Z) none) := by
        have e2 : way t.mask (k.hash w) Z = (nth t.mask (stepP t.mask (k.hash w) c) (Z - c)).j := by rw [hj, show c + (Z - c) = Z by omega]
        rw [hst, e2]
        exact hpr
      rw [hpr']
      dsimp only
      refine wpAny_pure (hout fun hm => ?_)
      obtain ⟨p0, h0, hk0⟩ := List.mem_map.mp hm
      obtain ⟨i0, hi0⟩ := List.mem_iff_getElem?.mp h0
      obtain ⟨c', a1, a2, a3⟩ := hre i0 p0 hi0 hk0
      exact hno (c' - c) i0 (by omega) (by rw [hj, show c + (c' - c) = c' by omega]; exact a3) ((hlook i0 p0 hi0).trans (by rw [hk0]))
theorem find_at (R : SetN w s.heap a L es ep t) {x : Addr} {k : NestedKey} (hx : NK s.heap k x) (hu : A.units + 8 < cLine) {Q : SetFound → Shared → Prop} (hin : k ∈ L.map (·.1) → Q (.there none) s)
    (hout : ∀ Z, k ∉ L.map (·.1) → way t.mask (k.hash w) Z ∉ t.place.toList → (∀ c, c < Z → way t.mask (k.hash w) c ∈ t.place.toList) → Q (.free (way t.mask (k.hash w) Z) false) s) :
    wpAny (model P w) A (setSearch a (.ref x) (k.hash w) true) Q E s := by
  obtain ⟨Z, hZf, hZ, hZb⟩ := R.tab.first (by rw [List.length_map]; have := R.room; omega) (k.hash w)
  have hbig : 10 * SetTable.turns t.mask ≤ 1420 := by
    unfold SetTable.turns
    rcases R.tab.mok with e | e | e <;> omega
  unfold setSearch
  refine find_from R hx hu hZf hZ hZb hin (fun hn => hout Z hn hZ hZb) 100000 0 none rfl (Nat.zero_le _) (by omega) fun i p hp hk => ?_
  have hi : (L.map fun p => p.1.hash w)[i]? = some (k.hash w) := by rw [List.getElem?_map, hp, ← hk] <;> rfl
  have hil : i < t.place.toList.length := by
    rw [Array.length_toList, R.psz]
    exact (List.getElem?_eq_some_iff.mp hp).1
  have hj := List.getElem?_eq_getElem hil
  obtain ⟨c, hc, e⟩ := R.tab.before hZ hi hj
  exact ⟨c, Nat.zero_le _, hc, by rw [hj, e]⟩
/-- the rows in another order -/
theorem rows_order {order : Array Nat} (hr : es.toList = L.map (rowK w)) (hp : order.toList.Perm (List.range L.length)) :
    ∃ L2 : List (NestedKey × Addr), (order.filterMap (es[·]?)).toList = L2.map (rowK w) ∧ L2.Perm L ∧ (L2.map fun p => p.1.hash w) = order.toList.map fun i => (es.map (·.1)).getD i 0 := by
  have hes : ∀ i : Nat, es[i]? = (L[i]?).map (rowK w) := fun i => by rw [← Array.getElem?_toList, hr, List.getElem?_map]
  have all : ∀ l : List Nat, (∀ i ∈ l, i < L.length) → l.filterMap (fun i => es[i]?) = (l.filterMap fun i => L[i]?).map (rowK w) ∧ ((l.filterMap fun i => L[i]?).map fun p => p.1.hash w) = l.map fun i => (es.map (·.1)).getD i 0 := by
    intro l
    induction l with
    | nil => intro _; exact ⟨rfl, rfl⟩
    | cons i l ih =>
      intro hl
      have hi := hl i List.mem_cons_self
      obtain ⟨e1, e2⟩ := ih fun j hj => hl j (List.mem_cons_of_mem _ hj)
      have hL : L[i]? = some L[i] := List.getElem?_eq_getElem hi
      refine ⟨?_, ?_⟩
      · rw [List.filterMap_cons_some (by rw [hes, hL]; rfl), List.filterMap_cons_some hL, List.map_cons, e1]
      · rw [List.filterMap_cons_some hL, List.map_cons, List.map_cons, e2]
        have : (es.map (·.1)).getD i 0 = (L[i]).1.hash w := by
          have e5 : (es.map (·.1))[i]? = some ((L[i]).1.hash w) := by rw [Array.getElem?_map, hes, hL] <;> rfl
          simp [Array.getD_eq_getD_getElem?, e5]
        rw [this]
  obtain ⟨e1, e2⟩ := all order.toList fun i hi => List.mem_range.mp (hp.mem_iff.mp hi)
  refine ⟨order.toList.filterMap fun i => L[i]?, by first | (rw [Array.toList_filterMap]; exact e1) | simpa using e1, ?_, e2⟩
  have h1 := hp.filterMap fun i => L[i]?
  have key : ∀ n, n ≤ L.length → (List.range n).filterMap (fun i => L[i]?) = L.take n := by
    intro n
    induction n with
    | zero => intro _; rfl
    | succ n ih =>
      intro hn
      have hL : L[n]? = some L[n] := List.getElem?_eq_getElem hn
      rw [List.range_succ, List.filterMap_append, ih (Nat.le_of_lt hn), List.take_succ, hL, List.filterMap_cons_some hL] <;> rfl
  rw [key L.length (Nat.le_refl _), List.take_length] at h1
  exact h1
/-- the table laid anew, larger -/
theorem lay_anew {o : Obj} (ho : s.heap.get? a = some o) (hex : o.ExactSet) (hd : o.data = .set es ep t) (hrows : es.toList = L.map (rowK w)) (hsz : t.place.size = es.size) (hdm : t.dummies = #[]) (hfl : es.size ≤ t.mask)
    (nd : (L.map (·.1)).Nodup) (is : ∀ p ∈ L, NK s.heap p.1 p.2) (ld : w.params.followText "set-order" = true ∨ t.led = true) (few : L.length < 64) {wanted M : Nat}
    (hw : SetTable.sizeAbove wanted - 1 = M) (hM : MaskOk M) (hw2 : SetTable.sizeAbove wanted ≤ 128) (hn : L.length * 5 < M * 3) {Q : Unit → Shared → Prop}
    (hQ : ∀ h' L' es' ep' t', Heap.SameBut a s.heap h' → SetN w h' a L' es' ep' t' → L'.Perm L → Q () { s with heap := h' }) : wpAny (model P w) A (setRelay a wanted) Q E s := by
  have hsl := rows_len hrows
  obtain ⟨t', order, e, hp, T, em, el, _, _⟩ := relaid_ok t (hs := es.map (·.1)) (wanted := wanted) hw hM (by rw [Array.size_map, hsl]; omega)
  rw [Array.size_map, hsl] at hp
  obtain ⟨L2, r1, r2, r3⟩ := rows_order hrows hp
  rw [← r3] at T
  have hs2 : (order.filterMap (es[·]?)).size = es.size := by rw [rows_len r1, r2.length_eq, hsl]
  rw [setRelay_eq]
  refine wpAny_bind (wpAny_setState_of ho hd (fits_of hsz hdm hfl) ?_)
  dsimp only
  refine wp_if_neg (by rw [sizeLine_eq]; omega) ?_
  try refine wpAny_bind (wpAny_pure ?_)
  rw [e]
  dsimp only
  refine wpAny_bind ?_
  refine wp_if_neg (by rw [hs2]; simp) ?_
  try refine wpAny_bind (wpAny_pure ?_)
  refine wpAny_pure ?_
  dsimp only
  refine wpAny_storeSet_of ho hd ?_ (by rw [hs2, hsl, sizeLine_eq]; omega)
  have sb : Heap.SameBut a s.heap (s.heap.update a (Obj.putSet (order.filterMap (es[·]?)) t')) := Heap.SameBut.update ..
  exact hQ _ L2 _ (ep + 1) t' sb ⟨⟨_, store_at ho hd, ⟨hex.1, hex.2.1, hex.2.2⟩, rfl⟩, r1, T, (r2.map (·.1)).nodup_iff.mpr nd, fun p hpm => (is p (r2.mem_iff.mp hpm)).but ho hd sb, by rw [el]; exact ld, by rw [r2.length_eq, em]; exact hn, by rw [r2.length_eq]; exact few⟩ r2
/-- one is put in -/
theorem put_in (R : SetN w s.heap a L es ep t) {x : Addr} {k : NestedKey} (hx : NK s.heap k x) (hu : A.units + 8 < cLine) (hfew : L.length + 1 < 64) {Q : Bool → Shared → Prop}
    (hQ : ∀ b h' L' es' ep' t', Heap.SameBut a s.heap h' → SetN w h' a L' es' ep' t' → (k ∈ L.map (·.1) → L' = L) → (k ∉ L.map (·.1) → L'.Perm ((k, x) :: L)) → Q b { s with heap := h' }) :
    wpAny (model P w) A (setAddHashed a (.ref x) (k.hash w)) Q E s := by
  obtain ⟨o, ho, hex, hd⟩ := R.ob
  have hsl := R.size
  have hroom := R.room
  unfold setAddHashed
  refine wpAny_holding ?_
  rw [show (100000 : Nat) = 99999 + 1 from rfl, setAddHashedIn_succ]
  refine wpAny_bind (wpAny_setState_of ho hd R.fits ?_)
  dsimp only
  refine wp_if_neg (by simp [byScan, Value.scannable]) ?_
  try refine wpAny_bind (wpAny_pure ?_)
  refine wpAny_bind (find_at R hx hu (fun hm => ?_) fun Z hm hZ hb => ?_)
  · dsimp only
    exact wpAny_pure (hQ false s.heap L es ep t (Heap.SameBut.refl a s.heap) R (fun _ => rfl) fun z => absurd hm z)
  · dsimp only
    refine wpAny_bind (wpAny_setState_of ho hd R.fits ?_)
    dsimp only
    obtain ⟨q1, q2, q3, q4, q5, _, _, _, q9⟩ := R.tab.put hZ hb
    generalize hpt : t.put (way t.mask (k.hash w) Z) = pt at q1 q3 q4 q5 q9 ⊢
    obtain ⟨t1, p⟩ := pt
    dsimp only at q1 q3 q4 q5 q9 ⊢
    subst q1
    have hrow : (SetTable.insertAt es (SetTable.below t.place (way t.mask (k.hash w) Z)) (k.hash w, Value.ref x)).toList = (L.take (SetTable.below t.place (way t.mask (k.hash w) Z)) ++ (k, x) :: L.drop (SetTable.below t.place (way t.mask (k.hash w) Z))).map (rowK w) := by
      rw [SetTable.toList_insertAt, R.rows, List.map_append, List.map_cons, List.map_take, List.map_drop] <;> rfl
    generalize SetTable.below t.place (way t.mask (k.hash w) Z) = p at q2 q3 hrow ⊢
    have pm := put_perm L p (k, x)
    have hhs : (L.take p ++ (k, x) :: L.drop p).map (fun p => p.1.hash w) = (L.map fun p => p.1.hash w).take p ++ k.hash w :: (L.map fun p => p.1.hash w).drop p := by
      rw [List.map_append, List.map_cons, List.map_take, List.map_drop]
    rw [← hhs] at q3
    generalize L.take p ++ (k, x) :: L.drop p = L1 at pm q3 hrow
    have hlen : L1.length = L.length + 1 := pm.length_eq
    have nd1 : (L1.map (·.1)).Nodup := (pm.map (·.1)).nodup_iff.mpr (by rw [List.map_cons]; exact List.nodup_cons.mpr ⟨hm, R.nd⟩)
    have hes : (SetTable.insertAt es p (k.hash w, Value.ref x)).size = L.length + 1 := by rw [rows_len hrow, hlen]
    generalize SetTable.insertAt es p (k.hash w, Value.ref x) = es1 at hrow hes ⊢
    have tail : ∀ t2 : SetTable, t2.place = t1.place → t2.mask = t1.mask → t2.dummies = t1.dummies → t2.led = t1.led → wpAny (model P w) A (do
        storeSet a es1 t2
        if !false && t2.tooFull then setRelay a (SetTable.grown (es.size + 1))
        return true) Q E s := fun t2 e1 e2 e3 e4 => by
      have T2 : TabOk t2 (L1.map fun p => p.1.hash w) := ⟨by rw [e1]; exact q3.ris, by rw [e3]; exact q3.dm, by rw [e1]; exact q3.sz, by rw [e2]; exact q3.mok, by rw [e1, e2]; exact q3.bd, by rw [e1, e2]; exact q3.reach⟩
      have hfill : t2.fill = L.length + 1 := by
        have : t2.fill = t1.fill := by unfold SetTable.fill; rw [e1, e3]
        rw [this, q9, List.length_map]
      have hmask : t2.mask = t.mask := by rw [e2, q4]
      refine wpAny_bind (wpAny_storeSet_of ho hd ?_ (by rw [hes, sizeLine_eq]; omega))
      have sb : Heap.SameBut a s.heap (s.heap.update a (Obj.putSet es1 t2)) := Heap.SameBut.update ..
      have ho1 := store_at (es' := es1) (t' := t2) ho hd
      generalize s.heap.update a (Obj.putSet es1 t2) = h1 at sb ho1 ⊢
      have is1 : ∀ p ∈ L1, NK h1 p.1 p.2 := fun p hp => by
        rcases List.mem_cons.mp (pm.mem_iff.mp hp) with e | hp
        · rw [e]; exact hx.but ho hd sb
        · exact (R.is p hp).but ho hd sb
      have ld1 : w.params.followText "set-order" = true ∨ t2.led = true := by rw [e4, q5]; exact R.led
      by_cases hf : t2.tooFull = true
      · first
          | (refine wpAny_bind ?_; refine wp_if_pos (by simp [hf]) ?_)
          | (refine wp_if_pos (by simp [hf]) ?_; refine wpAny_bind ?_)
        have hfull : (L.length + 1) * 5 ≥ t2.mask * 3 := by
          have h := hf
          unfold SetTable.tooFull at h
          rw [decide_eq_true_eq, hfill] at h
          exact h
        rw [hsl]
        have hsz1 : t2.place.size = es1.size := by
          have h := T2.sz
          rw [List.length_map, hlen] at h
          rw [h, hes]
        have hcase : (t.mask = 7 ∧ L.length = 4) ∨ (t.mask = 31 ∧ L.length = 18) := by
          rw [hmask] at hfull
          rcases R.tab.mok with e | e | e
          · left; rw [e] at hfull hroom; exact ⟨e, by omega⟩
          · right; rw [e] at hfull hroom; exact ⟨e, by omega⟩
          · exfalso; rw [e] at hfull; omega
        have go : ∀ M, SetTable.sizeAbove (SetTable.grown (L.length + 1)) - 1 = M → MaskOk M → SetTable.sizeAbove (SetTable.grown (L.length + 1)) ≤ 128 → (L.length + 1) * 5 < M * 3 →
            wpAny (model P w) A (setRelay a (SetTable.grown (L.length + 1))) (fun _ s' => wpAny (model P w) A (pure true) Q E s') E { s with heap := h1 } := fun M g1 g2 g3 g4 =>
          lay_anew (s := { s with heap := h1 }) ho1 ⟨hex.1, hex.2.1, hex.2.2⟩ rfl hrow hsz1 T2.dm (by rw [hes, hmask]; rcases hcase with ⟨e, e2⟩ | ⟨e, e2⟩ <;> omega) nd1 is1 ld1 (by rw [hlen]; exact hfew) g1 g2 g3 (by rw [hlen]; exact g4)
            fun h2 L2 es2 ep2 t2 sb2 R2 pm2 => wpAny_pure (hQ true h2 L2 es2 ep2 t2 (sb.trans sb2) R2 (fun z => absurd z hm) fun _ => pm2.trans pm)
        rcases hcase with ⟨_, e2⟩ | ⟨_, e2⟩
        · exact go 31 (by rw [e2, size_20]) (.inr (.inl rfl)) (by rw [e2, size_20]; decide) (by omega)
        · exact go 127 (by rw [e2, size_76]) (.inr (.inr rfl)) (by rw [e2, size_76]; decide) (by omega)
      · first
          | refine wp_if_neg (by simp [hf]) ?_
          | (refine wpAny_bind ?_; refine wp_if_neg (by simp [hf]) ?_; refine wpAny_pure ?_)
        refine wpAny_pure (hQ true h1 L1 es1 (ep + 1) t2 sb ⟨⟨_, ho1, ⟨hex.1, hex.2.1, hex.2.2⟩, rfl⟩, hrow, T2, nd1, is1, ld1, ?_, by rw [hlen]; exact hfew⟩ (fun z => absurd z hm) fun _ => pm)
        have h := hf
        unfold SetTable.tooFull at h
        rw [decide_eq_true_eq, hfill] at h
        rw [hlen]
        omega
    by_cases hp1 : t1.plain = true
    · first
        | (refine wpAny_bind ?_; refine wp_if_pos hp1 ?_; refine byValue_nested 8 k _ s _ hx.1 hx.2 fun b => ?_)
        | refine wp_if_pos hp1 (wpAny_bind (byValue_nested 8 k _ s _ hx.1 hx.2 fun b => ?_))
      cases b with
      | true => exact tail t1 rfl rfl rfl rfl
      | false => exact tail { t1 with plain := false } rfl rfl rfl rfl
    · first
        | (refine wpAny_bind ?_; refine wp_if_neg hp1 ?_; refine wpAny_pure ?_)
        | refine wp_if_neg hp1 (wpAny_bind (wpAny_pure ?_))
      exact tail t1 rfl rfl rfl rfl
end
end NF
end -- NfSet2

section -- NfSet3
set_option linter.all false
set_option autoImplicit false
set_option maxRecDepth 100000
set_option maxHeartbeats 3200000
/-! set(a list), whatever is told of the members. -/
namespace NF
open PySem PySem.Spec PyProof.Rows L2
section
variable {P : Program} {w : World} {A : Around} {E : Value → Shared → Prop} {s : Shared}
/-- what is known of the growing set: told of the heap ahead, of the set's place, of how many are in -/
structure Grow (P : Program) (w : World) (A : Around) (E : Value → Shared → Prop) (h0 : Heap) (S n : Nat) (Pv : Nat → Value → Prop) (J : Nat → Heap → Prop) : Prop where
  stay : ∀ i h h', J i h → (∀ o, h.get? S = some o → h'.get? S = some o) → (∀ b o, h0.get? b = some o → h.get? b = some o → h'.get? b = some o) → J i h'
  add : ∀ i v (s : Shared) (Q : Bool → Shared → Prop), i < n → Pv i v → J i s.heap → (∀ b h' tk, s.toks ≤ tk → Heap.SameBut S s.heap h' → J (i + 1) h' → Q b { s with heap := h', toks := tk }) → wpAny (model P w) A (setAdd S v) Q E s
theorem grow_loop {I : Addr} {fp wr : List Addr} {G : Array GenState → Array GenState → Prop} {n : Nat} {Pv : Nat → Value → Prop} {St : Nat → Shared → Prop} {R : Result → Shared → Prop} {J : Nat → Heap → Prop} {h0 : Heap}
    (W : WalksS P w A.in1 I fp wr G n Pv St) (S : Addr) (hSf : S ∉ fp) (hJ : Grow P w A.in1 (fun e s' => R (.error e) s') h0 S n Pv J) (hS0 : h0.get? S = none) (hw0 : ∀ b ∈ wr, h0.get? b = none) :
    ∀ (k i : Nat) (s : Shared), n - i = k → i ≤ n → St i s → J i s.heap → (∀ s', Moved (S :: wr) G s s' → J n s'.heap → R (.ok (.ret .none)) s') →
      codeAny (model P w) A (.builtin "set.update.loop" ⟨[.ref S, .ref I], []⟩) R s := by
  have hSw : S ∉ wr := fun h => hSf (W.sub _ h)
  have hsub : ∀ b ∈ wr, b ∈ S :: wr := fun b hb => List.mem_cons_of_mem _ hb
  have moveJ : ∀ {i : Nat} {s s' : Shared}, Moved wr G s s' → J i s.heap → J i s'.heap := fun hm j =>
    hJ.stay _ _ _ j (fun o e => hm.heap S o hSw e) fun b o e0 e => hm.heap b o (fun hb => by rw [hw0 b hb] at e0; cases e0) e
  intro k
  induction k with
  | zero =>
    intro i s hk hi hst j hR
    obtain rfl : i = n := by omega
    refine codeAny_builtin F.entry_set_update_loop ?_
    rw [Around.under_plainId F.plain_set_update_loop _]
    show wpAny _ A.in1 (pyNext (.ref I) >>= _) _ _ s
    refine wpAny_bind (W.done s _ _ hst fun s' hm => ?_)
    exact wpAny_pure (hR s' (hm.mono hsub) (moveJ hm j))
  | succ k ih =>
    intro i s hk hi hst j hR
    have hlt : i < n := by omega
    refine codeAny_builtin F.entry_set_update_loop ?_
    rw [Around.under_plainId F.plain_set_update_loop _]
    show wpAny _ A.in1 (pyNext (.ref I) >>= _) _ _ s
    refine wpAny_bind (W.item i s _ _ hlt hst fun v s' hP hst' hm => ?_)
    show wpAny _ A.in1 (holding [v] (setAdd S v) >>= _) _ _ s'
    refine wpAny_bind (wpAny_holding (hJ.add i v s' _ hlt hP (moveJ hm j) fun b h' tk hle sb j' => ?_))
    refine wpAny_pure ⟨plainId_quiet F.plain_set_update_loop _, ih (i + 1) _ (by omega) hlt (W.frame _ s' _ _ hst' hle fun b hb o e => ?_) j' fun s'' hm'' j'' => ?_⟩
    · rw [sb.2 b (fun h : b = S => hSf (by rw [← h]; exact hb))]; exact e
    · refine hR s'' (Moved.trans W.gtrans ((hm.mono hsub).then_heap hle fun b o hb e => ?_) hm'') j''
      rw [sb.2 b (fun h : b = S => hb (by rw [h]; exact List.mem_cons_self))]; exact e
/-- a new set -/
def setOb (w : World) : Obj := { cls := .type "set", dict := none, data := .set #[] 0 (.fresh 0 0 (!w.params.followText "set-order")) }
theorem call_set_grow {l : Addr} {items : Array Value} {J : Nat → Heap → Prop} {Q : Value → Shared → Prop} (hh : A.handled = none) (hl : s.heap.IsList l items)
    (hJ : ∀ A', A'.units ≤ A.units + 3 → Grow P w A' (fun e s' => E e s') s.heap s.heap.objs.size items.size (fun i v => items[i]? = some v) J)
    (h0 : ∀ h', h'.get? s.heap.objs.size = some (setOb w) → (∀ b o, s.heap.get? b = some o → h'.get? b = some o) → J 0 h')
    (h : ∀ (h' : Heap) (tk : Nat), J items.size h' → (∀ b o, s.heap.get? b = some o → h'.get? b = some o) → Q (.ref s.heap.objs.size) { s with heap := h', toks := tk }) :
    wpAny (model P w) A (call (.type "set") [.ref l]) Q E s := by
  obtain ⟨c, tl, hmro⟩ := F.called_set.mro
  have hmade := F.called_set.made
  have hsub := F.called_set.sub
  refine wpAny_call (codeAny_of_tree ?_)
  show wpAny _ _ (callAny (.type "set") _) _ _ _
  refine wpAny_pure ⟨Code.quiet_builtin _ (by decide +kernel), codeAny_builtin F.entry_type_call ?_⟩
  rw [Around.under_plain (weight_type_call_type "set" [.ref l] []) rfl]
  have h1 := F.called_set.notType
  have h2 := F.called_set.canCreate
  have hct := F.typeCall_set_1 (.ref l)
  repeat (any_goals (first | assumption | wp_step))
  refine codeAny_mono (code_set_led1 (.ref l) (E := E) (Q₁ := fun obj s₁ => obj = .ref s.heap.objs.size ∧ s₁ = { s with heap := s.heap.push (setOb w) }) ⟨rfl, rfl⟩) fun r s₁ hr => ?_
  cases r with
  | error e => exact hr
  | ok fl =>
    cases fl with
    | ret obj =>
      obtain ⟨rfl, rfl⟩ := hr
      have hS : (s.heap.push (setOb w)).get? s.heap.objs.size = some (setOb w) := Heap.get?_push_size _ rfl
      have hT : Shared.TypeIs { s with heap := s.heap.push (setOb w) } (.ref s.heap.objs.size) "set" := ⟨_, hS, rfl⟩
      have hli := F.called_set.init.lookup
      have hbi := F.called_set.init.bind (.ref s.heap.objs.size)
      repeat (any_goals (first | assumption | wp_step))
      refine codeAny_mono (codeAny_call_builtin (R := wants (fun r s₂ => r = .none ∧ ∃ h' tk, s₂ = { s with heap := h', toks := tk } ∧ J items.size h' ∧ (∀ b o, s.heap.get? b = some o → h'.get? b = some o)) E) F.called_set.init.plain F.entry_set_init (check_set_init_1 hT ?_)) fun r₂ s₂ hr₂ => ?_
      · obtain ⟨ol, hol, hcl, nl, hdl⟩ := hl
        obtain ⟨ocls, odict, odata, oslots⟩ := ol
        simp only at hcl hdl
        subst hcl; subst hdl
        have hol' : (s.heap.push (setOb w)).get? l = some { cls := .type "list", dict := odict, data := .seq items nl, slots := oslots } := Heap.get?_push_of_some _ hol
        have hsls := F.sub_list_set
        have hslf := F.sub_list_frozenset
        have hne : (Value.type "list" == Value.type "dict") = false := by decide
        have hl1 : (s.heap.push (setOb w)).IsList l items := ⟨_, hol', rfl, nl, rfl⟩
        unfold Builtin.«set.__init__» noKeywords Builtin.Frozenset.updateFrom
        generalize hPI : pyIter = PI
        wp_walk
        subst hPI
        refine wpAny_pyIter_list hl1 ?_
        refine wpAny_bind (wpAny_runValue ?_)
        have hlS : l < s.heap.objs.size := Heap.lt_size hol
        have hh3 : A.in1.in1.in1.handled = none := by simp [hh]
        have hz1 : (s.heap.push (setOb w)).objs.size = s.heap.objs.size + 1 := Heap.size_push ..
        have hneI : l ≠ (s.heap.push (setOb w)).objs.size := by rw [hz1]; exact Nat.ne_of_lt (Nat.lt_succ_of_lt hlS)
        have hSf : s.heap.objs.size ∉ [(s.heap.push (setOb w)).objs.size, l] := by
          rw [hz1]
          simp only [List.mem_cons, List.not_mem_nil, or_false, not_or]
          exact ⟨Nat.ne_of_lt (Nat.lt_succ_self _), Nat.ne_of_gt hlS⟩
        have none_of : ∀ b, s.heap.objs.size ≤ b → s.heap.get? b = none := fun b hb => by
          cases q : s.heap.get? b with
          | none => rfl
          | some o => exact absurd (Nat.lt_of_lt_of_le (Heap.lt_size q) hb) (Nat.lt_irrefl _)
        have keep1 : ∀ b o, s.heap.get? b = some o → ((s.heap.push (setOb w)).push { cls := .type "list_iterator", data := .fields #[.ref l, .int 0 0] }).get? b = some o := fun b o e => Heap.get?_push_of_some _ (Heap.get?_push_of_some _ e)
        refine grow_loop (J := J) (h0 := s.heap) ((Walks.list hh3 _ l hneI items).toS) s.heap.objs.size hSf ?gr (none_of _ (Nat.le_refl _)) (fun b hb => none_of b (by
            rw [List.mem_singleton.mp hb, hz1]
            exact Nat.le_succ _)) (items.size - 0) 0 _ (by omega) (Nat.zero_le _) ⟨⟨_, Heap.get?_push_size _ rfl, rfl, rfl⟩, (hl1.push _)⟩ ?hS0 ?hR
        case gr => exact ⟨(hJ A (Nat.le_add_right _ _)).stay, (hJ _ (by simp only [in1_units]; omega)).add⟩
        case hS0 => exact h0 _ (Heap.get?_push_of_some _ hS) keep1
        case hR =>
          intro s' hm j
          obtain ⟨h', g2, d', tk', os'⟩ := s'
          have eg : g2 = s.gens := hm.gens
          have ed : d' = s.drawn := hm.drawn
          have eo : os' = s.os := hm.os
          subst eg; subst ed; subst eo
          show wpAny _ _ _ _ _ _
          refine wpAny_pure ?_
          show wpAny _ _ (PySem.ret Value.none) _ _ _
          refine wpAny_pure ⟨rfl, h', tk', rfl, j, fun b o e => hm.heap b o (fun hb => ?_) (keep1 b o e)⟩
          have hlt := Heap.lt_size e
          rw [hz1] at hb
          simp only [List.mem_cons, List.not_mem_nil, or_false] at hb
          rcases hb with z | z
          · exact Nat.ne_of_lt hlt z
          · exact Nat.ne_of_lt (Nat.lt_succ_of_lt hlt) z
      · cases r₂ with
        | error e => exact hr₂
        | ok fl₂ =>
          cases fl₂ with
          | ret r =>
            obtain ⟨rfl, h', tk, rfl, j, hk'⟩ := hr₂
            repeat (any_goals (first | assumption | wp_step))
            exact h _ _ j hk'
          | _ => exact hr₂.elim
    | _ => exact hr.elim
end
end NF
end -- NfSet3

section -- NfSet4
set_option linter.all false
set_option autoImplicit false
set_option maxRecDepth 100000
set_option maxHeartbeats 2000000
/-! Sets whose members are whole numbers and texts: how one is put in. -/
namespace NF
open PySem PySem.Spec PyProof.Rows L2
theorem perm_map_ex {α β : Type} {f : α → β} {l m : List β} (h : l.Perm m) : ∀ L : List α, m = L.map f → ∃ L' : List α, L'.Perm L ∧ l = L'.map f := by
  induction h with
  | nil => intro L e; exact ⟨[], by cases L with | nil => exact .nil | cons => simp at e, rfl⟩
  | cons x h ih =>
    intro L e
    cases L with
    | nil => simp at e
    | cons y L =>
      simp only [List.map_cons, List.cons.injEq] at e
      obtain ⟨rfl, e⟩ := e
      obtain ⟨L', p, q⟩ := ih L e
      exact ⟨y :: L', p.cons y, by rw [q, List.map_cons]⟩
  | swap x y l =>
    intro L e
    match L, e with
    | a :: b :: L, e =>
      simp only [List.map_cons, List.cons.injEq] at e
      obtain ⟨rfl, rfl, rfl⟩ := e
      exact ⟨b :: a :: L, .swap a b L, rfl⟩
    | [_], e => simp at e
    | [], e => simp at e
  | trans h1 h2 ih1 ih2 =>
    intro L e
    obtain ⟨L2, p2, e2⟩ := ih2 L e
    obtain ⟨L1, p1, e1⟩ := ih1 L2 e2
    exact ⟨L1, p1.trans p2, e1⟩
section
variable {P : Program} {w : World} {A : Around} {E : Value → Shared → Prop} {s : Shared} {a : Addr}
def rowF (P : Program) (w : World) (p : L2.Key × Value) : Int × Value := ((mixKind P w).hash p.1, p.2)
structure SetF (P : Program) (w : World) (h : Heap) (a : Addr) (L : List (L2.Key × Value)) : Prop where
  ex : ∃ o es ep t, h.get? a = some o ∧ o.ExactSet ∧ o.data = .set es ep t ∧ es.toList = L.map (rowF P w) ∧ es.size < scanBound ∧ t.fits es.size = true ∧ Ris t.place.toList ∧ (w.params.followText "set-order" = true ∨ t.led = true)
  nd : (L.map (·.1)).Nodup
  is : ∀ p ∈ L, (mixKind P w).is p.1 p.2 = true ∧ p.2.scannable = true
theorem setf_elems {L : List (L2.Key × Value)} (h : ∀ p ∈ L, (mixKind P w).is p.1 p.2 = true ∧ p.2.scannable = true) : ElemsOf (mixKind P w) (L.map (rowF P w)) := fun e he => by
  obtain ⟨p, hp, rfl⟩ := List.mem_map.mp he
  exact ⟨⟨p.1, (h p hp).1, rfl⟩, (h p hp).2⟩
theorem give_way (b : Bool) {s₁ : Shared} {Q' : Unit → Shared → Prop} (q : Q' () s₁) : wpAny (model P w) A (match b with | true => rule "set.scan.the-table-gave-way" | false => pure ()) Q' E s₁ := by
  cases b <;> first | exact wpAny_pure q | exact wpAny_rule q
theorem put_flat {L : List (L2.Key × Value)} {k : L2.Key} {x : Value} (R : SetF P w s.heap a L) (hkey : (mixKind P w).is k x = true) (hsc : x.scannable = true) (room : L.length + 1 < scanBound) {Q : Bool → Shared → Prop}
    (hQ : ∀ b h' L', Heap.SameBut a s.heap h' → SetF P w h' a L' → (k ∈ L.map (·.1) → L' = L) → (k ∉ L.map (·.1) → L'.Perm ((k, x) :: L)) → Q b { s with heap := h' }) :
    wpAny (model P w) A (setAddHashed a x ((mixKind P w).hash k)) Q E s := by
  obtain ⟨⟨o, es, ep, t, ho, hex, hd, hrow, hb, hf, hr, hl⟩, nd, is⟩ := R
  have hel : ElemsOf (mixKind P w) es.toList := by rw [hrow]; exact setf_elems is
  have hsz : es.size = L.length := by rw [← Array.length_toList, hrow, List.length_map]
  unfold setAddHashed setAddHashedIn
  refine wpAny_holding (wpAny_bind (wpAny_setState_of ho hd hf ?_))
  dsimp only
  rw [byScan_of hsc hb hel]
  simp only [↓reduceIte]
  unfold setAddByScan
  refine wpAny_bind ?_
  refine wpAny_bind (wpAny_rule ?_)
  refine wpAny_bind (wpAny_setScan_of hkey ho hd hf hel ?_)
  cases hfi : List.findIdx? (fun e => (mixKind P w).is k e.2) es.toList with
  | some j =>
    dsimp only
    obtain ⟨hj, pj, _⟩ := List.findIdx?_eq_some_iff_getElem.mp hfi
    have hm : es.toList[j] ∈ L.map (rowF P w) := hrow ▸ List.getElem_mem hj
    obtain ⟨p, hp, ep'⟩ := List.mem_map.mp hm
    have hk : p.1 = k := (mixKind P w).inj p.2 _ _ (is p hp).1 (by rw [← ep'] at pj; exact pj)
    have hin : k ∈ L.map (·.1) := List.mem_map.mpr ⟨p, hp, hk⟩
    exact wpAny_pure (wpAny_pure (hQ _ s.heap L (Heap.SameBut.refl a s.heap) ⟨⟨o, es, ep, t, ho, hex, hd, hrow, hb, hf, hr, hl⟩, nd, is⟩ (fun _ => rfl) fun z => absurd hin z))
  | none =>
    dsimp only
    have hnk : k ∉ L.map (·.1) := fun z => by
      obtain ⟨p, hp, rfl⟩ := List.mem_map.mp z
      have c := List.findIdx?_eq_none_iff.mp hfi (rowF P w p) (by rw [hrow]; exact List.mem_map.mpr ⟨p, hp, rfl⟩)
      rw [show (mixKind P w).is p.1 (rowF P w p).2 = true from (is p hp).1] at c
      cases c
    have pm := layNew_perm t es ((mixKind P w).hash k) x
    have hf1 := layNew_fits t es ((mixKind P w).hash k) x
    have hr1 := layNew_ris t es ((mixKind P w).hash k) x hr
    have hl1 := layNew_led t es ((mixKind P w).hash k) x
    generalize layNew t es ((mixKind P w).hash k) x = Z at pm hf1 hr1 hl1 ⊢
    obtain ⟨es1, t1, wasDummy, gave⟩ := Z
    dsimp only at pm hf1 hr1 hl1 ⊢
    rw [Array.toList_push] at pm
    have pc : es1.toList.Perm (((k, x) :: L).map (rowF P w)) := by
      rw [List.map_cons, ← hrow]
      exact pm.trans (List.perm_append_singleton _ _)
    obtain ⟨L1, p1, e1⟩ := perm_map_ex pc _ rfl
    have is1 : ∀ p ∈ L1, (mixKind P w).is p.1 p.2 = true ∧ p.2.scannable = true := fun p hp => by
      rcases List.mem_cons.mp (p1.mem_iff.mp hp) with z | z
      · rw [z]; exact ⟨hkey, hsc⟩
      · exact is p z
    have nd1 : (L1.map (·.1)).Nodup := (p1.map (·.1)).nodup_iff.mpr (by rw [List.map_cons]; exact List.nodup_cons.mpr ⟨hnk, nd⟩)
    have hz1 : es1.size = L.length + 1 := by rw [← Array.length_toList, e1, List.length_map, p1.length_eq, List.length_cons]
    have hb1 : es1.size < scanBound := by rw [hz1]; exact room
    have hled : w.params.followText "set-order" = true ∨ t1.led = true := hl.imp id fun z => by rw [hl1]; exact z
    have fin : ∀ (h' : Heap) (t2 : SetTable) (es2 : Array (Int × Value)) (ep2 : Nat), es2.toList.Perm es1.toList → h'.get? a = some { o with data := .set es2 ep2 t2 } → t2.fits es2.size = true → Ris t2.place.toList → (w.params.followText "set-order" = true ∨ t2.led = true) → Heap.SameBut a s.heap h' → Q true { s with heap := h' } := fun h' t2 es2 ep2 p2 g f r l sb => by
      rw [e1] at p2
      obtain ⟨L2, q2, e2⟩ := perm_map_ex p2 _ rfl
      have hz2 : es2.size = es1.size := by rw [← Array.length_toList, p2.length_eq, List.length_map, hz1, p1.length_eq, List.length_cons]
      exact hQ true h' L2 sb ⟨⟨_, es2, ep2, t2, g, ⟨hex.1, hex.2.1, hex.2.2⟩, rfl, e2, by rw [hz2]; exact hb1, f, r, l⟩, (q2.map (·.1)).nodup_iff.mpr nd1, fun p hp => is1 p (q2.mem_iff.mp hp)⟩ (fun z => absurd z hnk) fun _ => q2.trans p1
    have tail : ∀ t2 : SetTable, t2.fits es1.size = true → Ris t2.place.toList → (w.params.followText "set-order" = true ∨ t2.led = true) → ∀ {g : Bool → Sem Unit}, (∀ (b : Bool) (s₁ : Shared) (Q' : Unit → Shared → Prop), Q' () s₁ → wpAny (model P w) A (g b) Q' E s₁) →
        ∀ {R : Option Bool → Shared → Prop}, (∀ s', Q true s' → R (some true) s') → wpAny (model P w) A (do
        storeSet a es1 t2
        if (!wasDummy && t2.tooFull) = true then do
            g (relayAll t2 es1 (SetTable.grown es1.size)).2.2
            storeSet a (relayAll t2 es1 (SetTable.grown es1.size)).1 (relayAll t2 es1 (SetTable.grown es1.size)).2.1
            pure (some true)
          else pure (some true)) R E s := fun t2 f2 r2 l2 {g} hg {R} hR => by
      refine wpAny_bind (wpAny_storeSet_of ho hd ?_ (fits_of_scanBound hb1))
      have ho1 := store_at (es' := es1) (t' := t2) ho hd
      have sb1 := Heap.SameBut.update s.heap a (Obj.putSet es1 t2)
      split
      · have pm := relayAll_perm t2 es1 (SetTable.grown es1.size)
        have hf3 := relayAll_fits t2 es1 (SetTable.grown es1.size)
        have hr3 := relayAll_ris t2 es1 (SetTable.grown es1.size)
        have hl3 := relayAll_led t2 es1 (SetTable.grown es1.size)
        generalize relayAll t2 es1 (SetTable.grown es1.size) = Z at pm hf3 hr3 hl3 ⊢
        obtain ⟨es2, t3, gave⟩ := Z
        dsimp only at pm hf3 hr3 hl3 ⊢
        have hz : es2.size = es1.size := by rw [← Array.length_toList, pm.length_eq, Array.length_toList]
        refine wpAny_bind (hg _ _ _ ?_)
        refine wpAny_bind (wpAny_storeSet_of ho1 rfl ?_ (fits_of_scanBound (by rw [hz]; exact hb1)))
        have ho2 := store_at (es' := es2) (t' := t3) ho1 rfl
        exact wpAny_pure (hR _ (fin _ t3 es2 _ pm ho2 hf3 hr3 (l2.imp id fun z => by rw [hl3]; exact z) (sb1.trans (Heap.SameBut.update _ a _))))
      · exact wpAny_pure (hR _ (fin _ t2 es1 _ (List.Perm.refl _) ho1 f2 r2 l2 sb1))
    refine wpAny_bind (give_way _ ?_)
    split
    · refine wpAny_bind ?_
      rw [hashByValue_scannable 8 hsc]
      refine wpAny_pure ?_
      refine tail _ ?_ ?_ ?_ ?_ ?_
      · first | (split <;> first | exact hf1 | exact SetTable.fits_plain_off hf1) | exact hf1
      · first | (split <;> exact hr1) | exact hr1
      · first | (split <;> exact hled) | exact hled
      · intro b s₁ Q' q; cases b <;> first | exact wpAny_pure q | exact wpAny_rule q
      · intro s' q; exact wpAny_pure q
    · refine wpAny_bind (wpAny_pure ?_)
      simp only [↓reduceIte]
      refine tail _ hf1 hr1 hled ?_ ?_
      · intro b s₁ Q' q; cases b <;> first | exact wpAny_pure q | exact wpAny_rule q
      · intro s' q; exact wpAny_pure q
end
end NF
end -- NfSet4

section -- NfSet5
set_option linter.all false
set_option autoImplicit false
set_option maxRecDepth 100000
set_option maxHeartbeats 2000000
/-! The layer's rules: set(a list) of tuples or of texts, len and sorted of it. -/
namespace NF
open PySem PySem.Spec PyProof.Rows L2 SrtO
mutual
/-- a pure datum as a key -/
def nkD : NF.D → NestedKey
  | .int i => .num i
  | .str x => .text (strOf x)
  | .tup ds => .tup (nkDs ds)
  | _ => .none
def nkDs : List NF.D → List NestedKey
  | [] => []
  | d :: ds => nkD d :: nkDs ds
end
section
variable {H : Hp} {ι : List Addr}
theorem nk_is {h : Heap} {P : Program} {w : World} (ok : HOk P w H h) : ∀ (k : Nat) (d : NF.D) (v : V) (u : Value), pureN k d = true → DV H ι d v → RelV v u → NestedIs h (nkD d) u ∧ (nkD d).depth ≤ k := by
  intro k
  induction k with
  | zero =>
    intro d v u hp dv rv
    cases d with
    | int i => rw [DV] at dv; subst dv; obtain ⟨t, rfl⟩ := rv; exact ⟨.int i t, Nat.le_refl _⟩
    | str x => obtain ⟨rfl, _⟩ := dv; obtain ⟨t, rfl⟩ := rv; exact ⟨.text _ t, Nat.le_refl _⟩
    | _ => simp [pureN] at hp
  | succ k ih =>
    intro d v u hp dv rv
    cases d with
    | int i => rw [DV] at dv; subst dv; obtain ⟨t, rfl⟩ := rv; exact ⟨.int i t, Nat.zero_le _⟩
    | str x => obtain ⟨rfl, _⟩ := dv; obtain ⟨t, rfl⟩ := rv; exact ⟨.text _ t, Nat.zero_le _⟩
    | tup ds =>
      obtain ⟨p, vs, rfl, hpp, r⟩ := dv
      cases (show u = Value.ref p from rv)
      obtain ⟨_, its, r2, o, ho, hc, n, hdat⟩ := ok _ _ hpp
      have all : ∀ (ds : List NF.D) (vs : List V) (us : List Value), ds.all (pureN k) = true → DVs H ι ds vs → Vals vs us → NestedAll h (nkDs ds) us ∧ NestedKey.depthAll (nkDs ds) ≤ k := by
        intro ds
        induction ds with
        | nil => intro vs us _ r rv; simp only [DVs] at r; subst r; cases rv; exact ⟨.nil, Nat.zero_le _⟩
        | cons d ds ih2 =>
          intro vs us hp r rv
          rw [List.all_cons, Bool.and_eq_true] at hp
          obtain ⟨v, q, rfl, h1, h2⟩ := r
          cases rv with
          | cons r1 r2 =>
            obtain ⟨a1, a2⟩ := ih d _ _ hp.1 h1 r1
            obtain ⟨b1, b2⟩ := ih2 _ _ hp.2 h2 r2
            exact ⟨.cons a1 b1, by simp only [nkDs, NestedKey.depthAll]; omega⟩
      obtain ⟨a1, a2⟩ := all ds vs its (by simpa [pureN] using hp) r r2
      exact ⟨.tup ho hc hdat (by simpa using a1), by simp only [nkD, NestedKey.depth]; omega⟩
    | _ => simp [pureN] at hp
theorem nk_inj : ∀ (k : Nat) (d e : NF.D), pureN k d = true → pureN k e = true → nkD d = nkD e → d = e := by
  intro k
  induction k with
  | zero =>
    intro d e hd he h
    cases d <;> cases e <;> simp [pureN] at hd he <;> simp only [nkD, NestedKey.num.injEq, NestedKey.text.injEq, reduceCtorEq] at h
    · rw [h]
    · rw [strOf_inj h]
  | succ k ih =>
    intro d e hd he h
    cases d <;> cases e <;> simp only [pureN, Bool.false_eq_true] at hd he <;> simp only [nkD, NestedKey.num.injEq, NestedKey.text.injEq, NestedKey.tup.injEq, reduceCtorEq] at h
    · rw [h]
    · rw [strOf_inj h]
    · rename_i as bs
      have all : ∀ (as bs : List NF.D), as.all (pureN k) = true → bs.all (pureN k) = true → nkDs as = nkDs bs → as = bs := by
        intro as
        induction as with
        | nil => intro bs _ _ h; cases bs with | nil => rfl | cons => simp [nkDs] at h
        | cons a as ih2 =>
          intro bs h1 h2 h
          cases bs with
          | nil => simp [nkDs] at h
          | cons b bs =>
            rw [List.all_cons, Bool.and_eq_true] at h1 h2
            simp only [nkDs, List.cons.injEq] at h
            rw [ih a b h1.1 h2.1 h.1, ih2 bs h1.2 h2.2 h.2]
      rw [all as bs hd he h]
end
/-- the set at a: its members in their order -/
def SetDO (w : World) (a : Addr) (us : List Value) : HO := .ext fun h => ∃ o es ep t, h.get? a = some o ∧ o.ExactSet ∧ o.data = .set es ep t ∧ es.toList.map (·.2) = us ∧ es.size < scanBound ∧ t.fits es.size = true ∧ Ris t.place.toList ∧ (w.params.followText "set-order" = true ∨ t.led = true)
theorem setDO_new {w : World} {P : Program} {H : Hp} {h : Heap} {a : Addr} {us : List Value} (R : ∃ o es ep t, h.get? a = some o ∧ o.ExactSet ∧ o.data = .set es ep t ∧ es.toList.map (·.2) = us ∧ es.size < scanBound ∧ t.fits es.size = true ∧ Ris t.place.toList ∧ (w.params.followText "set-order" = true ∨ t.led = true)) : ObjOk P w H h a (SetDO w a us) := by
  have ⟨o, es, ep, t, ho, r⟩ := R
  refine ⟨R, ⟨o, ho⟩, fun h1 h2 p k => ?_⟩
  have ⟨o', es', ep', t', ho', r'⟩ := p
  exact ⟨o', es', ep', t', k o' ho', r'⟩
/-- what is in after i items -/
structure Met (ds : List NF.D) (its : List Value) (i : Nat) (L : List (NF.D × Value)) : Prop where
  sub : ∀ p ∈ L, ∃ j, j < i ∧ ds[j]? = some p.1 ∧ its[j]? = some p.2
  all : ∀ j d, j < i → ds[j]? = some d → d ∈ L.map (·.1)
  nd : (L.map (·.1)).Nodup
  len : L.length ≤ i
theorem Met.zero {ds : List NF.D} {its : List Value} : Met ds its 0 [] := ⟨fun p h => (by cases h), fun j d h => (by omega), List.nodup_nil, Nat.le_refl _⟩
theorem Met.same {ds : List NF.D} {its : List Value} {i : Nat} {L : List (NF.D × Value)} {d : NF.D} (m : Met ds its i L) (hd : ds[i]? = some d) (h : d ∈ L.map (·.1)) : Met ds its (i + 1) L :=
  ⟨fun p hp => let ⟨j, a, b⟩ := m.sub p hp; ⟨j, by omega, b⟩, fun j e hj he => (by
    by_cases hji : j = i
    · subst hji; rw [hd] at he; cases he; exact h
    · exact m.all j e (by omega) he), m.nd, Nat.le_succ_of_le m.len⟩
theorem Met.more {ds : List NF.D} {its : List Value} {i : Nat} {L L' : List (NF.D × Value)} {d : NF.D} {u : Value} (m : Met ds its i L) (hd : ds[i]? = some d) (hu : its[i]? = some u) (h : d ∉ L.map (·.1)) (p : L'.Perm ((d, u) :: L)) : Met ds its (i + 1) L' := by
  refine ⟨fun q hq => ?_, fun j e hj he => ?_, (p.map (·.1)).nodup_iff.mpr (by rw [List.map_cons]; exact List.nodup_cons.mpr ⟨h, m.nd⟩), by rw [p.length_eq, List.length_cons]; have := m.len; omega⟩
  · rcases List.mem_cons.mp (p.mem_iff.mp hq) with z | z
    · subst z; exact ⟨i, by omega, hd, hu⟩
    · obtain ⟨j, a, b⟩ := m.sub q z
      exact ⟨j, by omega, b⟩
  · rw [(p.map (·.1)).mem_iff, List.map_cons]
    by_cases hji : j = i
    · subst hji; rw [hd] at he; cases he; exact List.mem_cons_self
    · exact List.mem_cons_of_mem _ (m.all j e (by omega) he)
theorem dedup_mem {d : NF.D} : ∀ {l : List NF.D}, d ∈ dedup l ↔ d ∈ l
  | [] => by simp [dedup]
  | e :: l => by
    unfold dedup
    split
    · rename_i h
      rw [dedup_mem, List.mem_cons]
      refine ⟨.inr, fun z => z.elim (fun z => ?_) id⟩
      subst z
      obtain ⟨x, hx, q⟩ := List.any_eq_true.mp h
      have q' : cmpD d x = .eq := by simpa using q
      rw [cmpD_eq' q']
      exact hx
    · rw [List.mem_cons, List.mem_cons, dedup_mem]
theorem dedup_nodup : ∀ l : List NF.D, (dedup l).Nodup
  | [] => by simp [dedup]
  | e :: l => by
    unfold dedup
    split
    · exact dedup_nodup l
    · rename_i h
      refine List.nodup_cons.mpr ⟨fun z => h ?_, dedup_nodup l⟩
      exact List.any_eq_true.mpr ⟨e, dedup_mem.mp z, by simp [cmpD_refl]⟩
theorem dedup_sub : ∀ l : List NF.D, (dedup l).Sublist l
  | [] => .slnil
  | e :: l => by
    unfold dedup
    split
    · exact (dedup_sub l).cons _
    · exact (dedup_sub l).cons₂ _
theorem Met.perm {ds : List NF.D} {its : List Value} {L : List (NF.D × Value)} (m : Met ds its ds.length L) : (L.map (·.1)).Perm (dedup ds) := by
  refine (List.perm_ext_iff_of_nodup m.nd (dedup_nodup ds)).mpr fun d => ?_
  rw [dedup_mem]
  constructor
  · intro h
    obtain ⟨p, hp, rfl⟩ := List.mem_map.mp h
    obtain ⟨j, _, a, _⟩ := m.sub p hp
    exact List.mem_of_getElem? a
  · intro h
    obtain ⟨j, hj⟩ := List.mem_iff_getElem?.mp h
    exact m.all j d (List.getElem?_eq_some_iff.mp hj).1 hj
theorem par_at {α β : Type} {R : α → β → Prop} : ∀ {l : List α} {m : List β}, Par R l m → ∀ {j : Nat} {a : α} {b : β}, l[j]? = some a → m[j]? = some b → R a b
  | [], [], _, j, a, b, h, _ => by simp at h
  | x :: l, y :: m, .cons r p, 0, a, b, h, g => by simp at h g; subst h g; exact r
  | x :: l, y :: m, .cons r p, j + 1, a, b, h, g => par_at p (j := j) (by simpa using h) (by simpa using g)
theorem par_of_map {α β : Type} {R : α → β → Prop} : ∀ (L : List (α × β)), (∀ p ∈ L, R p.1 p.2) → Par R (L.map (·.1)) (L.map (·.2))
  | [], _ => .nil
  | p :: L, h => .cons (h p List.mem_cons_self) (par_of_map L fun q hq => h q (List.mem_cons_of_mem _ hq))
def keyF (p : NF.D × Value) : L2.Key × Value := ((match p.1 with | .str x => Sum.inr (strOf x) | _ => Sum.inl 0), p.2)
def JT (w : World) (h0 : Heap) (ds : List NF.D) (its : List Value) (i : Nat) (h : Heap) : Prop := (∀ b o, h0.get? b = some o → h.get? b = some o) ∧ ∃ (L : List (NF.D × Value)) (LN : List (NestedKey × Addr)) (es : Array (Int × Value)) (ep : Nat) (t : SetTable),
  Met ds its i L ∧ LN.length = L.length ∧ (∀ (j : Nat) (d : NF.D) (u : Value), L[j]? = some (d, u) → ∃ b, u = Value.ref b ∧ LN[j]? = some (nkD d, b)) ∧ SetN w h h0.objs.size LN es ep t
def JF (P : Program) (w : World) (h0 : Heap) (ds : List NF.D) (its : List Value) (i : Nat) (h : Heap) : Prop := (∀ b o, h0.get? b = some o → h.get? b = some o) ∧ ∃ L : List (NF.D × Value), Met ds its i L ∧ SetF P w h h0.objs.size (L.map keyF)
section
variable {X : Cx} {pins : List (Addr × Obj)} {σ : L2.St} {H : Hp} {s : Shared} {ι : List Addr}
/-- the set grows: tuples -/
theorem grow_tup (I : Inv X pins σ H s) {ds : List NF.D} {its : List Value} (hp : ∀ d ∈ ds, pureD d = true ∧ isTupD d = true) (hf : ds.length < 64) (pr : Par (RDV H ι) ds its) {A : Around} (hu : A.units + 16 < cLine) {E : Value → Shared → Prop} :
    Grow X.prog X.w A E s.heap s.heap.objs.size its.length (fun i v => its[i]? = some v) (JT X.w s.heap ds its) where
  stay := fun i h h' j hS hk => by
    obtain ⟨k, L, LN, es, ep, t, m, q1, q2, R⟩ := j
    obtain ⟨o, ho, r⟩ := R.ob
    have k' : ∀ b o, s.heap.get? b = some o → h'.get? b = some o := fun b o e => hk b o e (k b o e)
    refine ⟨k', L, LN, es, ep, t, m, q1, q2, ⟨⟨o, hS o ho, r⟩, R.rows, R.tab, R.nd, fun p hpm => ?_, R.led, R.room, R.few⟩⟩
    obtain ⟨j, hj⟩ := List.mem_iff_getElem?.mp hpm
    have hjl : j < L.length := by rw [← q1]; exact (List.getElem?_eq_some_iff.mp hj).1
    obtain ⟨b, e1, e2⟩ := q2 j L[j].1 L[j].2 (List.getElem?_eq_getElem hjl)
    rw [hj] at e2
    cases e2
    obtain ⟨j2, _, a1, a2⟩ := m.sub L[j] (List.getElem_mem hjl)
    obtain ⟨v, dv, rv⟩ := par_at pr a1 a2
    obtain ⟨n1, n2⟩ := nk_is I.hok 8 _ _ _ (hp _ (List.mem_of_getElem? a1)).1 dv rv
    rw [e1] at n1
    exact ⟨n1.at (fun c o vs n hc _ => k' c o hc) _ _, n2⟩
  add := fun i v s1 Q hi hv j hQ => by
    obtain ⟨k, L, LN, es, ep, t, m, q1, q2, R⟩ := j
    have hlen := par_len pr
    have hid : i < ds.length := by omega
    have hd : ds[i]? = some ds[i] := List.getElem?_eq_getElem hid
    obtain ⟨pd, td⟩ := hp ds[i] (List.getElem_mem hid)
    obtain ⟨x, dv, rv⟩ := par_at pr hd hv
    obtain ⟨n1, n2⟩ := nk_is I.hok 8 _ _ _ pd dv rv
    generalize ds[i] = d at hd pd td dv n1 n2
    obtain ⟨b, rfl⟩ : ∃ b, v = .ref b := by
      cases d with
      | tup _ => obtain ⟨p, _, rfl, _⟩ := dv; exact ⟨p, rv⟩
      | _ => simp [isTupD] at td
    have nk : NK s1.heap (nkD d) b := ⟨n1.at (fun c o vs n hc _ => k c o hc) _ _, n2⟩
    have hbS : s.heap.get? s.heap.objs.size = none := by
      cases q : s.heap.get? s.heap.objs.size with
      | none => rfl
      | some o => exact absurd (Heap.lt_size q) (Nat.lt_irrefl _)
    have hin : nkD d ∈ LN.map (·.1) ↔ d ∈ L.map (·.1) := by
      constructor
      · intro h
        obtain ⟨p, hpm, e⟩ := List.mem_map.mp h
        obtain ⟨j, hj⟩ := List.mem_iff_getElem?.mp hpm
        have hjl : j < L.length := by rw [← q1]; exact (List.getElem?_eq_some_iff.mp hj).1
        obtain ⟨b2, _, e2⟩ := q2 j L[j].1 L[j].2 (List.getElem?_eq_getElem hjl)
        rw [hj] at e2
        cases e2
        obtain ⟨j2, _, a1, _⟩ := m.sub L[j] (List.getElem_mem hjl)
        have := nk_inj 8 _ _ (hp _ (List.mem_of_getElem? a1)).1 pd e
        exact List.mem_map.mpr ⟨L[j], List.getElem_mem hjl, this⟩
      · intro h
        obtain ⟨p, hpm, rfl⟩ := List.mem_map.mp h
        obtain ⟨j, hj⟩ := List.mem_iff_getElem?.mp hpm
        obtain ⟨b2, _, e2⟩ := q2 j p.1 p.2 hj
        exact List.mem_map.mpr ⟨(nkD p.1, b2), List.mem_of_getElem? e2, rfl⟩
    unfold setAdd
    refine wpAny_holding ?_
    refine wpAny_bind (pyHash_key _ _ _ _ _ nk.1 (by have := nk.2; omega) ?_)
    refine put_in (s := { s1 with toks := s1.toks + (nkD d).draws }) R nk (by omega) (by have := m.len; omega) fun b' h' LN' es' ep' t' sb R' c1 c2 => ?_
    refine hQ b' h' _ (Nat.le_add_right _ _) sb ⟨fun c o e => (sb.2 c (fun z => by rw [z, hbS] at e; cases e)).trans (k c o e), ?_⟩
    by_cases hm : d ∈ L.map (·.1)
    · have := c1 (hin.mpr hm)
      subst this
      exact ⟨L, LN', es', ep', t', m.same hd hm, q1, q2, R'⟩
    · have pm := c2 fun z => hm (hin.mp z)
      -- the data in the same order
      have f : ∃ L' : List (NF.D × Value), L'.Perm ((d, .ref b) :: L) ∧ LN' = L'.map fun p => (nkD p.1, match p.2 with | .ref b => b | _ => 0) := by
        refine perm_map_ex pm _ ?_
        rw [List.map_cons]
        congr 1
        apply List.ext_getElem?
        intro j
        rw [List.getElem?_map]
        cases hj : L[j]? with
        | none =>
          have := List.getElem?_eq_none_iff.mp hj
          rw [List.getElem?_eq_none (by omega)]
          rfl
        | some p =>
          obtain ⟨b2, e1, e2⟩ := q2 j p.1 p.2 hj
          rw [e2]
          show some (nkD p.1, b2) = some (nkD p.1, match p.2 with | .ref b => b | _ => 0)
          rw [e1]
      obtain ⟨L', p1, p2⟩ := f
      have m' := m.more hd hv hm p1
      refine ⟨L', LN', es', ep', t', m', by rw [p2, List.length_map], fun j e u hj => ?_, R'⟩
      have : ∃ b2, u = .ref b2 := by
        rcases List.mem_cons.mp (p1.mem_iff.mp (List.mem_of_getElem? hj)) with z | z
        · cases z; exact ⟨b, rfl⟩
        · obtain ⟨j2, hj2⟩ := List.mem_iff_getElem?.mp z
          obtain ⟨b2, e1, _⟩ := q2 j2 e u hj2
          exact ⟨b2, e1⟩
      obtain ⟨b2, rfl⟩ := this
      exact ⟨b2, rfl, by rw [p2, List.getElem?_map, hj] <;> rfl⟩
/-- the set grows: texts -/
theorem grow_str (I : Inv X pins σ H s) {ds : List NF.D} {its : List Value} (hp : ∀ d ∈ ds, isStrD d = true) (hf : ds.length < 64) (pr : Par (RDV H ι) ds its) {A : Around} {E : Value → Shared → Prop} :
    Grow X.prog X.w A E s.heap s.heap.objs.size its.length (fun i v => its[i]? = some v) (JF X.prog X.w s.heap ds its) where
  stay := fun i h h' j hS hk => by
    obtain ⟨k, L, m, R⟩ := j
    obtain ⟨o, es, ep, t, ho, r⟩ := R.ex
    exact ⟨fun b o e => hk b o e (k b o e), L, m, ⟨⟨o, es, ep, t, hS o ho, r⟩, R.nd, R.is⟩⟩
  add := fun i v s1 Q hi hv j hQ => by
    obtain ⟨k, L, m, R⟩ := j
    have hlen := par_len pr
    have hid : i < ds.length := by omega
    have hd : ds[i]? = some ds[i] := List.getElem?_eq_getElem hid
    have td := hp ds[i] (List.getElem_mem hid)
    obtain ⟨x, dv, rv⟩ := par_at pr hd hv
    generalize ds[i] = d at hd td dv
    cases d with
    | str z =>
      obtain ⟨rfl, _⟩ := dv
      obtain ⟨tk, rfl⟩ := rv
      have hkey : (mixKind X.prog X.w).is (.inr (strOf z)) (.str (strOf z) tk) = true := mixKind_str _ _ _ _
      have hbS : s.heap.get? s.heap.objs.size = none := by
        cases q : s.heap.get? s.heap.objs.size with
        | none => rfl
        | some o => exact absurd (Heap.lt_size q) (Nat.lt_irrefl _)
      have strL : ∀ p ∈ L, ∃ y, p.1 = .str y := fun p hpm => by
        obtain ⟨j, _, a, _⟩ := m.sub p hpm
        have := hp p.1 (List.mem_of_getElem? a)
        cases hq : p.1 with
        | str y => exact ⟨y, rfl⟩
        | _ => rw [hq] at this; simp [isStrD] at this
      have hin : (Sum.inr (strOf z) : L2.Key) ∈ (L.map keyF).map (·.1) ↔ NF.D.str z ∈ L.map (·.1) := by
        rw [List.map_map, List.mem_map, List.mem_map]
        constructor
        · rintro ⟨p, hpm, e⟩
          obtain ⟨y, hy⟩ := strL p hpm
          refine ⟨p, hpm, ?_⟩
          simp only [Function.comp, keyF, hy, Sum.inr.injEq] at e
          rw [hy, strOf_inj e]
        · rintro ⟨p, hpm, e⟩
          exact ⟨p, hpm, by simp only [Function.comp, keyF, e]⟩
      unfold setAdd
      refine wpAny_holding ?_
      refine wpAny_bind ((mixKind X.prog X.w).pyHash hkey ?_)
      refine put_flat (s := { s1 with toks := s1.toks + 1 }) R hkey rfl (by rw [List.length_map]; have := m.len; unfold scanBound; omega) fun b' h' L1 sb R' c1 c2 => ?_
      refine hQ b' h' _ (Nat.le_add_right _ _) sb ⟨fun c o e => (sb.2 c (fun z => by rw [z, hbS] at e; cases e)).trans (k c o e), ?_⟩
      by_cases hm : NF.D.str z ∈ L.map (·.1)
      · have := c1 (hin.mpr hm)
        subst this
        exact ⟨L, m.same hd hm, R'⟩
      · have pm := c2 fun q => hm (hin.mp q)
        obtain ⟨L', p1, p2⟩ := perm_map_ex (f := keyF) pm ((.str z, .str (strOf z) tk) :: L) rfl
        rw [p2] at R'
        exact ⟨L', m.more hd hv hm p1, R'⟩
    | _ => simp [isStrD] at td
/-- set(a list) -/
def rSetD (K : PySem.W.Frag) (w : World) : List V → Hp → VK → Prop := fun xs H Q => ∃ (l : Addr) (ds : List NF.D) (vs : List V) (ι : List Addr), xs = [V.ref l] ∧ SqL K H l vs ∧ DVs H ι ds vs ∧ setOk ds = true ∧ ∀ a us ds', H a = none → Par (RDV H ι) ds' us → ds'.Perm (dedup ds) → Q (.ref a) (upd H a (SetDO w a us))
theorem cr_setD (hc : X.calm = true) (hu : X.A.units + 64 < cLine) : CallR X (.type "set") (rSetD X.K X.w) := by
  intro pins s σ H xs us Q I r h
  obtain ⟨l, ds, vs, ι, rfl, hl, rd, hok, q⟩ := h
  rw [Vals.ref1 r]
  obtain ⟨its, rv, pl, hz⟩ := I.list hl
  have pr : Par (RDV H ι) ds its := par_rdv rd rv
  have hlen := par_len pr
  have hn : H s.heap.objs.size = none := I.hok.fresh (Nat.le_refl _)
  simp only [setOk, Bool.and_eq_true, Bool.or_eq_true, decide_eq_true_eq] at hok
  obtain ⟨⟨hp, hf⟩, hk⟩ := hok
  have hget : ∀ i v, (fun (i : Nat) v => its.toArray[i]? = some v) i v → its[i]? = some v := fun i v h => by simpa using h
  have fin : ∀ (L : List (NF.D × Value)), Met ds its ds.length L → Par (RDV H ι) (L.map (·.1)) (L.map (·.2)) ∧ (L.map (·.1)).Perm (dedup ds) := fun L m => ⟨par_of_map L fun p hpm => by
      obtain ⟨j, _, a1, a2⟩ := m.sub p hpm
      exact par_at pr a1 a2, m.perm⟩
  have led0 : X.w.params.followText "set-order" = true ∨ (SetTable.fresh 0 0 (!X.w.params.followText "set-order")).led = true := by
    show _ ∨ (!X.w.params.followText "set-order") = true
    cases X.w.params.followText "set-order"
    · exact .inr rfl
    · exact .inl rfl
  by_cases hkt : ds.all isTupD = true
  · refine call_set_grow (P := X.prog) (w := X.w) (J := JT X.w s.heap ds its) (I.ok.hd hc) pl.isList (fun A' hA' => ?_) (fun h' hS kp => ?_) fun h' tk j kp => ?_
    · have g := grow_tup I (fun d hd => ⟨all_mem hp hd, all_mem hkt hd⟩) hf pr (A := A') (by omega) (E := fun e s' => X.xe e s')
      exact ⟨g.stay, fun i v s1 Q hi hv => g.add i v s1 Q (by simpa using hi) (hget i v hv)⟩
    · exact ⟨kp, [], [], #[], 0, _, Met.zero, rfl, fun j d u hj => by simp at hj, ⟨⟨_, hS, ⟨rfl, rfl, rfl⟩, rfl⟩, rfl, ⟨List.Pairwise.nil, rfl, rfl, .inl rfl, fun x hx => (by cases hx), fun i h j hi => (by simp at hi)⟩, List.nodup_nil, fun p hp => (by cases hp), led0, (by show 0 * 5 < 7 * 3; decide), (by show 0 < 64; decide)⟩⟩
    · obtain ⟨_, L, LN, es, ep, t, m, q1, q2, R⟩ := j
      have m' : Met ds its ds.length L := by rw [show ds.length = its.toArray.size by simpa using hlen]; exact m
      obtain ⟨f1, f2⟩ := fin L m'
      obtain ⟨o, ho, hex, hd⟩ := R.ob
      refine ⟨.ref s.heap.objs.size, upd H s.heap.objs.size (SetDO X.w s.heap.objs.size (L.map (·.2))), I.laid (t' := tk) kp (Nat.le_refl _) (setDO_new ⟨o, es, ep, t, ho, hex, hd, ?_, ?_, SetN.fits (s := { s with heap := h' }) R, R.tab.ris, R.led⟩), rfl, q _ _ _ hn f1 f2⟩
      · rw [R.rows, List.map_map]
        apply List.ext_getElem?
        intro j
        rw [List.getElem?_map, List.getElem?_map]
        cases hj : L[j]? with
        | none =>
          have := List.getElem?_eq_none_iff.mp hj
          rw [List.getElem?_eq_none (by omega)]
          rfl
        | some p =>
          obtain ⟨b2, e1, e2⟩ := q2 j p.1 p.2 hj
          rw [e2]
          show some (Value.ref b2) = some p.2
          rw [e1]
      · rw [SetN.size (s := { s with heap := h' }) R]
        have := R.few
        unfold scanBound
        omega
  · have hks := hk.resolve_left hkt
    refine call_set_grow (P := X.prog) (w := X.w) (J := JF X.prog X.w s.heap ds its) (I.ok.hd hc) pl.isList (fun A' hA' => ?_) (fun h' hS kp => ?_) fun h' tk j kp => ?_
    · have g := grow_str I (fun d hd => all_mem hks hd) hf pr (A := A') (E := fun e s' => X.xe e s')
      exact ⟨g.stay, fun i v s1 Q hi hv => g.add i v s1 Q (by simpa using hi) (hget i v hv)⟩
    · exact ⟨kp, [], Met.zero, ⟨⟨_, #[], 0, _, hS, ⟨rfl, rfl, rfl⟩, rfl, rfl, by decide, rfl, List.Pairwise.nil, led0⟩, List.nodup_nil, fun p hp => (by cases hp)⟩⟩
    · obtain ⟨_, L, m, R⟩ := j
      have m' : Met ds its ds.length L := by rw [show ds.length = its.toArray.size by simpa using hlen]; exact m
      obtain ⟨f1, f2⟩ := fin L m'
      obtain ⟨o, es, ep, t, ho, hex, hd, hrow, r1, r2, r3, r4⟩ := R.ex
      refine ⟨.ref s.heap.objs.size, upd H s.heap.objs.size (SetDO X.w s.heap.objs.size (L.map (·.2))), I.laid (t' := tk) kp (Nat.le_refl _) (setDO_new ⟨o, es, ep, t, ho, hex, hd, ?_, r1, r2, r3, r4⟩), rfl, q _ _ _ hn f1 f2⟩
      rw [hrow, List.map_map, List.map_map]
      rfl
end
end NF
end -- NfSet5

section -- NfSet6
set_option linter.all false
set_option autoImplicit false
set_option maxRecDepth 100000
set_option maxHeartbeats 2000000
/-! len(set(..)), sorted(set(..)). -/
namespace NF
open PySem PySem.Spec PyProof.Rows L2 SrtO
theorem stb_of_perm {α : Type} [DecidableEq α] {lt : α → α → Bool} {l m : List α} (h : ∀ a b, eqv lt a b = true → a = b) (p : l.Perm m) : Stb lt l m := by
  refine ⟨p, fun x => ?_⟩
  have key : ∀ l : List α, l.filter (eqv lt x) = List.replicate (l.filter (eqv lt x)).length x := fun l =>
    List.eq_replicate_iff.mpr ⟨rfl, fun b hb => (h x b (List.mem_filter.mp hb).2).symm⟩
  rw [key l, key m, (p.filter _).length_eq]
theorem eqv_ltD {a b : NF.D} (h : eqv ltD a b = true) : a = b := by
  obtain ⟨h1, h2⟩ := eqv_iff.mp h
  refine cmpD_eq' ?_
  rw [ltD_no] at h1 h2
  rw [cmpD_swap] at h1
  revert h1 h2
  cases cmpD a b <;> simp [Ordering.swap]
theorem srtd_dedup {l : List NF.D} (h : Srtd ltD l) : Srtd ltD (dedup l) := List.Pairwise.sublist (dedup_sub l) h
theorem sort_same {l m : List NF.D} (p : l.Perm m) : sortBy ltD l = sortBy ltD m :=
  stb_unique swo_ltD (sort_sorted swo_ltD l) (sort_sorted swo_ltD m) (stb_of_perm (fun _ _ => eqv_ltD) ((sort_perm l).trans (p.trans (sort_perm m).symm)))
theorem sort_dedup {l m : List NF.D} (p : l.Perm (dedup m)) : sortBy ltD l = dedup (sortBy ltD m) := by
  refine stb_unique swo_ltD (sort_sorted swo_ltD l) (srtd_dedup (sort_sorted swo_ltD m)) (stb_of_perm (fun _ _ => eqv_ltD) ((sort_perm l).trans (p.trans ?_)))
  refine (List.perm_ext_iff_of_nodup (dedup_nodup m) (dedup_nodup _)).mpr fun d => ?_
  rw [dedup_mem, dedup_mem, (sort_perm m).mem_iff]
theorem allCmp_sub {l m : List NF.D} (h : allCmp m = true) (hs : ∀ d ∈ l, d ∈ m) : allCmp l = true := by
  unfold allCmp
  refine List.all_eq_true.mpr fun d hd => ?_
  obtain ⟨h1, h2, h3⟩ := allCmp_at h (hs d hd)
  simp only [Bool.and_eq_true]
  exact ⟨⟨h1, h2⟩, List.all_eq_true.mpr fun e he => h3 e (hs e he)⟩
theorem par_unzip {α β : Type} {R : α → β → Prop} : ∀ {l : List α} {m : List β}, Par R l m → ∃ L : List (α × β), l = L.map (·.1) ∧ m = L.map (·.2) ∧ ∀ p ∈ L, R p.1 p.2
  | [], [], .nil => ⟨[], rfl, rfl, fun p h => (by cases h)⟩
  | a :: l, b :: m, .cons r p => by
    obtain ⟨L, e1, e2, e3⟩ := par_unzip p
    refine ⟨(a, b) :: L, by rw [e1] <;> rfl, by rw [e2] <;> rfl, fun q hq => ?_⟩
    rcases List.mem_cons.mp hq with z | z
    · rw [z]; exact r
    · exact e3 q z
theorem par_perm {α β : Type} {R : α → β → Prop} {l : List α} {m m' : List β} (p : Par R l m) (h : m'.Perm m) : ∃ l', l'.Perm l ∧ Par R l' m' := by
  obtain ⟨L, rfl, rfl, e⟩ := par_unzip p
  obtain ⟨L', p1, rfl⟩ := perm_map_ex (f := fun q : α × β => q.2) h L rfl
  exact ⟨L'.map (·.1), p1.map _, par_of_map L' fun q hq => e q (p1.mem_iff.mp hq)⟩
section
variable {C : Cfg} {X : Cx} {W : WX} {pos : Pos}
theorem cr_lenSet : CallR X (.builtin "len") (fun xs H Q => ∃ a us, xs = [V.ref a] ∧ H a = some (SetDO X.w a us) ∧ Q (.int us.length) H) := by
  intro pins s σ H xs us' Q I r h
  obtain ⟨a, us, rfl, ha, q⟩ := h
  rw [Vals.ref1 r]
  obtain ⟨o, es, ep, t, ho, hex, hd, hus, hb, hf, _, _⟩ := (I.hok a _ ha).1
  have hl : es.size = us.length := by rw [← hus, List.length_map, Array.length_toList]
  refine call_len_set ho hex hd hf (by unfold scanBound at hb; omega) ⟨.int us.length, H, I.tok _, ⟨_, by rw [hl]⟩, q⟩
theorem cr_sortSet (hc : X.calm = true) (hu : X.A.units + 64 < cLine) : CallR X (.builtin "sorted") (fun xs H Q => ∃ a us ds ι, xs = [V.ref a] ∧ H a = some (SetDO X.w a us) ∧ Par (RDV H ι) ds us ∧ allCmp ds = true ∧
    ∀ ys q, DVs H ι (sortBy ltD ds) ys → H q = none → Q (.ref q) (upd H q (.lst ys))) := by
  intro pins s σ H xs us' Q I r h
  obtain ⟨a, us, ds, ι, rfl, ha, pr, hcm, q⟩ := h
  rw [Vals.ref1 r]
  obtain ⟨o, es, ep, t, ho, hex, hd, hus, hb, hf, hr, hl⟩ := (I.hok a _ ha).1
  refine Calls.call_function_entry kind_sorted plain_sorted entry_sorted (args_sorted1 _) ?_
  unfold Builtin.«sorted»
  refine wpAny_bind (m := checkCount "sorted" 1 1 _) (wpAny_pure ?_)
  refine wpAny_bind (collect_set (A := X.A.in1) (I.ok.hd hc) ⟨o, ho, hex.1, hd⟩ hf hb hr hl fun s1 its k1 hz g1 o1 pm => ?_)
  rw [hus] at pm
  obtain ⟨ds1, p1, pr1⟩ := par_perm pr pm
  have hcm1 : allCmp ds1 = true := allCmp_sub hcm fun d hd => p1.mem_iff.mp hd
  rw [← sort_same p1] at q
  have I1 : Inv X pins σ H s1 := Inv.call' I o1 (Un.kept k1) (I.hok.kept k1) (by rw [g1]; exact I.bare) (ch := []) (fun _ z => nomatch z)
  have hlen := par_len pr1
  have hz' : its.length ≤ sizeLine := by
    rw [pm.length_eq, ← hus, List.length_map, Array.length_toList]
    exact fits_of_scanBound hb
  refine wpAny_bind (wpAny_newList ?_ hz')
  have hoL : (s1.heap.push (seqObj "list" its.toArray 0)).get? s1.heap.objs.size = some (seqObj "list" its.toArray 0) := Heap.get?_push_size _ rfl
  have O := swo_ltv H ι
  show wpAny _ _ _ _ _ { s1 with heap := s1.heap.push (seqObj "list" its.toArray 0) }
  refine wpAny_bind (wpAny_holding (wpAny_call_entry slot_list_sort ⟨_, hoL, rfl⟩ entry_list_sort (list_sort_ord O hoL hz' (fun h2 h' keep => ?_) fun out hs hb => ⟨_, rfl, ?_⟩) (args_list_sort _)))
  · have J : Inv X pins σ H { s1 with heap := h' } := I1.kept (t' := s1.toks) fun c o e => keep c o (Nat.ne_of_lt (Heap.lt_size e)) (Heap.get?_push_of_some _ e)
    exact data_cmp J (by rw [in1_units, in1_units]; omega) hcm1 pr1 h2
  · refine wpAny_pure ⟨_, rfl, ?_⟩
    have eo : out = sortBy (ltv H ι) its := stb_unique O hs (sort_sorted O _) ⟨hb.perm.trans (sort_perm _).symm, fun z => (hb.cls z).trans ((sort_stb O its).cls z).symm⟩
    have pm2 := par_imp (R' := fun d u => d ∈ ds1 ∧ RDV H ι d u) pr1 fun a ha b r => ⟨ha, r⟩
    have ps : Par (fun d u => d ∈ ds1 ∧ RDV H ι d u) (sortBy ltD ds1) out := by
      rw [eo]
      refine par_sort (fun d u d' u' h h' => ?_) pm2
      unfold ltv
      rw [datV_eq (allCmp_at hcm1 h.1).1 h.2, datV_eq (allCmp_at hcm1 h'.1).1 h'.2]
    obtain ⟨ys, dy, vy⟩ := par_back (par_imp ps fun _ _ _ r => r.2)
    obtain ⟨e6, hat⟩ := sortedHeap_at (out := out.toArray) hoL
    have hH : H s1.heap.objs.size = none := I1.hok.fresh (Nat.le_refl _)
    refine ⟨.ref s1.heap.objs.size, upd H s1.heap.objs.size (.lst ys), ?_, rfl, q ys _ dy hH⟩
    refine I1.laid (t' := s1.toks) (fun b o e => ?_) (Nat.le_refl _) ⟨?_, out, e6, vy, hat⟩
    · rw [sortedHeap_old (Nat.ne_of_lt (Heap.lt_size e)) (by rw [Heap.size_push]; exact Nat.lt_succ_of_lt (Heap.lt_size e))]
      exact Heap.get?_push_of_some _ e
    · rw [vy.length, ← par_len ps, (sort_perm _).length_eq, hlen]
      exact hz'
theorem rdv_ext {H H' : Hp} {ι ι' : List Addr} (e : Ext H ι H' ι') {d : NF.D} {u : Value} (h : RDV H ι d u) : RDV H' ι' d u := let ⟨x, a, b⟩ := h; ⟨x, a.ext e, b⟩
theorem par_len2 {α β : Type} {R : α → β → Prop} {l : List α} {m : List β} (p : Par R l m) : m.length = l.length := (par_len p).symm
theorem me_lenset {x : Expr} {p0 p1 p2 : Pos} {ma : Env → M NF.D} (hc : X.calm = true) (hu : X.A.units + 64 < cLine) (hg : Gl X "len") (hm : X.mg "len" = none) (hg2 : Gl X "set") (hm2 : X.mg "set" = none) (ha : PE X x (tD C X.K W ma)) (hh : headOk x = true) :
    PE X (.Call (.Name "len" p0) [.Call (.Name "set" p1) [x] [] p2] [] pos) (tD C X.K W fun ρ => NF.bnd (ma ρ) fun z => NF.bnd (lstOf z) fun ds => if setOk ds then NF.ret (.int (dedup ds).length) else bad) := by
  refine (pe_callB cr_lenSet hg hm (by rfl) (pa_cons (pe_callTy (cr_setD hc hu) hg2 hm2 (by rfl) (pa_cons ha pa_nil (by rw [star_ok hh])) (by decide +kernel) (by decide +kernel) (by rw [star_ok hh]) (by rfl)) pa_nil) (by decide +kernel) (by decide +kernel)).imp fun σ H Q h => one (g := fun z _ => NF.bnd (lstOf z) fun ds => if setOk ds then NF.ret (NF.D.int (dedup ds).length) else bad) h fun ρ S ι d v H1 er s dv p => ?_
  obtain ⟨n, a, ds, vs, rfl, rfl, ha', hq, r', _, p⟩ := Post.lstOf p s dv
  obtain ⟨hok, p⟩ := Post.ifT (m := NF.ret (NF.D.int (dedup ds).length)) p
  refine ⟨a, ds, vs, ι, rfl, hq, r', hok, fun q us ds' hn pr pm => ⟨q, us, rfl, upd_same, ?_⟩⟩
  have e : (us.length : Int) = ((dedup ds).length : Int) := by rw [par_len2 pr, pm.length_eq]
  rw [e]
  exact Post.ret (Post.ext p (Ext.new hn)) (s.hid hn) rfl
theorem me_sortset {x : Expr} {p0 p1 p2 : Pos} {ma : Env → M NF.D} (hc : X.calm = true) (hu : X.A.units + 64 < cLine) (hg : Gl X "sorted") (hm : X.mg "sorted" = none) (hg2 : Gl X "set") (hm2 : X.mg "set" = none) (ha : PE X x (tD C X.K W ma)) (hh : headOk x = true) :
    PE X (.Call (.Name "sorted" p0) [.Call (.Name "set" p1) [x] [] p2] [] pos) (tD C X.K W fun ρ => NF.bnd (ma ρ) fun z => NF.bnd (lstOf z) fun ds => if setOk ds then NF.bnd (sortM ds) fun es => NF.new (.lst (dedup es)) else bad) := by
  refine (pe_callB (cr_sortSet hc hu) hg hm (by rfl) (pa_cons (pe_callTy (cr_setD hc hu) hg2 hm2 (by rfl) (pa_cons ha pa_nil (by rw [star_ok hh])) (by decide +kernel) (by decide +kernel) (by rw [star_ok hh]) (by rfl)) pa_nil) (by decide +kernel) (by decide +kernel)).imp fun σ H Q h => one (g := fun z _ => NF.bnd (lstOf z) fun ds => if setOk ds then NF.bnd (sortM ds) fun es => NF.new (.lst (dedup es)) else bad) h fun ρ S ι d v H1 er s dv p => ?_
  obtain ⟨n, a, ds, vs, rfl, rfl, ha', hq, r', _, p⟩ := Post.lstOf p s dv
  obtain ⟨hok, p⟩ := Post.ifT (m := NF.bnd (sortM ds) fun es => NF.new (.lst (dedup es))) p
  refine ⟨a, ds, vs, ι, rfl, hq, r', hok, fun q us ds' hn pr pm => ?_⟩
  have e1 : Ext H1 ι (upd H1 q (SetDO X.w q us)) ι := Ext.new hn
  have s1 := s.hid (u := SetDO X.w q us) hn
  unfold sortM NF.bnd at p
  by_cases hcm : allCmp ds = true
  · rw [if_pos hcm] at p
    refine ⟨q, us, ds', ι, rfl, upd_same, par_imp pr fun _ _ _ r => rdv_ext e1 r, allCmp_sub hcm fun d hd => dedup_mem.mp (pm.mem_iff.mp hd), fun ys r dy hr => ?_⟩
    rw [sort_dedup pm] at dy
    exact Post.lst (Post.ext (r := NF.new (.lst (dedup (sortBy ltD ds))) S) p e1) s1 dy hr
  · rw [if_neg hcm] at p
    exact False.elim p
end
end NF
end -- NfSet6

section -- NfVals
set_option linter.all false
set_option autoImplicit false
set_option maxRecDepth 100000
set_option maxHeartbeats 2000000
/-! Walks over d.keys(), d.values() of a dict with pairs as keys; the dict stands still meanwhile. -/
namespace NF
open PySem PySem.Spec PyProof.Rows L2 SrtO
/-- the values of the locked dict at d -/
def Itdt (d : Addr) (o : Obj) (kvs : List (List L2.Key × V)) : It :=
  ⟨fun i H => H d = some (.frz o (.dT kvs)) ∧ i < kvs.length, fun i H x H' => H' = H ∧ ∃ k, kvs[i]? = some (k, x), fun i H => H d = some (.frz o (.dT kvs)) ∧ kvs.length ≤ i⟩
theorem frzTv {X : Cx} {pins : List (Addr × Obj)} {σ : L2.St} {H : Hp} {s : Shared} {d : Addr} {o : Obj} {kvs : List (List L2.Key × V)} (I : Inv X pins σ H s) (h : H d = some (.frz o (.dT kvs))) :
    s.heap.get? d = some o ∧ o.ExactDict ∧ ∃ (es : Array DictEntry) (ep : Nat), o.data = .dict es ep ∧ es.size = kvs.length ∧
      ∀ (i : Nat) (k : List L2.Key) (v : V), kvs[i]? = some (k, v) → ∃ (en : DictEntry), es[i]? = some en ∧ RelV v en.val := by
  obtain ⟨hd, z, hs, xs, pr, o', es, ep, ho, hx, hdt, he, _⟩ := I.hok d _ h
  rw [hd] at ho
  cases ho
  refine ⟨hd, hx, es, ep, hdt, ?_, fun i k v e => ?_⟩
  · have l1 : es.size = xs.length := size_of_entries he
    have l2 : kvs.length = xs.length := Paired.length pr
    omega
  · obtain ⟨b, hb, e1, e2, e3⟩ := paired_get pr e
    have q := entry_at he i
    rw [hb] at q
    exact ⟨_, q, e3⟩
theorem turn_valsT {P : Program} {w : World} {K : PySem.W.Frag} {tg : Expr} {d : Addr} {o : Obj} {es : Array DictEntry} {ep : Nat} {kvs : List (List L2.Key × V)} (it : Addr) (hod : o.data = .dict es ep) : Turn P w K tg (Itdt d o kvs) [it] it (fun i h => h.IsValIter it d i kvs.length ep) where
  mem := by simp
  obj := fun i h st b hb => by
    have e : b = it := by simpa using hb
    subst e
    obtain ⟨oi, e, c, dd⟩ := st
    exact ⟨oi, e, fun v z => by rw [dd] at z; cases z⟩
  keep := fun i h h' st k => st.at fun oi e => k it (by simp) oi e
  item := by
    intro X hP hw hK hc i pins s σ H E I hf st hg
    subst hP hw hK
    obtain ⟨hd, hi⟩ := hg
    obtain ⟨f0, f1, f2, f3, f4, f5⟩ := hf it (by simp)
    obtain ⟨hgd, hx, es', ep', hdt, hsz, ent⟩ := frzTv I hd
    obtain ⟨rfl, rfl⟩ := dict_ep hod hdt
    obtain ⟨⟨k, v⟩, hkv⟩ : ∃ p, kvs[i]? = some p := ⟨kvs[i], List.getElem?_eq_getElem hi⟩
    obtain ⟨en, hen, rv⟩ := ent i k v hkv
    have hi' : i < es'.size := by omega
    have st1 : s.heap.IsValIter it d i es'.size ep' := by rw [hsz]; exact st
    refine wpAny_pyNext_values_item_raw st1 ⟨o, hgd, hx, hdt⟩ hi' fun h' st' sb => ?_
    have I1 : Inv X pins σ H { s with heap := h' } := I.turned (t' := s.toks) (fun b ob hb e => (sb.2 b hb).trans e) f0 f1 f3 f4 f5
    obtain ⟨oi, e, c, dd⟩ := id st'
    have hen' : es'[i] = en := by
      have := Array.getElem?_eq_getElem hi'
      rw [hen] at this
      exact (Option.some.inj this).symm
    refine ⟨_, rfl, go_of (s := { s with heap := h' }) e c dd (by decide) ⟨v, H, I1, by rw [hen']; exact rv, ⟨rfl, k, hkv⟩, ?_, fun b hb => (hf b hb).1⟩⟩
    show h'.IsValIter it d (i + 1) kvs.length _
    rw [← hsz]
    exact st'
  done := by
    intro X hP hw hK hc i pins s σ H E I hf st hg
    subst hP hw hK
    obtain ⟨hd, hi⟩ := hg
    obtain ⟨f0, f1, f2, f3, f4, f5⟩ := hf it (by simp)
    obtain ⟨hgd, hx, es', ep', hdt, hsz, ent⟩ := frzTv I hd
    obtain ⟨rfl, rfl⟩ := dict_ep hod hdt
    have st1 : s.heap.IsValIter it d i es'.size ep' := by rw [hsz]; exact st
    exact wpAny_pyNext_values_end_raw (I.ok.hd hc) st1 ⟨o, hgd, hx, hdt⟩ (by omega) fun h' eb => ⟨rfl, I.turned (t' := s.toks) (fun b ob hb e => eb b ob hb e) f0 f1 f3 f4 f5⟩
  self := fun A i s Q E st h => wpAny_pyIter_valiter st h
/-- .. no thing of the def's entry is what stands locked at d -/
def NoF (X : Cx) (d : Addr) : Prop := ∀ o' u', X.H_0 d ≠ some (.frz o' u')
def iValsL (X : Cx) (td : TE) : TI := fun σ H R => td σ H fun x H1 => ∃ d kvs, x = .ref d ∧ H1 d = some (.dT kvs) ∧ (NoF X d → ∀ o, R (Itdt d o kvs) (upd H1 d (.frz o (.dT kvs))))
def iKeysL (X : Cx) (td : TE) : TI := fun σ H R => td σ H fun x H1 => ∃ d kvs, x = .ref d ∧ H1 d = some (.dT kvs) ∧ (NoF X d → ∀ o, R (Itkt d o kvs) (upd H1 d (.frz o (.dT kvs))))
section
variable {X : Cx} {tg e : Expr} {td : TE} {apos cpos : Pos}
theorem pi_valsL (he : PE X e td) (hbase : attributeBase e "values" X.env (eval e X.env) = eval e X.env) (hline : (apos.endLine == cpos.line) = true) : PI X tg (.Call (.Attribute e "values" apos) [] [] cpos) (iValsL X td) := by
  refine ⟨fun pins s σ H R I h => ?_⟩
  refine wpAny_Call_method (T := "dict") (id := "dict.values") hbase rfl hline F.plainAttrs_dict F.slot_dict_values F.type_dict_values (thn (he.run pins s σ H _ I h) fun u s1 ⟨x, H1, I1, rx, d, kvs, ex, hd, q⟩ => ?_)
  subst ex
  obtain rfl : u = Value.ref d := rx
  obtain ⟨od, I2⟩ := I1.lock hd (by trivial)
  have q := q (I1.nofrz hd (by trivial)) od
  have hd2 : upd H1 d (.frz od (.dT kvs)) d = some (.frz od (.dT kvs)) := upd_same
  obtain ⟨hgd, hx, es, ep, hdt, hsz, ent⟩ := frzTv I2 hd2
  have hs := (I2.frzT hd2).1
  have hraw : s1.heap.DictRaw d es ep := ⟨od, hgd, hx, hdt⟩
  refine ⟨⟨od, hgd, hx.1⟩, ?_, ?_⟩
  · exact fun a e => by cases e; exact ⟨od, hgd, hx.2.1⟩
  · have I3 : Inv X pins σ (upd H1 d (.frz od (.dT kvs))) { s1 with heap := s1.heap.push { cls := .type "dict_values", data := .fields #[.ref d] } } := I2.kept (t' := s1.toks) fun b ob q => Heap.get?_push_of_some _ q
    have fin : wpAny (model X.prog X.w) X.A (pyIter (.ref s1.heap.objs.size)) (PIE X pins σ tg R) X.xe { s1 with heap := s1.heap.push { cls := .type "dict_values", data := .fields #[.ref d] } } := by
      refine wpAny_pyIter_values_raw (d := d) ⟨_, Heap.get?_push_size _ rfl, rfl, rfl⟩ (hraw.push _) (pi_one (tk := s1.toks) I3 _ (turn_valsT _ hdt) ⟨_, Heap.get?_push_size _ rfl, rfl, ?_⟩ q)
      rw [hsz] <;> rfl
    show wpAny _ _ (callWith cpos (.builtin "dict.values") [.ref d] [] []) _ X.xe s1
    exact method_meetsIn F.slot_dict_values F.entry_dict_values rfl (PySem.evalArgs_none ⟨rfl, ⟨od, hgd, hx.1⟩, F.args_dict_values_1 _, _, meets_dict_values_raw d hs, ⟨es, ep, hraw⟩, fin⟩)
theorem pi_keysL (he : PE X e td) (hbase : attributeBase e "keys" X.env (eval e X.env) = eval e X.env) (hline : (apos.endLine == cpos.line) = true) : PI X tg (.Call (.Attribute e "keys" apos) [] [] cpos) (iKeysL X td) := by
  refine ⟨fun pins s σ H R I h => ?_⟩
  refine wpAny_Call_method (T := "dict") (id := "dict.keys") hbase rfl hline F.plainAttrs_dict F.slot_dict_keys F.type_dict_keys (thn (he.run pins s σ H _ I h) fun u s1 ⟨x, H1, I1, rx, d, kvs, ex, hd, q⟩ => ?_)
  subst ex
  obtain rfl : u = Value.ref d := rx
  obtain ⟨od, I2⟩ := I1.lock hd (by trivial)
  have q := q (I1.nofrz hd (by trivial)) od
  have hd2 : upd H1 d (.frz od (.dT kvs)) d = some (.frz od (.dT kvs)) := upd_same
  obtain ⟨hs, hgd, hx, es, ep, hdt, hsz, ent⟩ := I2.frzT hd2
  have hraw : s1.heap.DictRaw d es ep := ⟨od, hgd, hx, hdt⟩
  refine ⟨⟨od, hgd, hx.1⟩, ?_, ?_⟩
  · exact fun a e => by cases e; exact ⟨od, hgd, hx.2.1⟩
  · have I3 : Inv X pins σ (upd H1 d (.frz od (.dT kvs))) { s1 with heap := s1.heap.push { cls := .type "dict_keys", data := .fields #[.ref d] } } := I2.kept (t' := s1.toks) fun b ob q => Heap.get?_push_of_some _ q
    have fin : wpAny (model X.prog X.w) X.A (pyIter (.ref s1.heap.objs.size)) (PIE X pins σ tg R) X.xe { s1 with heap := s1.heap.push { cls := .type "dict_keys", data := .fields #[.ref d] } } := by
      refine wpAny_pyIter_keys_raw (d := d) ⟨_, Heap.get?_push_size _ rfl, rfl, rfl⟩ (hraw.push _) (pi_one (tk := s1.toks) I3 _ (turn_keysT _ hdt) ⟨_, Heap.get?_push_size _ rfl, rfl, ?_⟩ q)
      rw [hsz] <;> rfl
    show wpAny _ _ (callWith cpos (.builtin "dict.keys") [.ref d] [] []) _ X.xe s1
    exact method_meetsIn F.slot_dict_keys F.entry_dict_keys rfl (PySem.evalArgs_none ⟨rfl, ⟨od, hgd, hx.1⟩, F.args_dict_keys_1 _, _, meets_dict_keys_raw d hs, ⟨es, ep, hraw⟩, fin⟩)
end
end NF
end -- NfVals

section -- NfVals2
set_option linter.all false
set_option autoImplicit false
set_option maxRecDepth 100000
set_option maxHeartbeats 2000000
/-! Comprehensions over d.keys(), d.values(): the dict is locked while they run. -/
namespace NF
open PySem PySem.Spec PyProof.Rows L2 SrtO
/-- what is known of the dict that is walked -/
def UnF (X : Cx) (H H' : Hp) (ι' : List Addr) (wk : Wk) : Prop := ∃ n kvs ds a o ws, wk = .dict n kvs ds ∧ ι'[n]? = some a ∧ NoF X a ∧ H' a = some (.frz o (.dT ws)) ∧ KTs H' ι' kvs ws ∧ ∀ o u, H a ≠ some (.frz o u)
def tWL (C : Cfg) (X : Cx) (W : WX) (m : Env → M Wk) : TI := fun σ H R => ∃ ρ S ι, ER H ι σ ρ ∧ StR C X.K H ι S ∧ match m ρ S with
  | .ok wk S' => ∀ J H' ι', Ext H ι H' ι' → StR C X.K H' ι' S' → WkV C X.K H' ι' wk J → UnF X H H' ι' wk → R J H'
  | .exn c S' => ∀ H' ι', Ext H ι H' ι' → StR C X.K H' ι' S' → W (.ref (C.cad c)) none σ H'
  | .bad => False
theorem kts_at {H : Hp} {ι : List Addr} : ∀ {kvs : List ((Int × Int) × NF.D)} {ws : List (List L2.Key × V)} {i : Nat} {k : Int × Int} {d : NF.D}, KTs H ι kvs ws → kvs[i]? = some (k, d) → ∃ v, ws[i]? = some (keyD k, v) ∧ DV H ι d v
  | [], _, _, _, _, _, e => by simp at e
  | (j, x) :: r, ws, 0, k, d, h, e => by
    obtain ⟨v, q, rfl, h1, _⟩ := h
    simp at e
    obtain ⟨rfl, rfl⟩ := e
    exact ⟨v, rfl, h1⟩
  | (j, x) :: r, ws, i + 1, k, d, h, e => by
    obtain ⟨v, q, rfl, _, h2⟩ := h
    simpa using kts_at (i := i) h2 (by simpa using e)
theorem kts_length {H : Hp} {ι : List Addr} : ∀ {kvs : List ((Int × Int) × NF.D)} {ws : List (List L2.Key × V)}, KTs H ι kvs ws → ws.length = kvs.length
  | [], ws, h => by rw [KTs] at h; subst h; rfl
  | (j, d) :: r, ws, h => by
    obtain ⟨v, q, rfl, h1, h2⟩ := h
    rw [List.length_cons, List.length_cons, kts_length h2]
section
variable {C : Cfg} {X : Cx} {W : WX} {tg e : Expr} {ma : Env → M NF.D} {apos cpos : Pos}
theorem wk_vals {K : PySem.W.Frag} {H : Hp} {ι : List Addr} {n : Nat} {kvs : List ((Int × Int) × NF.D)} {a : Addr} {o : Obj} {ws : List (List L2.Key × V)} (h : H a = some (.frz o (.dT ws))) (r : KTs H ι kvs ws) : WkV C K H ι (.dict n kvs (kvs.map (·.2))) (Itdt a o ws) := by
  intro H' ι' S' e s st i
  have h' := e.lck a o _ h
  have r' := KTs.ext e _ _ r
  refine ⟨fun hi => ⟨h', by rw [kts_length r']; simpa [Wk.items] using hi⟩, fun d hd => ?_⟩
  have hd' : (kvs.map (·.2))[i]? = some d := hd
  rw [List.getElem?_map] at hd'
  cases hk : kvs[i]? with
  | none => rw [hk] at hd'; cases hd'
  | some kv =>
    obtain ⟨k, d'⟩ := kv
    rw [hk] at hd'
    cases hd'
    obtain ⟨v, hv, dv⟩ := kts_at r' hk
    have hi : i < ws.length := (List.getElem?_eq_some_iff.mp hv).1
    refine ⟨⟨h', hi⟩, fun x H'' ⟨eH, k', y⟩ => ⟨eH, ?_⟩⟩
    rw [hv] at y
    cases y
    exact dv
theorem wk_keys {K : PySem.W.Frag} {H : Hp} {ι : List Addr} {n : Nat} {kvs : List ((Int × Int) × NF.D)} {a : Addr} {o : Obj} {ws : List (List L2.Key × V)} (h : H a = some (.frz o (.dT ws))) (r : KTs H ι kvs ws) : WkV C K H ι (.dict n kvs (kvs.map fun kv => pairD kv.1)) (Itkt a o ws) := by
  intro H' ι' S' e s st i
  have h' := e.lck a o _ h
  have r' := KTs.ext e _ _ r
  refine ⟨fun hi => ⟨h', by rw [kts_length r']; simpa [Wk.items] using hi⟩, fun d hd => ?_⟩
  have hd' : (kvs.map fun kv => pairD kv.1)[i]? = some d := hd
  rw [List.getElem?_map] at hd'
  cases hk : kvs[i]? with
  | none => rw [hk] at hd'; cases hd'
  | some kv =>
    obtain ⟨k, d'⟩ := kv
    rw [hk] at hd'
    cases hd'
    obtain ⟨v, hv, dv⟩ := kts_at r' hk
    have hi : i < ws.length := (List.getElem?_eq_some_iff.mp hv).1
    refine ⟨⟨h', hi⟩, fun x H'' y => ?_⟩
    obtain ⟨eH, k', v', q, hq, ex, hH⟩ := y
    refine ⟨eH, ?_⟩
    rw [hv] at hq
    cases hq
    subst ex
    exact ⟨q, _, rfl, hH, _, _, rfl, rfl, _, _, rfl, rfl, rfl⟩
theorem lock_ext {K : PySem.W.Frag} {H H1 : Hp} {ι ι1 : List Addr} {S1 : Store} {n : Nat} {kvs : List ((Int × Int) × NF.D)} {a : Addr} {o : Obj} {ws : List (List L2.Key × V)} (e1 : Ext H ι H1 ι1) (s1 : StR C K H1 ι1 S1) (hn : S1[n]? = some (.dct kvs)) (ha : ι1[n]? = some a) (h1 : H1 a = some (.dT ws)) (r : KTs H1 ι1 kvs ws) :
    StR C K (upd H1 a (.frz o (.dT ws))) ι1 (S1.set n (.lck kvs)) ∧ Ext H ι (upd H1 a (.frz o (.dT ws))) ι1 ∧ KTs (upd H1 a (.frz o (.dT ws))) ι1 kvs ws ∧ ∀ o u, H a ≠ some (.frz o u) := by
  obtain ⟨s', e'⟩ := s1.put' (u := .frz o (.dT ws)) (o' := .lck kvs) hn rfl ha (fun _ _ z => by rw [h1] at z; cases z) rfl (fun e => ⟨o, ws, upd_same, KTs.ext e _ _ r⟩)
  exact ⟨s', e1.trans e', KTs.ext e' _ _ r, fun o u z => by have := e1.lck a o u z; rw [h1] at this; cases this⟩
theorem pi_vals' (he : PE X e (tD C X.K W ma)) (hbase : attributeBase e "values" X.env (eval e X.env) = eval e X.env) (hline : (apos.endLine == cpos.line) = true) : PI X tg (.Call (.Attribute e "values" apos) [] [] cpos) (tWL C X W fun ρ => NF.bnd (ma ρ) fun x => wkOf .vals [x]) :=
  (pi_valsL he hbase hline).imp fun σ H R h => by
    obtain ⟨ρ, S, ι, er, s, p⟩ := h
    refine ⟨ρ, S, ι, er, s, ?_⟩
    unfold NF.bnd at p
    cases hm : ma ρ S with
    | bad => simp only [hm] at p
    | exn c S1 => simp only [hm] at p; exact p
    | ok d S1 =>
      simp only [hm] at p
      intro x H1 ι1 e1 s1 dv
      cases d with
      | ref n =>
        obtain ⟨a, rfl, ha⟩ := dv
        unfold wkOf NF.bnd NF.obj at p
        simp only at p
        cases ho : S1[n]? with
        | none => simp only [ho] at p
        | some o =>
          simp only [ho] at p
          cases o with
          | dct kvs =>
            obtain ⟨ws, h1, r⟩ := s1.look ho ha
            refine ⟨a, ws, rfl, h1, fun nf o => ?_⟩
            obtain ⟨s2, e2, r2, hz⟩ := lock_ext (o := o) e1 s1 ho ha h1 r
            exact p _ _ ι1 e2 s2 (wk_vals upd_same r2) ⟨n, kvs, _, a, o, ws, rfl, ha, nf, upd_same, r2, hz⟩
          | _ => exact False.elim p
      | _ => exact False.elim p
theorem pi_keys' (he : PE X e (tD C X.K W ma)) (hbase : attributeBase e "keys" X.env (eval e X.env) = eval e X.env) (hline : (apos.endLine == cpos.line) = true) : PI X tg (.Call (.Attribute e "keys" apos) [] [] cpos) (tWL C X W fun ρ => NF.bnd (ma ρ) fun x => wkOf .keys [x]) :=
  (pi_keysL he hbase hline).imp fun σ H R h => by
    obtain ⟨ρ, S, ι, er, s, p⟩ := h
    refine ⟨ρ, S, ι, er, s, ?_⟩
    unfold NF.bnd at p
    cases hm : ma ρ S with
    | bad => simp only [hm] at p
    | exn c S1 => simp only [hm] at p; exact p
    | ok d S1 =>
      simp only [hm] at p
      intro x H1 ι1 e1 s1 dv
      cases d with
      | ref n =>
        obtain ⟨a, rfl, ha⟩ := dv
        unfold wkOf NF.bnd NF.obj at p
        simp only at p
        cases ho : S1[n]? with
        | none => simp only [ho] at p
        | some o =>
          simp only [ho] at p
          cases o with
          | dct kvs =>
            obtain ⟨ws, h1, r⟩ := s1.look ho ha
            refine ⟨a, ws, rfl, h1, fun nf o => ?_⟩
            obtain ⟨s2, e2, r2, hz⟩ := lock_ext (o := o) e1 s1 ho ha h1 r
            exact p _ _ ι1 e2 s2 (wk_keys upd_same r2) ⟨n, kvs, _, a, o, ws, rfl, ha, nf, upd_same, r2, hz⟩
          | _ => exact False.elim p
      | _ => exact False.elim p
/-- behind the walk the dict is free again -/
def unlk (X : Cx) (R : Hp → Prop) : Hp → Prop := fun H' => ∃ d od u, H' d = some (.frz od u) ∧ NoF X d ∧ R (upd H' d u)
theorem pe_unlk {t : TE} (h : PE X e t) : PE X e (fun σ H Q => t σ H fun v H' => unlk X (Q v) H') := by
  refine ⟨fun pins s σ H Q I hw => ?_⟩
  refine thn (h.run pins s σ H _ I hw) fun v s1 ⟨x, H1, I1, r, d, od, u, e1, nf, q⟩ => ?_
  exact ⟨x, _, I1.unlock e1 nf, r, q⟩
theorem ps_unlk {st : Stmt} {t : TS} (h : PS X st t) : PS X st (fun D σ H => t ⟨fun σ' H' => unlk X (D.nx σ') H', D.rt, D.bk, D.ct⟩ σ H) := by
  refine ⟨fun pins s σ H D I hw => ?_⟩
  refine thn (h.run pins s σ H _ I hw) fun f s1 q => ?_
  cases f with
  | next => obtain ⟨σ', H', I2, d, od, u, e1, nf, q⟩ := q; exact ⟨σ', _, I2.unlock e1 nf, q⟩
  | brk => exact q
  | cont => exact q
  | ret v => exact q
theorem lc_readD {mw : Env → M Wk} {mt : Env → M Bool} {me : Env → M NF.D} {tg : Tg} {own : List Nat} (htg : ∀ i ∈ tg.ixs, i ∈ own) {σ : L2.St} {H : Hp} {Q : VK}
    (h : tD C X.K W (lcM mw tg own mt me) σ H Q) : tLc (tWL C X W mw) (gTg C X.K tg) (tT C X.K noW mt) (tD C X.K noW me) own σ H (fun v H' => unlk X (Q v) H') := by
  obtain ⟨ρ, S, ι, er, s, p⟩ := h
  refine ⟨ρ, S, ι, er, s, ?_⟩
  unfold lcM at p
  cases hm : mw ρ S with
  | bad => unfold NF.bnd at p; simp only [hm] at p; exact False.elim p
  | exn c S1 => unfold NF.bnd at p; simp only [hm] at p; exact p
  | ok wk S1 =>
    rw [bnd_of hm] at p
    intro J H1 ι1 e1 s1 hw un L hL
    obtain ⟨n, kvs, ds0, a, o, ws, rfl, ha, nf, hfz, kt, hz⟩ := un
    cases hc : collect (.dict n kvs ds0) (turnM tg own mt me ρ) (Wk.dict n kvs ds0).items S1 with
    | bad => unfold NF.bnd at p; simp only [hc] at p; exact False.elim p
    | exn c S2 => exact absurd hc (collect_no (fun _ _ _ => noExn_no) _ _ _)
    | ok ds S2 =>
      rw [bnd_of hc] at p
      have p0 : Post C X.K W σ DV H ι (NF.bnd (NF.bnd (NF.obj n) fun o => match o with
        | .lck _ => NF.put n (.dct kvs)
        | _ => NF.bad) (fun _ => if ds.length ≤ line then NF.new (.lst ds) else NF.bad) S2) Q := p
      rw [bnd_assoc] at p0
      obtain ⟨ob, hob, p1⟩ := Post.obj (n := n) p0
      cases ob with
      | lck kvs' =>
        have p' : Post C X.K W σ DV H ι ((if ds.length ≤ line then NF.new (.lst ds) else NF.bad) (S2.set n (.dct kvs))) Q := p1
        obtain ⟨hl, p2⟩ := Post.ifT p'
        refine lc_loop htg (er.ext e1) s1 hw hc hl hL fun H' ι' vs e s' hL' r hn => ?_
        have hfz' := e.lck a o _ hfz
        have ha' := e.at ha
        refine ⟨a, o, _, hfz', nf, ?_⟩
        have hu : Ex0 H' ι' (upd H' a (.dT ws)) ι' := ⟨List.prefix_refl _, fun b us hb => by rw [upd_ne (by rintro rfl; rw [hfz'] at hb; cases hb)]; exact hb⟩
        have s3 : StR C X.K (upd H' a (.dT ws)) ι' (S2.set n (.dct kvs)) := s'.put0 hob rfl ha' (fun ob x z => by rw [hfz'] at z; cases z) rfl ⟨ws, upd_same, (KTs.ext e _ _ kt).ext0 hu⟩ (fun c z => by cases z)
        have hLa : L ≠ a := by rintro rfl; rw [hL'] at hfz'; cases hfz'
        have hL3 : upd H' a (.dT ws) L = some (.lst vs) := by rw [upd_ne hLa]; exact hL'
        have hD0 : L ∈ ι.drop 2 ∨ ∀ o, H L = some o → ∃ ps, o = .tbl ps := by
          by_cases hn : L ∈ ι.drop 2
          · exact .inl hn
          · refine .inr fun o ho => ?_
            by_cases ht : ∀ ps, o ≠ .tbl ps
            · rw [e1.frame L o ho ht hn] at hL; cases hL
            · obtain ⟨ps, ht⟩ := Classical.not_forall.mp ht
              exact ⟨ps, Classical.not_not.mp ht⟩
        have eT := e1.trans e
        have hau : a ∈ ι'.drop 2 := s'.unf hob rfl ha'
        have eA : Ext H ι (upd H' a (.dT ws)) (ι' ++ [L]) := ⟨eT.pre.trans (List.prefix_append _ _), fun b us hb => hu.tup b us (eT.tup b us hb), fun b o hb ht hn => by
            rw [upd_ne]
            · exact eT.frame b o hb ht hn
            · rintro rfl
              rcases eT.fresh b hau with z | z
              · exact hn z
              · obtain ⟨ps, z⟩ := z o hb
                exact ht ps z, fun b hb => by
            rcases mem_drop_app hb with z | z
            · exact eT.fresh b z
            · subst z; exact hD0, fun b o u hb => by
            rw [upd_ne (by rintro rfl; exact hz _ _ hb)]
            exact eT.lck b o u hb⟩
        have sA := s3.app (o := .lst ds) hn hL3 (fun _ _ z => by cases z) ⟨vs, hL3, (r.ext0 hu).ext0 ⟨List.prefix_append _ _, fun _ _ h => h⟩⟩ rfl
        refine p2 (.ref L) _ (ι' ++ [L]) eA sA ⟨L, rfl, ?_⟩
        have hlen : (S2.set n (.dct kvs)).length = ι'.length := by rw [List.length_set, s'.len]
        rw [hlen, List.getElem?_append_right (Nat.le_refl _)]
        simp
      | _ => exact False.elim p1
variable {pos : Pos}
theorem me_lcD {elt tg iter : Expr} {ifs : List Expr} {scope : Scope} {own : List (PySem.Str × Nat)} {mw : Env → M Wk} {mt : Env → M Bool} {me : Env → M NF.D} {g : Tg} (hc : X.calm = true) (hN : X.N.Nodup) (hi : PI X tg iter (tWL C X W mw)) (ok : BlkOk X.N X.env.scope scope own)
    (htg : ∀ i ∈ g.ixs, i ∈ own.map (·.2))
    (hg : ∀ (s : Shared) (H : Hp) (Cc : Addr) (cl : List (PySem.Str × Addr)) (fp : List Addr), PG (X.blk s H scope (compEnvC scope cl Cc X.env) fp) tg (gTg C X.K g)) (ht : ∀ (s : Shared) (H : Hp) (Cc : Addr) (cl : List (PySem.Str × Addr)) (fp : List Addr), PTs (X.blk s H scope (compEnvC scope cl Cc X.env) fp) ifs (tT C X.K noW mt))
    (he : ∀ (s : Shared) (H : Hp) (Cc : Addr) (cl : List (PySem.Str × Addr)) (fp : List Addr), PE (X.blk s H scope (compEnvC scope cl Cc X.env) fp) elt (tD C X.K noW me)) (hs : ∀ x, foldedSetIterable iter X.env x = pure x) :
    PE X (.ListComp elt [⟨tg, iter, ifs, 0⟩] scope pos) (tD C X.K W (lcM mw g (own.map (·.2)) mt me)) :=
  (pe_unlk (pe_lc hc hN hi ok hg ht he hs)).imp fun σ H Q h => lc_readD htg h
theorem ms_setLcD {i : Nat} {y : PySem.Str} {py spos : Pos} {elt tg iter : Expr} {ifs : List Expr} {scope : Scope} {own : List (PySem.Str × Nat)} {mw : Env → M Wk} {mt : Env → M Bool} {me : Env → M NF.D} {g : Tg} (hc : X.calm = true) (hN : X.N.Nodup) (hy : X.N[i]? = some y) (hyl : X.env.scope.names.lookup y = some .local)
    (hsw : swapsWith (.ListComp elt [⟨tg, iter, ifs, 0⟩] scope pos) (some (.Name y py)) spos.line X.env = pure true) (hi : PI X tg iter (tWL C X W mw)) (ok : BlkOk X.N X.env.scope scope own)
    (htg : ∀ i ∈ g.ixs, i ∈ own.map (·.2))
    (hg : ∀ (s : Shared) (H : Hp) (Cc : Addr) (cl : List (PySem.Str × Addr)) (fp : List Addr), PG (X.blk s H scope (compEnvC scope cl Cc X.env) fp) tg (gTg C X.K g)) (ht : ∀ (s : Shared) (H : Hp) (Cc : Addr) (cl : List (PySem.Str × Addr)) (fp : List Addr), PTs (X.blk s H scope (compEnvC scope cl Cc X.env) fp) ifs (tT C X.K noW mt))
    (he : ∀ (s : Shared) (H : Hp) (Cc : Addr) (cl : List (PySem.Str × Addr)) (fp : List Addr), PE (X.blk s H scope (compEnvC scope cl Cc X.env) fp) elt (tD C X.K noW me)) (hs : ∀ x, foldedSetIterable iter X.env x = pure x) :
    PS X (.Assign [.Name y py] (.ListComp elt [⟨tg, iter, ifs, 0⟩] scope pos) spos) (tS C X.K W fun ρ => liftM (lcM mw g (own.map (·.2)) mt me ρ) ρ fun d => sret (.nx (ρ.set i (some d)))) :=
  (ps_unlk (ps_setLc hc hN hy hyl hsw hi ok hg ht he hs)).imp fun D σ H h => by
    have := lc_readD (X := X) htg (lone (k := fun d ρ => sret (.nx (ρ.set i (some d)))) h fun ρ S ι a b H1 er s dv p => p.nx s (er.set dv i))
    exact this
end
end NF
end -- NfVals2

section -- NfIsTy
set_option linter.all false
set_option autoImplicit false
set_option maxRecDepth 100000
set_option maxHeartbeats 1000000
/-! isinstance(x, t), t a built-in type. -/
namespace NF
open PySem PySem.Spec PyProof.Rows L2
def Ty.name : Ty → String
  | .tuple => "tuple" | .str => "str" | .int => "int" | .list => "list" | .dict => "dict"
section
variable {C : Cfg} {X : Cx} {W : WX} {pos : Pos}
theorem isTy_post {K : PySem.W.Frag} {W : WX} {σ : L2.St} {H : Hp} {ι : List Addr} {S : Store} {d : NF.D} {x : V} {t : Ty} {Q : VK} (s : StR C K H ι S) (dv : DV H ι d x) (p : Post C K W σ DV H ι (NF.bnd (isTyD d t) (fun b => NF.ret (.bl b)) S) Q) :
    ∃ (T : String) (b : Bool), TyX K H x (.type T) ∧ kitB T t.name = some b ∧ Q (.bl b) H := by
  cases d with
  | non => rw [DV] at dv; subst dv; exact ⟨"NoneType", false, .base .non, by cases t <;> decide +kernel, by cases t <;> exact p.ret s rfl⟩
  | bl k =>
    rw [DV] at dv; subst dv
    cases t with
    | int => exact ⟨"bool", true, .base (.bl k), by decide +kernel, p.ret s rfl⟩
    | _ => exact ⟨"bool", false, .base (.bl k), by decide +kernel, p.ret s rfl⟩
  | int k =>
    rw [DV] at dv; subst dv
    cases t with
    | int => exact ⟨"int", true, .base (.int k), by decide +kernel, p.ret s rfl⟩
    | _ => exact ⟨"int", false, .base (.int k), by decide +kernel, p.ret s rfl⟩
  | str k =>
    obtain ⟨rfl, _⟩ := dv
    cases t with
    | str => exact ⟨"str", true, .base (.str _), by decide +kernel, p.ret s rfl⟩
    | _ => exact ⟨"str", false, .base (.str _), by decide +kernel, p.ret s rfl⟩
  | tup ds =>
    obtain ⟨a, vs, rfl, ha, _⟩ := dv
    cases t with
    | tuple => exact ⟨"tuple", true, .base (.tup ha), by decide +kernel, p.ret s rfl⟩
    | _ => exact ⟨"tuple", false, .base (.tup ha), by decide +kernel, p.ret s rfl⟩
  | ref n =>
    obtain ⟨a, rfl, hι⟩ := id dv
    have p1 : Post C K W σ DV H ι (NF.bnd (NF.bnd (NF.obj n) fun o => match o, t with
      | .lst _, .list => NF.ret true
      | .lst _, _ => NF.ret false
      | .dct _, .dict => NF.ret true
      | .dct _, _ => NF.ret false
      | .dck _, .dict => NF.ret true
      | .dck _, _ => NF.ret false
      | _, _ => bad) (fun b => NF.ret (.bl b)) S) Q := p
    rw [bnd_assoc] at p1
    obtain ⟨o, ho, p2⟩ := p1.obj
    cases o with
    | lst ds =>
      obtain ⟨vs, h1, _⟩ := s.look ho hι
      cases t with
      | list => exact ⟨"list", true, .base (.lst h1), by decide +kernel, p2.ret s rfl⟩
      | _ => exact ⟨"list", false, .base (.lst h1), by decide +kernel, p2.ret s rfl⟩
    | dct ds =>
      obtain ⟨vs, h1, _⟩ := s.look ho hι
      cases t with
      | dict => exact ⟨"dict", true, .base (.dT h1), by decide +kernel, p2.ret s rfl⟩
      | _ => exact ⟨"dict", false, .base (.dT h1), by decide +kernel, p2.ret s rfl⟩
    | dck ds =>
      obtain ⟨vs, h1, _⟩ := s.look ho hι
      cases t with
      | dict => exact ⟨"dict", true, .base (.dK h1), by decide +kernel, p2.ret s rfl⟩
      | _ => exact ⟨"dict", false, .base (.dK h1), by decide +kernel, p2.ret s rfl⟩
    | _ => exact False.elim p2
theorem ty_boot (t : Ty) : bootBuiltins (PySem.Str.ofString t.name) = some (.type t.name) := by cases t <;> rfl
theorem me_isTy {a : Expr} {t : Ty} {p0 p1 : Pos} {ma : Env → M NF.D} (hg : Gl X "isinstance") (hm : X.mg "isinstance" = none) (hg2 : Gl X (PySem.Str.ofString t.name)) (hm2 : X.mg (PySem.Str.ofString t.name) = none) (ha : PE X a (tD C X.K W ma)) (hh : headOk a = true) :
    PE X (.Call (.Name "isinstance" p0) [a, .Name (PySem.Str.ofString t.name) p1] [] pos) (tD C X.K W fun ρ => NF.bnd (ma ρ) fun x => NF.bnd (isTyD x t) fun b => NF.ret (.bl b)) := by
  have hb : PE X (.Name (PySem.Str.ofString t.name) p1) (tC (.ty t.name)) := pe_bltn (u := .type t.name) hg2 hm2 (ty_boot t) rfl (by cases t <;> decide +kernel) (by cases t <;> decide +kernel)
  refine (pe_callB call_isi hg hm (by rfl) (pa_cons ha (pa_cons hb pa_nil) (star_ok hh)) (by decide +kernel) (by decide +kernel) (star_ok hh) (by rfl)).imp fun σ H Q h => one (g := fun x _ => NF.bnd (isTyD x t) fun b => NF.ret (NF.D.bl b)) h fun ρ S ι d x H1 er s dv p => ?_
  obtain ⟨T, b, h1, h2, h3⟩ := isTy_post s dv p
  exact ⟨x, .ty t.name, .type T, .type t.name, b, rfl, .ty _, h1, kit_ty h2, h3⟩
end
end NF
end -- NfIsTy

section -- NfInt
set_option linter.all false
set_option autoImplicit false
set_option maxRecDepth 100000
set_option maxHeartbeats 1000000
/-! int(x). -/
namespace NF
open PySem PySem.Spec PyProof.Rows L2
theorem foldl_digits : ∀ (x : List Nat) (n : Nat), (x.all fun c => decide (48 ≤ c) && decide (c ≤ 57)) = true → x.foldl (fun (n : Int) (c : Nat) => n * 10 + ((c : Int) - 48)) (n : Int) = ((x.foldl (fun acc c => acc * 10 + (c - 48)) n : Nat) : Int)
  | [], n, _ => rfl
  | c :: x, n, h => by
    rw [List.all_cons, Bool.and_eq_true, Bool.and_eq_true, decide_eq_true_eq, decide_eq_true_eq] at h
    rw [List.foldl_cons, List.foldl_cons, ← foldl_digits x _ h.2]
    congr 1
    omega
theorem num_text {x : List Nat} (h : isNum x = true) : PySem.intText? (strOf x) = some (numOf x) := by
  unfold isNum at h
  simp only [Bool.and_eq_true, decide_eq_true_eq] at h
  obtain ⟨⟨h1, h2⟩, h3⟩ := h
  have e := PySem.intText_digits (x := strOf x) (fun c hc => by
    rw [strOf_list] at hc
    have z := List.all_eq_true.mp h3 c hc
    simpa using z) (by rw [strOf_list]; intro z; rw [z] at h1; simp at h1) (by rw [strOf_len]; omega)
  rw [e, strOf_list]
  unfold numOf
  rw [show (0 : Int) = ((0 : Nat) : Int) from rfl, foldl_digits x 0 h3]
  rfl
section
variable {C : Cfg} {X : Cx}
theorem cr_int : CallR X (.type "int") rIntB := call_int1.or call_int_str
theorem bv_int : BV1s C X.K (biM .int) rIntB := by
  intro W σ H ι S ds xs Q s dvs p
  obtain ⟨d, x, rfl, rfl, d1, p⟩ := Post.arg1 p dvs
  cases d with
  | int i =>
    rw [DV] at d1; subst d1
    exact .inl (.inl ⟨i, rfl, Post.ret p s rfl⟩)
  | bl b =>
    rw [DV] at d1; subst d1
    exact .inl (.inr ⟨b, rfl, Post.ret p s rfl⟩)
  | str z =>
    rw [DV] at d1
    obtain ⟨rfl, hz⟩ := d1
    obtain ⟨h, p⟩ := Post.ifT (m := NF.ret (D.int (numOf z))) p
    refine .inr ⟨_, _, rfl, num_text h, ?_, p.ret s rfl⟩
    unfold isNum at h
    simp only [Bool.and_eq_true, decide_eq_true_eq] at h
    rw [strOf_len]; omega
  | _ => exact False.elim p
end
end NF
end -- NfInt

section -- NfChk2
set_option linter.all false
set_option autoImplicit false
set_option maxRecDepth 100000
set_option maxHeartbeats 1000000
/-! The checker: a tree of the language reads a tree of the text. -/
namespace NF
open PySem PySem.Spec PyProof.Rows L2
/-- what is known of a place before it runs -/
structure Sc where
  N : List PySem.Str
  sc : Scope
  top : Bool
  lam : Bool
/-- what the module holds, by names -/
structure Gi where
  fn : String → Option Nat
  meth : Cl → String → Option Nat
  mkn : Cl → Option Nat
  ex : Ex → Bool
  con : String → D → Bool
def str (s : String) : PySem.Str := PySem.Str.ofString s
def visB (sc : Scope) (x : PySem.Str) : Bool := match sc.names.lookup x with
  | some .local => true
  | some .cell => true
  | some .free => true
  | _ => false
def glB (sc : Scope) (x : PySem.Str) : Bool := match sc.names.lookup x with
  | some .globalImplicit => true
  | _ => false
def okN (x : PySem.Str) : Bool := !(x == ("__debug__" : PySem.Str)) && !(x == ("__classdict__" : PySem.Str))
def nameB (N : List PySem.Str) (i : Nat) (x : PySem.Str) : Bool := decide (N[i]? = some x)
/-- a name that is stored -/
def stoB (c : Sc) (i : Nat) (x : PySem.Str) : Bool := nameB c.N i x && (match c.sc.names.lookup x with
  | some .local => true
  | some .cell => c.top
  | _ => false)
def stosB (c : Sc) : List Expr → List Nat → Bool
  | [], [] => true
  | .Name x _ :: es, i :: is => stoB c i x && stosB c es is
  | _, _ => false
def tgB (c : Sc) : Tg → Expr → Bool
  | .nm i, .Name x _ => stoB c i x
  | .tup is, .Tuple es _ _ => stosB c es is
  | _, _ => false
def Ex.name : Ex → String
  | .fall => "FallError" | .badDeed => "BadDeed" | .noRow => "NoRow" | .taken => "Taken" | .badName => "BadName" | .badNumber => "BadNumber" | .nothing => "Nothing" | .badText => "BadText"
def sameLine (a b : Pos) : Bool := a.endLine == b.line
/-- a list's method: its name, its built-in -/
def lbName : Bm → Option String
  | .append => some "append" | .extend => some "extend" | .insert => some "insert" | .count => some "count" | .index => some "index" | .pop1 => some "pop" | _ => none
/-- built-in functions -/
def biName : Bi → Option String
  | .len => some "len" | .all => some "all" | .any => some "any" | .max1 => some "max" | .max2 => some "max" | .min2 => some "min" | .sorted => some "sorted" | .list => some "list" | .tuple => some "tuple" | .str => some "str" | .int => some "int" | _ => none
def ownOf (N : List PySem.Str) (own : List Nat) : List (PySem.Str × Nat) := own.filterMap fun i => N[i]?.map fun x => (x, i)
def lamPar : Arguments → Option PySem.Str
  | { posonlyargs := [], args := [⟨x, none, _⟩], vararg := none, kwonlyargs := [], kw_defaults := [], kwarg := none, defaults := [] } => if x = "one" then some "one" else none
  | _ => none
def fnScB (N P : List PySem.Str) (sc : Scope) : Bool :=
  (match sc.kind with | .function => true | _ => false) && !sc.isCoroutine && !sc.isGenerator && decide N.Nodup && decide (N.take P.length = P) && (P.all fun x => match sc.names.lookup x with | some .local => true | some .cell => true | _ => false) &&
    sc.names.all fun y => match y.2 with | .free => false | _ => true
/-- what is walked: the trees that are evaluated for it -/
def itArgs (c : Sc) : Ik → Expr → Option (List Expr)
  | .seq, e => some [e]
  | .rng1, e => match e with
    | .Call (.Name y _) [x] [] _ => if decide (y = "range") && glB c.sc y then some [x] else none
    | _ => none
  | .rng2, e => match e with
    | .Call (.Name y _) [x, z] [] _ => if decide (y = "range") && glB c.sc y then some [x, z] else none
    | _ => none
  | .keys, e => match e with
    | .Call (.Attribute x m ap) [] [] p => if decide (m = "keys") && headOk x && sameLine ap p then some [x] else none
    | _ => none
  | .vals, e => match e with
    | .Call (.Attribute x m ap) [] [] p => if decide (m = "values") && headOk x && sameLine ap p then some [x] else none
    | _ => none
def Ik.plain : Ik → Bool
  | .keys => false
  | .vals => false
  | _ => true
mutual
def chkE (g : Gi) (c : Sc) : E → Expr → Bool
  | .var i, e => match e with
    | .Name x _ => nameB c.N i x && visB c.sc x && okN x
    | _ => false
  | .int i, e => match e with
    | .Constant (.int j) _ _ => decide (i = j)
    | _ => false
  | .str z, e => match e with
    | .Constant (.str x) _ _ => decide (x = strOf z) && okS z
    | _ => false
  | .bl b, e => match e with
    | .Constant (.bool d) _ _ => b == d
    | _ => false
  | .non, e => match e with
    | .Constant .none _ _ => true
    | _ => false
  | .neg i, e => match e with
    | .UnaryOp .USub (.Constant (.int j) _ _) _ => decide (i = j)
    | _ => false
  | .glb x d, e => match e with
    | .Name y _ => decide (y = str x) && glB c.sc y && okN y && g.con x d
    | _ => false
  | .tup es, e => match e with
    | .Tuple xs _ _ => chkEs g c es xs && decide (xs.length ≤ 1000)
    | _ => false
  | .lst es, e => match e with
    | .List xs _ => chkEs g c es xs && decide (xs.length ≤ 1000)
    | _ => false
  | .dctT, e => match e with
    | .Dict [] [] _ => true
    | _ => false
  | .dctK, e => match e with
    | .Dict [] [] _ => true
    | _ => false
  | .disp _ _, _ => false
  | .bin op a b, e => match e with
    | .BinOp x o y _ => decide (o = opOf op) && chkE g c a x && chkE g c b y
    | _ => false
  | .cmp op a b, e => match e with
    | .Compare x [o] [y] _ => decide (o = copOf op) && chkE g c a x && chkE g c b y && headOk y
    | _ => false
  | .chain o p a b d, e => match e with
    | .Compare x [o', p'] [y, z] _ => decide (o' = copOf o) && decide (p' = copOf p) && chkE g c a x && chkE g c b y && chkE g c d z && !(lastMarks [copOf o, copOf p] [y, z])
    | _ => false
  | .isn neg a, e => match e with
    | .Compare x [o] [.Constant .none _ _] _ => decide (o = if neg then .IsNot else .Is) && chkE g c a x
    | _ => false
  | .andv es, e => match e with
    | .BoolOp .And xs _ => chkAnd g c es xs
    | _ => false
  | .orv es, e => match e with
    | .BoolOp .Or xs _ => chkAnd g c es xs
    | _ => false
  | .notv a, e => match e with
    | .UnaryOp .Not x _ => chkE g c a x
    | _ => false
  | .ife t a b, e => match e with
    | .IfExp x y z _ => chkT g c t x && chkE g c a y && chkE g c b z
    | _ => false
  | .idx a b, e => match e with
    | .Subscript x y _ => chkE g c a x && chkE g c b y && headOk y
    | _ => false
  | .dix a b, e => match e with
    | .Subscript x y _ => chkE g c a x && chkE g c b y && headOk y
    | _ => false
  | .slc a lo hi, e => match e with
    | .Subscript x (.Slice l h none _) _ => chkE g c a x && chkO g c lo l && chkO g c hi h
    | _ => false
  | .rev a, e => match e with
    | .Subscript x (.Slice none none (some (.UnaryOp .USub (.Constant (.int 1) _ _) _)) _) _ => chkE g c a x
    | _ => false
  | .att cl i a, e => match e with
    | .Attribute x f _ => decide (cl.fields[i]? = some f) && chkE g c a x && headOk x && (g.mkn cl).isSome
    | _ => false
  | .call f es, e => match e with
    | .Call (.Name y _) (x :: xs) [] _ => decide (y = str f) && glB c.sc y && okN y && chkEs g c es (x :: xs) && (x :: xs).all headOk && decide (g.fn f = some es.length)
    | _ => false
  | .mk cl es, e => match e with
    | .Call (.Name y _) (x :: xs) [] _ => decide (y = str cl.name) && glB c.sc y && okN y && chkEs g c es (x :: xs) && (x :: xs).all headOk && decide (g.mkn cl = some (es.length + 1))
    | _ => false
  | .meth cl m a es, e => match e with
    | .Call (.Attribute x y ap) xs [] p => decide (y = str m) && !(cl.fields.contains y) && chkE g c a x && headOk x && chkEs g c es xs && xs.all headOk && decide (xs.length < 20) && sameLine ap p && decide (g.meth cl m = some (es.length + 1))
    | _ => false
  | .bi b es, e => match e with
    | .Call (.Name y _) (x :: xs) [] _ => (match biName b with | some s => decide (y = str s) && glB c.sc y && okN y && chkEs g c es (x :: xs) && (x :: xs).all headOk | none => false)
    | _ => false
  | .bm m a es, e => match e with
    | .Call (.Attribute x y ap) xs [] p => chkE g c a x && headOk x && chkEs g c es xs && xs.all headOk && decide (xs.length < 20) && sameLine ap p &&
      (match m with
        | .pop0 => decide (y = "pop") && xs.isEmpty
        | .join => decide (y = "join") && decide (xs.length = 1)
        | .get => decide (y = "get") && decide (xs.length = 2)
        | _ => (match lbName m with | some s => decide (y = str s) && !xs.isEmpty | none => false))
    | _ => false
  | .lenset a, e => match e with
    | .Call (.Name y _) [.Call (.Name z _) [x] [] _] [] _ => decide (y = "len") && decide (z = "set") && glB c.sc y && glB c.sc z && chkE g c a x && headOk x
    | _ => false
  | .sortset a, e => match e with
    | .Call (.Name y _) [.Call (.Name z _) [x] [] _] [] _ => decide (y = "sorted") && decide (z = "set") && glB c.sc y && glB c.sc z && chkE g c a x && headOk x
    | _ => false
  | .sortkeys a, e => match e with
    | .Call (.Name y _) [.Call (.Attribute x m ap) [] [] p] [] _ => decide (y = "sorted") && decide (m = "keys") && glB c.sc y && chkE g c a x && headOk x && sameLine ap p
    | _ => false
  | .listkeys a, e => match e with
    | .Call (.Name y _) [.Call (.Attribute x m ap) [] [] p] [] _ => decide (y = "list") && decide (m = "keys") && glB c.sc y && chkE g c a x && headOk x && sameLine ap p
    | _ => false
  | .sortk _ a body, e => match e with
    | .Call (.Name y _) [x] [⟨some k, .Lambda ps b sc _, _⟩] _ => decide (y = "sorted") && decide (k = "key") && glB c.sc y && chkE g c a x && headOk x && c.lam && (match lamPar ps with
      | some pn => fnScB [pn] [pn] sc && chkE g ⟨[pn], sc, true, false⟩ body b
      | none => false)
    | _ => false
  | .sortf _ _, _ => false
  | .isTy a ty, e => match e with
    | .Call (.Name y _) [x, .Name z _] [] _ => decide (y = "isinstance") && decide (z = PySem.Str.ofString ty.name) && glB c.sc y && glB c.sc z && chkE g c a x && headOk x
    | _ => false
  | .isEx _ _, _ => false
  | .lc elt tg k its cond own, e => match e with
    | .ListComp x [⟨t, it, ifs, 0⟩] sc _ => (match itArgs c k it with | some xs => chkEs g c its xs | none => false) && blkC c.N c.sc sc (ownOf c.N own) && decide ((ownOf c.N own).map (·.2) = own) && (tg.ixs.all fun i => own.contains i) && headOk it &&
      tgB ⟨c.N, relS sc c.sc, false, false⟩ tg t && chkIfs g ⟨c.N, relS sc c.sc, false, false⟩ cond ifs && chkE g ⟨c.N, relS sc c.sc, false, false⟩ elt x
    | _ => false
def chkEs (g : Gi) (c : Sc) : List E → List Expr → Bool
  | [], es => es.isEmpty
  | t :: ts, es => match es with
    | e :: es => chkE g c t e && headOk e && chkEs g c ts es
    | [] => false
def chkAnd (g : Gi) (c : Sc) : List E → List Expr → Bool
  | [], _ => false
  | t :: ts, es => match es with
    | [e] => chkE g c t e && ts.isEmpty
    | e :: e2 :: es => chkE g c t e && chkAnd g c ts (e2 :: es)
    | [] => false
def chkO (g : Gi) (c : Sc) : Option E → Option Expr → Bool
  | none, e => e.isNone
  | some t, e => match e with
    | some e => chkE g c t e
    | none => false
def chkIfs (g : Gi) (c : Sc) : Option T → List Expr → Bool
  | none, es => es.isEmpty
  | some t, es => match es with
    | [e] => chkT g c t e
    | _ => false
def chkT (g : Gi) (c : Sc) : T → Expr → Bool
  | .ex t, e => match t with
    | .cmp op a b => (match e with
      | .Compare x [o] [y] _ => decide (o = copOf op) && chkE g c a x && chkE g c b y && headOk y
      | _ => false)
    | .chain o p a b d => (match e with
      | .Compare x [o', p'] [y, z] _ => decide (o' = copOf o) && decide (p' = copOf p) && chkE g c a x && chkE g c b y && chkE g c d z && !(lastMarks [copOf o, copOf p] [y, z])
      | _ => false)
    | .isn neg a => (match e with
      | .Compare x [o] [.Constant .none _ _] _ => decide (o = if neg then .IsNot else .Is) && chkE g c a x
      | _ => false)
    | t => chkE g c t e && plainTest e
  | .not t, e => match e with
    | .UnaryOp .Not x _ => chkT g c t x
    | _ => false
  | .and ts, e => match e with
    | .BoolOp .And xs _ => chkTs g c ts xs
    | _ => false
  | .or ts, e => match e with
    | .BoolOp .Or xs _ => chkTs g c ts xs
    | _ => false
  | .ife a b d, e => false
def chkTs (g : Gi) (c : Sc) : List T → List Expr → Bool
  | [], _ => false
  | t :: ts, es => match es with
    | [e] => chkT g c t e && ts.isEmpty
    | e :: e2 :: es => chkT g c t e && chkTs g c ts (e2 :: es)
    | [] => false
end
end NF
end -- NfChk2

section -- NfBm2
set_option linter.all false
set_option autoImplicit false
set_option maxRecDepth 100000
set_option maxHeartbeats 1000000
/-! Methods of dicts by values. -/
namespace NF
open PySem PySem.Spec PyProof.Rows L2
theorem bnd_obj {α : Type} {n : Nat} {S : Store} {o : O} {f : O → M α} (h : S[n]? = some o) : NF.bnd (NF.obj n) f S = f o S := by
  unfold NF.bnd NF.obj
  rw [h]
theorem bnd_obj0 {α : Type} {n : Nat} {S : Store} {f : O → M α} (h : S[n]? = none) : NF.bnd (NF.obj n) f S = .bad := by
  unfold NF.bnd NF.obj
  rw [h]
def rGetD : V → List V → Hp → VK → Prop := fun x xs H Q => ∃ (a : Addr) (y z : V) (o : Option V), x = .ref a ∧ xs = [y, z] ∧ DGet H a y o ∧ Q (o.getD z) H
section
variable {C : Cfg} {X : Cx} {W : WX} {pos : Pos}
theorem mt_get (hu : X.A.units + 1 < cLine) : MtR X "dict.get" rGetD := by
  intro pins s σ H x xs v us Q I rx rxs h
  obtain ⟨a, y, z, o, rfl, rfl, g, q⟩ := h
  cases rx
  cases rxs with
  | cons ry rt =>
    cases rt with
    | cons rz rt2 =>
      cases rt2
      exact d_get2 hu I g ry rz fun w' s3 I3 rw' => ⟨_, H, I3, rw', q⟩
theorem get_dv {H : Hp} {ι : List Addr} {f : Option NF.D} {o : Option V} {d : NF.D} {z : V} (h : match f with
    | some d => ∃ v, o = some v ∧ DV H ι d v
    | none => o = none) (hd : DV H ι d z) : DV H ι (f.getD d) (o.getD z) := by
  cases f with
  | none =>
    simp only at h
    subst h
    exact hd
  | some e =>
    simp only at h
    obtain ⟨v, rfl, dv⟩ := h
    exact dv
theorem bm_get : BVm C X.K (bmM .get) rGetD := by
  intro W σ H ι S dx ds x xs Q s d1 ds1 p
  obtain ⟨k, d, y, z, rfl, rfl, d2, d3, p⟩ := Post.arg2 p ds1
  cases dx with
  | ref n =>
    obtain ⟨a, rfl, ha⟩ := d1
    unfold getM at p
    dsimp only at p
    cases ho : S[n]? with
    | none =>
      rw [bnd_obj0 ho] at p
      exact p.elim
    | some o =>
      rw [bnd_obj ho] at p
      have look := s.look ho ha
      cases o with
      | dct kvs =>
        obtain ⟨ws, hl, rd⟩ := look
        obtain ⟨pk, hk, p⟩ := Post.orBad p
        obtain ⟨b, rfl, hb⟩ := pair_dv hk d2
        exact ⟨a, _, z, _, rfl, rfl, dget_t (.inl hl) rfl hb, p.ret s (get_dv (kts_val pk rd) d3)⟩
      | dck kvs =>
        obtain ⟨ws, hl, rd⟩ := look
        obtain ⟨pk, hk, p⟩ := Post.orBad p
        obtain rfl : k = .str pk := by
          cases k <;> simp only [strO, reduceCtorEq, Option.some.injEq] at hk
          rw [hk]
        rw [DV] at d2
        obtain ⟨rfl, _⟩ := d2
        exact ⟨a, _, z, _, rfl, rfl, dget_k (.inl hl) pk, p.ret s (get_dv (kks_val pk rd) d3)⟩
      | _ => exact p.elim
  | _ => exact p.elim
def isDB : Bm → Bool
  | .get | .popD => true
  | _ => false
theorem bmTy_dict {b : Bm} (hb : isDB b = true) (d : NF.D) : bmTy b d = isDctM d := by
  cases b <;> first | rfl | cases hb
theorem me_bmD {b : Bm} {id : String} {name : Str} {o e : Expr} {es : List Expr} {apos : Pos} {mo : Env → M NF.D} {ms : Env → M (List NF.D)} {r : V → List V → Hp → VK → Prop} (hb : isDB b = true) (slot : Slot "dict" name id) (hty : typeOf (.builtin id) = pure (.type "method_descriptor")) (hm : MtR X id r) (hv : BVm C X.K (bmM b) r)
    (ho : PE X o (tD C X.K W mo)) (ha : PA X (e :: es) (tDs C X.K W ms)) (hho : headOk o = true) (hh : (e :: es).all headOk = true) (hn : (e :: es).length < 20) (hl : (apos.endLine == pos.line) = true) :
    PE X (.Call (.Attribute o name apos) (e :: es) [] pos) (tD C X.K W fun ρ => NF.bnd (mo ρ) fun x => NF.bnd (bmTy b x) fun _ => NF.bnd (ms ρ) fun ds => bmM b x ds) := by
  have h0 : headOk e = true ∧ es.all headOk = true := by rwa [List.all_cons, Bool.and_eq_true] at hh
  refine (pe_bm PySem.F.plainAttrs_dict slot hty hm ho ha (base_ok hho) (few_ok hh hn) hl (star_ok h0.1) (noStar h0.2).1).imp fun σ H Q h => one (g := fun x ρ => NF.bnd (bmTy b x) fun _ => NF.bnd (ms ρ) fun ds => bmM b x ds) h fun ρ S ι d x H1 er s dv p => ?_
  rw [bmTy_dict hb] at p
  cases d with
  | ref n =>
    have dv' := dv
    obtain ⟨a, rfl, ha'⟩ := dv'
    have fin : tyV X.K "dict" (.ref a) H1 → Post C X.K W σ DV H1 ι (NF.bnd (ms ρ) (fun ds => bmM b (.ref n) ds) S) Q → tBM X.K "dict" r (fun σ' H' Q' => Q' (V.ref a) H') (tDs C X.K W ms) σ H1 Q := by
      intro ty p2
      refine ⟨ty, ρ, S, ι, er, s, ?_⟩
      refine (p2.bnd (dw := DVs)).mono ?_
      rintro xs H2 ⟨es', S2, ι2, e2, s2, d2, p3⟩
      exact hv W σ H2 ι2 S2 _ es' _ xs Q s2 (dv.ext e2) d2 p3
    unfold isDctM at p
    dsimp only at p
    rw [bnd_assoc] at p
    cases ho : S[n]? with
    | none =>
      rw [bnd_obj0 ho] at p
      exact p.elim
    | some o =>
      rw [bnd_obj ho] at p
      have look := s.look ho ha'
      cases o with
      | dct kvs =>
        obtain ⟨ws, hl, rd⟩ := look
        exact fin (.inr (.inr (.inl ⟨rfl, .inr ⟨ws, hl⟩⟩))) p
      | dck kvs =>
        obtain ⟨ws, hl, rd⟩ := look
        exact fin (.inr (.inr (.inl ⟨rfl, .inl ⟨ws, hl⟩⟩))) p
      | _ => exact p.elim
  | _ => exact p.elim
end
end NF
end -- NfBm2

section -- NfSnd
set_option linter.all false
set_option autoImplicit false
set_option maxRecDepth 100000
set_option maxHeartbeats 4000000
/-! The checker is sound: expressions. -/
namespace NF
open PySem PySem.Spec PyProof.Rows L2
def bltNames : List String := ["len", "list", "tuple", "all", "any", "max", "min", "sorted", "str", "int", "dict", "set", "range", "isinstance"]
structure Glo (g : Gi) (C : Cfg) (P : Program) (w : World) (K : PySem.W.Frag) (mg : PySem.Str → Option Value) (base : Heap) (k : Nat) (cl : Or) : Prop where
  hw : w = C.w
  fn : ∀ f n, g.fn f = some n → ∃ fi : FI, fi.name = str f ∧ fi.ps.length = n ∧ FnOk P w K mg base (L2.CX P w) k fi.addr fi.fd fi.ps (spO C K fi.ps.length (cl f)) ∧ mg fi.name = some (.ref fi.addr) ∧ PySem.W.keepIn K (.ref fi.addr) = true ∧ Binds K fi.fd fi.ps []
  meth : ∀ c m n, g.meth c m = some n → ∃ fi : FI, fi.name = str m ∧ fi.ps.length = n ∧ FnOk P w K mg base (L2.CX P w) k fi.addr fi.fd fi.ps (spO C K fi.ps.length (cl (c.dot m))) ∧ Meth K (C.kad c) fi.name fi.addr ∧ Binds K fi.fd fi.ps [] ∧ Cls K (C.kad c)
  mkn : ∀ c n, g.mkn c = some n → ∃ fi : FI, fi.ps.length = n ∧ FnOk P w K mg base (L2.CX P w) k fi.addr fi.fd fi.ps (spO C K fi.ps.length (cl (c.dot "__init__"))) ∧ Mk K (C.kad c) fi.addr ∧ Binds K fi.fd fi.ps [] ∧ Cls K (C.kad c) ∧ (∀ f ∈ c.fields, NoAttr K (C.kad c) f) ∧ mg (str c.name) = some (.ref (C.kad c))
  con : ∀ x d, g.con x d = true → ∃ u, mg (str x) = some u ∧ GlbV C d u
  blt : ∀ x ∈ bltNames, mg (str x) = none
structure Sit (C : Cfg) (k : Nat) (c : Sc) (X : Cx) : Prop where
  N : X.N = c.N
  nd : X.N.Nodup
  sc : X.env.scope = c.sc
  calm : X.calm = true
  room : Room (k + 3) X.A
  top : c.top = true → ∀ x, X.fn x = true
  lam : c.lam = true → LamOk C X ∧ Room (k + 6) X.A
section
variable {C : Cfg} {k : Nat} {c : Sc} {X : Cx} {W : WX}
theorem Sit.hu (s : Sit C k c X) : X.A.units + 100 < cLine := by have := s.room.un; omega
theorem Sit.name (s : Sit C k c X) {i : Nat} {x : PySem.Str} (h : nameB c.N i x = true) : X.N[i]? = some x := by
  unfold nameB at h
  rw [s.N]
  simpa using h
theorem Sit.vis (s : Sit C k c X) {x : PySem.Str} (h : visB c.sc x = true) : Vis X.env.scope x := by
  unfold visB at h
  unfold Vis
  rw [s.sc]
  split at h <;> simp_all
theorem Sit.gl (s : Sit C k c X) {x : PySem.Str} (h : glB c.sc x = true) : Gl X x := by
  unfold glB at h
  show X.env.scope.names.lookup x = some .globalImplicit
  rw [s.sc]
  split at h <;> simp_all
theorem okN_1 {x : PySem.Str} (h : okN x = true) : (x == ("__debug__" : PySem.Str)) = false ∧ (x == ("__classdict__" : PySem.Str)) = false := by
  unfold okN at h
  simp only [Bool.and_eq_true, Bool.not_eq_true'] at h
  exact h
theorem Sit.sto (s : Sit C k c X) {i : Nat} {x : PySem.Str} (h : stoB c i x = true) : X.N[i]? = some x ∧ Loc X.env.scope x ∧ (X.fn x = true ∨ X.env.scope.names.lookup x = some .local) := by
  unfold stoB at h
  simp only [Bool.and_eq_true] at h
  refine ⟨s.name h.1, ?_⟩
  have h2 := h.2
  unfold L2.Loc
  rw [s.sc]
  split at h2
  · rename_i q; exact ⟨.inl q, .inr q⟩
  · rename_i q; exact ⟨.inr q, .inl (s.top h2 x)⟩
  · cases h2
theorem Sit.stos (s : Sit C k c X) : ∀ {es : List Expr} {is : List Nat}, stosB c es is = true → nmsOk X es is
  | [], [], _ => trivial
  | [], _ :: _, h => by simp [stosB] at h
  | e :: es, [], h => by cases e <;> simp [stosB] at h
  | e :: es, i :: is, h => by
    cases e with
    | Name x p =>
      simp only [stosB, Bool.and_eq_true] at h
      obtain ⟨h1, h2, h3⟩ := s.sto h.1
      exact ⟨h1, h2, h3, s.stos h.2⟩
    | _ => simp [stosB] at h
theorem Sit.tg (s : Sit C k c X) {t : Tg} {e : Expr} (h : tgB c t e = true) : PG X e (gTg C X.K t) := by
  cases t with
  | nm i =>
    cases e with
    | Name x p =>
      obtain ⟨h1, h2, h3⟩ := s.sto h
      exact mg_nm s.nd h1 h2 h3
    | _ => simp [tgB] at h
  | tup is =>
    cases e with
    | Tuple es j p => exact mg_tup s.calm s.nd (s.stos h)
    | _ => simp [tgB] at h
theorem semEs_len {cl : Or} : ∀ {ts : List E} {ρ : Env} {S S' : Store} {ds : List NF.D}, semEs cl ts ρ S = .ok ds S' → ds.length = ts.length
  | [], ρ, S, S', ds, h => by simp only [semEs] at h; cases h; rfl
  | t :: ts, ρ, S, S', ds, h => by
    simp only [semEs] at h
    obtain ⟨d, S1, h1, h2⟩ := bnd_ok h
    obtain ⟨es, S2, h3, h4⟩ := bnd_ok h2
    cases h4
    rw [List.length_cons, List.length_cons, semEs_len h3]
theorem chkEs_len {g : Gi} : ∀ {ts : List E} {es : List Expr}, chkEs g c ts es = true → es.length = ts.length
  | [], es, h => by simp only [chkEs] at h; cases es <;> simp_all
  | t :: ts, [], h => by simp [chkEs] at h
  | t :: ts, e :: es, h => by
    simp only [chkEs, Bool.and_eq_true] at h
    rw [List.length_cons, List.length_cons, chkEs_len h.2]
theorem chkEs_head {g : Gi} : ∀ {ts : List E} {es : List Expr}, chkEs g c ts es = true → es.all headOk = true
  | [], es, h => by simp only [chkEs] at h; cases es <;> simp_all
  | t :: ts, [], h => by simp [chkEs] at h
  | t :: ts, e :: es, h => by
    simp only [chkEs, Bool.and_eq_true] at h
    rw [List.all_cons, h.1.2, chkEs_head h.2]
    rfl
theorem beq_f {b : Bool} (h : (!b) = true) : b = false := by cases b <;> simp_all
theorem eqT_of {b : Bool} (h : b = true) : b = true := h
end
section
theorem bi_snd {g : Gi} {C : Cfg} {k : Nat} {cl : Or} {c : Sc} {X : Cx} {W : WX} {b : Bi} {s : String} {x : Expr} {xs : List Expr} {ms : Env → M (List NF.D)} {p0 pos : Pos} (hs : biName b = some s) (hg : Gl X (str s)) (hh : (x :: xs).all headOk = true) (ha : PA X (x :: xs) (tDs C X.K W ms)) (st : Sit C k c X) (G : Glo g C X.prog X.w X.K X.mg X.base k cl) :
    PE X (.Call (.Name (str s) p0) (x :: xs) [] pos) (tD C X.K W fun ρ => NF.bnd (ms ρ) fun ds => biM b ds) := by
  have h0 : headOk x = true ∧ xs.all headOk = true := by rwa [List.all_cons, Bool.and_eq_true] at hh
  have e1 := star_ok (env := X.env) (es := xs) h0.1
  have e2 := (noStar (env := X.env) (pos := pos) h0.2).1
  cases b <;> simp only [biName, Option.some.injEq, reduceCtorEq] at hs <;> subst hs
  · exact me_biB call_len bv_len hg (G.blt _ (by decide)) (by rfl) ha (by decide +kernel) (by decide +kernel) e1 e2
  · exact me_biT call_list_of bv_list hg (G.blt _ (by decide)) (by rfl) ha (by decide +kernel) (by decide +kernel) e1 e2
  · exact me_biT call_tuple_of bv_tuple hg (G.blt _ (by decide)) (by rfl) ha (by decide +kernel) (by decide +kernel) e1 e2
  · exact me_biB (cr_all st.calm) bv_all hg (G.blt _ (by decide)) (by rfl) ha (by decide +kernel) (by decide +kernel) e1 e2
  · exact me_biB (cr_any st.calm) bv_any hg (G.blt _ (by decide)) (by rfl) ha (by decide +kernel) (by decide +kernel) e1 e2
  · exact me_biB (cr_max st.calm) bv_max1 hg (G.blt _ (by decide)) (by rfl) ha (by decide +kernel) (by decide +kernel) e1 e2
  · exact me_biB (call_max2 st.calm) bv_max2 hg (G.blt _ (by decide)) (by rfl) ha (by decide +kernel) (by decide +kernel) e1 e2
  · exact me_biB (call_min2 st.calm) bv_min2 hg (G.blt _ (by decide)) (by rfl) ha (by decide +kernel) (by decide +kernel) e1 e2
  · exact me_biB (cr_sortD (by have := st.hu; omega)) bv_sorted hg (G.blt _ (by decide)) (by rfl) ha (by decide +kernel) (by decide +kernel) e1 e2
  · exact me_biT (CallR.or call_str_int SkE.call_str_str) bv_str hg (G.blt _ (by decide)) (by rfl) ha (by decide +kernel) (by decide +kernel) e1 e2
  · exact me_biT cr_int bv_int hg (G.blt _ (by decide)) (by rfl) ha (by decide +kernel) (by decide +kernel) e1 e2
theorem fnSc_of {N P : List PySem.Str} {sc : Scope} (h : fnScB N P sc = true) : FnScope N P sc := by
  unfold fnScB at h
  simp only [Bool.and_eq_true, decide_eq_true_eq, Bool.not_eq_true', List.all_eq_true] at h
  obtain ⟨⟨⟨⟨⟨⟨h1, h2⟩, h3⟩, h4⟩, h5⟩, h6⟩, h7⟩ := h
  refine ⟨?_, h2, h3, h4, h5, fun x hx => ?_, fun y hy e => ?_⟩
  · split at h1
    · assumption
    · cases h1
  · have := h6 x hx
    split at this
    · exact .inl (by assumption)
    · exact .inr (by assumption)
    · cases this
  · have := h7 y hy
    rw [e] at this
    cases this
theorem lam_facts {ps : Arguments} {pn : PySem.Str} {sc : Scope} {body : Expr} {env : PySem.Env} (h : lamPar ps = some pn) (hs : fnScB [pn] [pn] sc = true) :
    FnScope [pn] [pn] sc ∧ defaultsOf ps env = ([], []) ∧ ∀ q pm c' ctv u, bindArgs (PySem.W.kla_fn "<lambda>" q ps body sc [] pm (.ref c') ctv) ⟨[u], []⟩ = pure [(pn, u)] := by
  refine ⟨fnSc_of hs, ?_⟩
  unfold lamPar at h
  split at h
  · split at h
    · rename_i hx
      cases h
      subst hx
      exact ⟨rfl, fun q pm c' ctv u => rfl⟩
    · cases h
  · cases h
theorem it_leave {c : Sc} {kk : Ik} {e : Expr} {xs : List Expr} (hpl : kk.plain = true) (h : itArgs c kk e = some xs) {cl : Or} {its : List E} : ∀ (ρ : Env) (S : Store) (wk : Wk) (S' : Store), NF.bnd (semEs cl its ρ) (wkOf kk) S = .ok wk S' → wk.leave = NF.ret () := by
  intro ρ S wk S' q
  obtain ⟨vs, S1, h1, h2⟩ := bnd_ok q
  cases kk with
  | seq =>
    rcases vs with _ | ⟨d, _ | ⟨d2, r⟩⟩
    · cases h2
    · cases d with
      | tup ds => cases h2; rfl
      | str z => cases h2; rfl
      | ref n => obtain ⟨ds, S3, _, h4⟩ := bnd_ok (m := lstOf (.ref n)) h2; cases h4; rfl
      | _ => cases h2
    · cases d <;> cases h2
  | rng1 =>
    rcases vs with _ | ⟨d, _ | ⟨d2, r⟩⟩
    · cases h2
    · cases d with
      | int j =>
        have h2 : (if small j then NF.ret (Wk.fix ((List.range j.toNat).map fun (i : Nat) => NF.D.int (0 + (i : Int)))) else bad) S1 = .ok wk S' := h2
        split at h2
        · cases h2; rfl
        · cases h2
      | _ => cases h2
    · cases d <;> cases h2
  | rng2 =>
    rcases vs with _ | ⟨d, _ | ⟨d2, _ | ⟨d3, r⟩⟩⟩
    · cases h2
    · cases d <;> cases h2
    · cases d with
      | int i =>
        cases d2 with
        | int j =>
          have h2 : (if small i && small j then NF.ret (Wk.fix ((List.range (j - i).toNat).map fun (k : Nat) => NF.D.int (i + (k : Int)))) else bad) S1 = .ok wk S' := h2
          split at h2
          · cases h2; rfl
          · cases h2
        | _ => cases h2
      | _ => cases h2
    · cases d <;> cases d2 <;> cases h2
  | keys => simp [Ik.plain] at hpl
  | vals => simp [Ik.plain] at hpl
theorem it_snd {g : Gi} {C : Cfg} {k : Nat} {cl : Or} {c : Sc} {X : Cx} {W : WX} {kk : Ik} {tg e : Expr} {xs : List Expr} {its : List E} (hpl : kk.plain = true) (hx : itArgs c kk e = some xs) (hc : chkEs g c its xs = true) (ha : PA X xs (tDs C X.K W (semEs cl its))) (hone : ∀ t, its = [t] → PE X e (tD C X.K W (semE cl t)) ∨ kk ≠ .seq) (st : Sit C k c X) (G : Glo g C X.prog X.w X.K X.mg X.base k cl) :
    PI X tg e (tW C X.K W fun ρ => NF.bnd (semEs cl its ρ) (wkOf kk)) := by
  cases kk with
  | seq =>
    simp only [itArgs] at hx
    cases hx
    match its, hc, hone with
    | [t], hc, hone =>
      have he := (hone t rfl).resolve_right (fun z => z rfl)
      refine (pi_seq he).imp fun σ H Q hh => ?_
      obtain ⟨ρ, S, ι, er, s, p⟩ := hh
      refine ⟨ρ, S, ι, er, s, ?_⟩
      have e1 : NF.bnd (semEs cl [t] ρ) (wkOf .seq) = NF.bnd (semE cl t ρ) fun x => wkOf .seq [x] := by
        have e2 : semEs cl [t] ρ = NF.bnd (semE cl t ρ) fun d => NF.ret [d] := by
          simp only [semEs]
          rfl
        rw [e2, bnd_assoc]
        rfl
      have p' : Post C X.K W σ (WkV C X.K) H ι (NF.bnd (semEs cl [t] ρ) (wkOf .seq) S) Q := p
      rw [e1] at p'
      exact p'
    | [], hc, _ => simp [chkEs] at hc
    | _ :: _ :: _, hc, _ => simp [chkEs] at hc
  | rng1 =>
    simp only [itArgs] at hx
    split at hx
    · split at hx
      · rename_i hb
        cases hx
        simp only [Bool.and_eq_true, decide_eq_true_eq] at hb
        obtain ⟨rfl, hg⟩ := hb
        have hh := chkEs_head hc
        rw [List.all_cons, Bool.and_eq_true] at hh
        exact pi_rng1 (st.gl hg) (G.blt _ (by decide)) hh.1 ha
      · cases hx
    · cases hx
  | rng2 =>
    simp only [itArgs] at hx
    split at hx
    · split at hx
      · rename_i hb
        cases hx
        simp only [Bool.and_eq_true, decide_eq_true_eq] at hb
        obtain ⟨rfl, hg⟩ := hb
        have hh := chkEs_head hc
        rw [List.all_cons, List.all_cons, Bool.and_eq_true, Bool.and_eq_true] at hh
        exact pi_rng2 (st.gl hg) (G.blt _ (by decide)) hh.1 hh.2.1 ha
      · cases hx
    · cases hx
  | keys => simp [Ik.plain] at hpl
  | vals => simp [Ik.plain] at hpl
/-- a dict is walked -/
theorem it_sndD {g : Gi} {C : Cfg} {cl : Or} {c : Sc} {X : Cx} {W : WX} {kk : Ik} {tg e : Expr} {xs : List Expr} {its : List E} (hpl : kk.plain = false) (hx : itArgs c kk e = some xs) (hc : chkEs g c its xs = true) (hone : ∀ t x, its = [t] → xs = [x] → PE X x (tD C X.K W (semE cl t))) :
    PI X tg e (tWL C X W fun ρ => NF.bnd (semEs cl its ρ) (wkOf kk)) := by
  have conv : ∀ (t : E) (ρ : Env), NF.bnd (semEs cl [t] ρ) (wkOf kk) = NF.bnd (semE cl t ρ) fun x => wkOf kk [x] := fun t ρ => by
    have e2 : semEs cl [t] ρ = NF.bnd (semE cl t ρ) fun d => NF.ret [d] := by
      simp only [semEs]
      rfl
    rw [e2, bnd_assoc]
    rfl
  have imp : ∀ (t : E) {e' : Expr}, PI X tg e' (tWL C X W fun ρ => NF.bnd (semE cl t ρ) fun x => wkOf kk [x]) → PI X tg e' (tWL C X W fun ρ => NF.bnd (semEs cl [t] ρ) (wkOf kk)) := fun t e' h => by
    have e1 : (fun ρ => NF.bnd (semEs cl [t] ρ) (wkOf kk)) = fun ρ => NF.bnd (semE cl t ρ) fun x => wkOf kk [x] := funext (conv t)
    rw [e1]
    exact h
  cases kk with
  | keys =>
    simp only [itArgs] at hx
    split at hx
    · split at hx
      · rename_i hb
        cases hx
        simp only [Bool.and_eq_true, decide_eq_true_eq] at hb
        obtain ⟨⟨rfl, h1⟩, h2⟩ := hb
        match its, hc, hone with
        | [t], hc, hone => exact imp t (pi_keys' (hone t _ rfl rfl) (base_ok h1) h2)
        | [], hc, _ => simp [chkEs] at hc
        | _ :: _ :: _, hc, _ => simp [chkEs] at hc
      · cases hx
    · cases hx
  | vals =>
    simp only [itArgs] at hx
    split at hx
    · split at hx
      · rename_i hb
        cases hx
        simp only [Bool.and_eq_true, decide_eq_true_eq] at hb
        obtain ⟨⟨rfl, h1⟩, h2⟩ := hb
        match its, hc, hone with
        | [t], hc, hone => exact imp t (pi_vals' (hone t _ rfl rfl) (base_ok h1) h2)
        | [], hc, _ => simp [chkEs] at hc
        | _ :: _ :: _, hc, _ => simp [chkEs] at hc
      · cases hx
    · cases hx
  | _ => simp [Ik.plain] at hpl
theorem bm_snd {g : Gi} {C : Cfg} {k : Nat} {cl : Or} {c : Sc} {X : Cx} {W : WX} {m : Bm} {x : Expr} {y : PySem.Str} {xs : List Expr} {ts : List E} {ma : Env → M NF.D} {ap pos : Pos} (h : (match m with
        | .pop0 => decide (y = "pop") && xs.isEmpty
        | .join => decide (y = "join") && decide (xs.length = 1)
        | .get => decide (y = "get") && decide (xs.length = 2)
        | _ => (match lbName m with | some s => decide (y = str s) && !xs.isEmpty | none => false)) = true) (ho : PE X x (tD C X.K W ma)) (hho : headOk x = true) (hc : chkEs g c ts xs = true) (ha : PA X xs (tDs C X.K W (semEs cl ts))) (hh : xs.all headOk = true) (hn : xs.length < 20) (hl : sameLine ap pos = true) (st : Sit C k c X) :
    PE X (.Call (.Attribute x y ap) xs [] pos) (tD C X.K W fun ρ => NF.bnd (ma ρ) fun z => NF.bnd (bmTy m z) fun _ => NF.bnd (semEs cl ts ρ) fun ds => bmM m z ds) := by
  have hu := st.hu
  cases m with
  | pop0 =>
    simp only [Bool.and_eq_true, decide_eq_true_eq, List.isEmpty_iff] at h
    obtain ⟨rfl, rfl⟩ := h
    have ht : ts = [] := by simpa using (chkEs_len hc).symm
    subst ht
    exact me_bmL0 rfl F.slot_list_pop F.type_list_pop mt_pop bm_pop0 ho hho hl
  | join =>
    simp only [Bool.and_eq_true, decide_eq_true_eq] at h
    obtain ⟨rfl, hx⟩ := h
    cases xs with
    | nil => cases hx
    | cons e es => exact me_bmS rfl F.slot_str_join F.type_str_join mt_join bm_join ho ha hho hh hn hl
  | get =>
    simp only [Bool.and_eq_true, decide_eq_true_eq] at h
    obtain ⟨rfl, hx⟩ := h
    cases xs with
    | nil => cases hx
    | cons e es => exact me_bmD rfl F.slot_dict_get F.type_dict_get (mt_get (by omega)) bm_get ho ha hho hh hn hl
  | append =>
    simp only [lbName, Bool.and_eq_true, decide_eq_true_eq] at h
    obtain ⟨rfl, hx⟩ := h
    cases xs with
    | nil => cases hx
    | cons e es => exact me_bmL rfl F.slot_list_append F.type_list_append mt_append bm_append ho ha hho hh hn hl
  | extend =>
    simp only [lbName, Bool.and_eq_true, decide_eq_true_eq] at h
    obtain ⟨rfl, hx⟩ := h
    cases xs with
    | nil => cases hx
    | cons e es => exact me_bmL rfl F.slot_list_extend F.type_list_extend mt_extend bm_extend ho ha hho hh hn hl
  | insert =>
    simp only [lbName, Bool.and_eq_true, decide_eq_true_eq] at h
    obtain ⟨rfl, hx⟩ := h
    cases xs with
    | nil => cases hx
    | cons e es => exact me_bmL rfl F.slot_list_insert F.type_list_insert mt_insert bm_insert ho ha hho hh hn hl
  | count =>
    simp only [lbName, Bool.and_eq_true, decide_eq_true_eq] at h
    obtain ⟨rfl, hx⟩ := h
    cases xs with
    | nil => cases hx
    | cons e es => exact me_bmL rfl F.slot_list_count F.type_list_count (mt_countD hu) bm_count ho ha hho hh hn hl
  | index =>
    simp only [lbName, Bool.and_eq_true, decide_eq_true_eq] at h
    obtain ⟨rfl, hx⟩ := h
    cases xs with
    | nil => cases hx
    | cons e es => exact me_bmL rfl F.slot_list_index F.type_list_index (mt_indexD (by omega)) bm_index ho ha hho hh hn hl
  | pop1 =>
    simp only [lbName, Bool.and_eq_true, decide_eq_true_eq] at h
    obtain ⟨rfl, hx⟩ := h
    cases xs with
    | nil => cases hx
    | cons e es => exact me_bmL rfl F.slot_list_pop F.type_list_pop mt_popAt bm_pop1 ho ha hho hh hn hl
  | _ => simp [lbName] at h
variable {g : Gi} {C : Cfg} {k : Nat} {cl : Or}
mutual
theorem sndE : ∀ (t : E) (c : Sc) (e : Expr) (X : Cx) (W : WX), chkE g c t e = true → Sit C k c X → Glo g C X.prog X.w X.K X.mg X.base k cl → Takes X W → PE X e (tD C X.K W (semE cl t))
  | .var i, c, e, X, W, h, st, G, tk => by
    simp only [chkE] at h
    split at h
    · simp only [Bool.and_eq_true] at h
      exact me_var (st.name h.1.1) (st.vis h.1.2) (okN_1 h.2).1 (okN_1 h.2).2
    · cases h
  | .int i, c, e, X, W, h, st, G, tk => by
    simp only [chkE] at h
    split at h
    · simp only [decide_eq_true_eq] at h
      subst h
      exact me_int
    · cases h
  | .str z, c, e, X, W, h, st, G, tk => by
    simp only [chkE] at h
    split at h
    · simp only [Bool.and_eq_true, decide_eq_true_eq] at h
      exact me_str h.1 h.2
    · cases h
  | .bl b, c, e, X, W, h, st, G, tk => by
    simp only [chkE] at h
    split at h
    · simp only [beq_iff_eq] at h
      subst h
      exact me_bl
    · cases h
  | .non, c, e, X, W, h, st, G, tk => by
    simp only [chkE] at h
    split at h
    · exact me_non
    · cases h
  | .neg i, c, e, X, W, h, st, G, tk => by
    simp only [chkE] at h
    split at h
    · simp only [decide_eq_true_eq] at h
      subst h
      exact me_neg
    · cases h
  | .glb x d, c, e, X, W, h, st, G, tk => by
    simp only [chkE] at h
    split at h
    · simp only [Bool.and_eq_true, decide_eq_true_eq] at h
      obtain ⟨⟨⟨rfl, h2⟩, h3⟩, h4⟩ := h
      obtain ⟨u, hu, hv⟩ := G.con x d h4
      exact me_glb (st.gl h2) hu (okN_1 h3).1 hv
    · cases h
  | .tup es, c, e, X, W, h, st, G, tk => by
    simp only [chkE] at h
    split at h
    · simp only [Bool.and_eq_true, decide_eq_true_eq] at h
      exact me_tup (sndEs es c _ X W h.1 st G tk) (Nat.le_trans h.2 (by decide)) fun ρ S ds S' q => by rw [semEs_len q, chkEs_len h.1]
    · cases h
  | .lst es, c, e, X, W, h, st, G, tk => by
    simp only [chkE] at h
    split at h
    · simp only [Bool.and_eq_true, decide_eq_true_eq] at h
      exact me_lst (sndEs es c _ X W h.1 st G tk) (Nat.le_trans h.2 (by decide)) fun ρ S ds S' q => by rw [semEs_len q, chkEs_len h.1]
    · cases h
  | .dctT, c, e, X, W, h, st, G, tk => by
    simp only [chkE] at h
    split at h
    · exact me_dctT
    · cases h
  | .dctK, c, e, X, W, h, st, G, tk => by
    simp only [chkE] at h
    split at h
    · exact me_dctK
    · cases h
  | .bin op a b, c, e, X, W, h, st, G, tk => by
    simp only [chkE] at h
    split at h
    · simp only [Bool.and_eq_true, decide_eq_true_eq] at h
      obtain ⟨⟨rfl, h1⟩, h2⟩ := h
      obtain ⟨r, q1, q2⟩ := bin_rule (C := C) (X := X) op
      exact me_op q1 q2 (sndE a c _ X W h1 st G tk) (sndE b c _ X W h2 st G tk)
    · cases h
  | .cmp op a b, c, e, X, W, h, st, G, tk => by
    simp only [chkE] at h
    split at h
    · simp only [Bool.and_eq_true, decide_eq_true_eq] at h
      obtain ⟨⟨⟨rfl, h1⟩, h2⟩, h3⟩ := h
      obtain ⟨r, q1, q2⟩ := cmp_rule (C := C) (X := X) G.hw st.hu op
      exact me_cmp q1 q2 (mark_ok h3) (sndE a c _ X W h1 st G tk) (sndE b c _ X W h2 st G tk)
    · cases h
  | .chain o p a b d, c, e, X, W, h, st, G, tk => by
    simp only [chkE] at h
    split at h
    · simp only [Bool.and_eq_true, decide_eq_true_eq] at h
      obtain ⟨⟨⟨⟨⟨rfl, rfl⟩, h1⟩, h2⟩, h3⟩, h4⟩ := h
      exact me_chain G.hw st.hu (sndE a c _ X W h1 st G tk) (sndE b c _ X W h2 st G tk) (sndE d c _ X W h3 st G tk) (beq_f h4)
    · cases h
  | .isn neg a, c, e, X, W, h, st, G, tk => by
    simp only [chkE] at h
    split at h
    · simp only [Bool.and_eq_true, decide_eq_true_eq] at h
      obtain ⟨rfl, h1⟩ := h
      cases neg with
      | true => exact me_isnt (sndE a c _ X W h1 st G tk)
      | false => exact me_isn (sndE a c _ X W h1 st G tk)
    · cases h
  | .andv es, c, e, X, W, h, st, G, tk => by
    simp only [chkE] at h
    split at h
    · exact sndAnd es c _ _ X W h st G tk
    · cases h
  | .orv es, c, e, X, W, h, st, G, tk => by
    simp only [chkE] at h
    split at h
    · exact sndOr es c _ _ X W h st G tk
    · cases h
  | .notv a, c, e, X, W, h, st, G, tk => by
    simp only [chkE] at h
    split at h
    · exact me_notv (sndE a c _ X W h st G tk)
    · cases h
  | .ife t a b, c, e, X, W, h, st, G, tk => by
    simp only [chkE] at h
    split at h
    · simp only [Bool.and_eq_true] at h
      exact me_ife (sndT t c _ X W h.1.1 st G tk) (sndE a c _ X W h.1.2 st G tk) (sndE b c _ X W h.2 st G tk)
    · cases h
  | .idx a b, c, e, X, W, h, st, G, tk => by
    simp only [chkE] at h
    split at h
    · simp only [Bool.and_eq_true] at h
      exact me_idx (sndE a c _ X W h.1.1 st G tk) (sndE b c _ X W h.1.2 st G tk) (ix_ok h.2)
    · cases h
  | .dix a b, c, e, X, W, h, st, G, tk => by
    simp only [chkE] at h
    split at h
    · simp only [Bool.and_eq_true] at h
      exact me_dix G.hw st.hu (sndE a c _ X W h.1.1 st G tk) (sndE b c _ X W h.1.2 st G tk) (ix_ok h.2)
    · cases h
  | .slc a lo hi, c, e, X, W, h, st, G, tk => by
    simp only [chkE] at h
    split at h
    · simp only [Bool.and_eq_true] at h
      exact me_slc (sndE a c _ X W h.1.1 st G tk) (sndO lo c _ X W h.1.2 st G tk) (sndO hi c _ X W h.2 st G tk)
    · cases h
  | .rev a, c, e, X, W, h, st, G, tk => by
    simp only [chkE] at h
    split at h
    · exact me_rev (sndE a c _ X W h st G tk)
    · cases h
  | .att cl' i a, c, e, X, W, h, st, G, tk => by
    simp only [chkE] at h
    split at h
    · simp only [Bool.and_eq_true, decide_eq_true_eq] at h
      obtain ⟨⟨⟨h1, h2⟩, h3⟩, h4⟩ := h
      obtain ⟨n, hn⟩ := Option.isSome_iff_exists.mp h4
      obtain ⟨fi, _, _, _, _, hc, hna, _⟩ := G.mkn cl' n hn
      exact me_att hc h1 (hna _ (List.mem_of_getElem? h1)) cl'.nd (sndE a c _ X W h2 st G tk) (base_ok h3)
    · cases h
  | .call f es, c, e, X, W, h, st, G, tk => by
    simp only [chkE] at h
    split at h
    · simp only [Bool.and_eq_true, decide_eq_true_eq] at h
      obtain ⟨⟨⟨⟨⟨rfl, h1⟩, h2⟩, h3⟩, h4⟩, h5⟩ := h
      obtain ⟨fi, e1, e2, F, hm, hk, hb⟩ := G.fn f _ h5
      rw [← e1] at h1 h2 ⊢
      exact me_call F (st.room.mono (by omega)) tk (st.gl h1) hm hk hb (okN_1 h2).1 h4 (sndEs es c _ X W h3 st G tk) fun ρ S ds S' q => by rw [semEs_len q, e2]
    · cases h
  | .mk cl' es, c, e, X, W, h, st, G, tk => by
    simp only [chkE] at h
    split at h
    · simp only [Bool.and_eq_true, decide_eq_true_eq] at h
      obtain ⟨⟨⟨⟨⟨rfl, h1⟩, h2⟩, h3⟩, h4⟩, h5⟩ := h
      obtain ⟨fi, e2, F, M, hb, _, _, hm⟩ := G.mkn cl' _ h5
      exact me_mk M F (st.room.mono (by omega)) tk (st.gl h1) hm hb (okN_1 h2).1 h4 (sndEs es c _ X W h3 st G tk) fun ρ S ds S' q => by rw [semEs_len q, e2]
    · cases h
  | .meth cl' m a es, c, e, X, W, h, st, G, tk => by
    simp only [chkE] at h
    split at h
    · rename_i x y ap xs p
      simp only [Bool.and_eq_true, decide_eq_true_eq] at h
      obtain ⟨⟨⟨⟨⟨⟨⟨⟨rfl, h1⟩, h2⟩, h3⟩, h4⟩, h5⟩, h6⟩, h7⟩, h8⟩ := h
      obtain ⟨fi, e1, e2, F, hm, hb, hc⟩ := G.meth cl' m _ h8
      have hnf : fi.name ∉ cl'.fields := by
        rw [e1]
        have := beq_f h1
        simpa [List.contains_iff_mem] using this
      rw [← e1]
      cases xs with
      | nil =>
        have hl := chkEs_len h4
        have : es = [] := by simpa using hl.symm
        subst this
        exact me_meth0 F (st.room.mono (by omega)) tk hc hm hnf hb h3 h7 (sndE a c _ X W h2 st G tk) (by rw [e2]; rfl)
      | cons x' xs =>
        exact me_meth F (st.room.mono (by omega)) tk hc hm hnf hb h3 h5 h6 h7 (sndE a c _ X W h2 st G tk) (sndEs es c _ X W h4 st G tk) fun ρ S ds S' q => by rw [semEs_len q, e2]
    · cases h
  | .bi b es, c, e, X, W, h, st, G, tk => by
    simp only [chkE] at h
    split at h
    · split at h
      · rename_i s hs
        simp only [Bool.and_eq_true, decide_eq_true_eq] at h
        obtain ⟨⟨⟨⟨rfl, h1⟩, h2⟩, h3⟩, h4⟩ := h
        exact bi_snd hs (st.gl h1) h4 (sndEs es c _ X W h3 st G tk) st G
      · cases h
    · cases h
  | .bm m a es, c, e, X, W, h, st, G, tk => by
    simp only [chkE] at h
    split at h
    · rename_i x y ap xs p
      simp only [Bool.and_eq_true, decide_eq_true_eq] at h
      obtain ⟨⟨⟨⟨⟨⟨h1, h2⟩, h3⟩, h4⟩, h5⟩, h6⟩, h7⟩ := h
      exact bm_snd h7 (sndE a c _ X W h1 st G tk) h2 h3 (sndEs es c _ X W h3 st G tk) h4 h5 h6 st
    · cases h
  | .sortk _ a body, c, e, X, W, h, st, G, tk => by
    simp only [chkE] at h
    split at h
    · rename_i y p0 x kn ps b sc lp kp pos
      simp only [Bool.and_eq_true, decide_eq_true_eq] at h
      obtain ⟨⟨⟨⟨⟨⟨rfl, rfl⟩, h3⟩, h4⟩, h5⟩, h6⟩, h7⟩ := h
      split at h7
      · rename_i pn hpn
        simp only [Bool.and_eq_true] at h7
        obtain ⟨S, hdef, hbind⟩ := lam_facts (env := X.env) hpn h7.1
        exact me_sortk (k := k + 3) (mb := semE cl body) (st.lam h6).2 (st.lam h6).1 (st.gl h3) (G.blt _ (by decide)) (sndE a c _ X W h4 st G tk) h5 hdef S hbind fun q f c' A outer s H hr =>
          sndE body ⟨[pn], sc, true, false⟩ _ _ noW h7.2 ⟨rfl, S.nd, rfl, rfl, hr.deeper _, fun _ _ => rfl, fun z => (by cases z)⟩ G takes_no
      · cases h7
    · cases h
  | .lc elt tg kk its cond own, c, e, X, W, h, st, G, tk => by
    simp only [chkE] at h
    split at h
    · rename_i x tt it ifs sc pos
      simp only [Bool.and_eq_true, decide_eq_true_eq] at h
      obtain ⟨⟨⟨⟨⟨⟨⟨h1, h2⟩, h3⟩, h4⟩, h5⟩, h6⟩, h7⟩, h8⟩ := h
      split at h1
      · rename_i xs hxs
        have hsit : ∀ (s : Shared) (H : Hp) (Cc : Addr) (cl : List (PySem.Str × Addr)) (fp : List Addr), Sit C k ⟨c.N, relS sc c.sc, false, false⟩ (X.blk s H sc (compEnvC sc cl Cc X.env) fp) := fun s H Cc cl fp =>
          ⟨st.N, st.nd, by show relS sc X.env.scope = relS sc c.sc; rw [st.sc], st.calm, st.room, fun z => (by cases z), fun z => (by cases z)⟩
        have ok : BlkOk X.N X.env.scope sc (ownOf c.N own) := by rw [st.N, st.sc]; exact blkOk_by h2
        have hcond : ∀ (Y : Cx) (hY : Sit C k ⟨c.N, relS sc c.sc, false, false⟩ Y), Glo g C Y.prog Y.w Y.K Y.mg Y.base k cl → PTs Y ifs (tT C Y.K noW (semC cl cond)) := fun Y hY GY => sndC cond _ ifs Y h7 hY GY
        have e : semE cl (.lc elt tg kk its cond own) = lcM (fun ρ => NF.bnd (semEs cl its ρ) (wkOf kk)) tg own (semC cl cond) (semE cl elt) := by
          funext ρ
          simp only [semE, lcM]
          rw [bnd_assoc]
          rfl
        rw [e]
        by_cases hpl : kk.plain = true
        · have res := me_lc (W := W) (pos := pos) (own := ownOf c.N own) (mw := fun ρ => NF.bnd (semEs cl its ρ) (wkOf kk)) (mt := semC cl cond) (me := semE cl elt) (g := tg) st.calm st.nd (it_snd hpl hxs h1 (sndEs its c xs X W h1 st G tk) (fun t ht => by
            cases kk with
            | seq =>
              have hxs' : some [it] = some xs := hxs
              cases hxs'
              exact .inl (sndOne its c it X W h1 st G tk t ht)
            | _ => exact .inr (by intro z; cases z)) st G) ok
            (by rw [h3]; intro i hi; have := List.all_eq_true.mp h4 i hi; simpa using this) (it_leave hpl hxs) (fun s H Cc cl fp => (hsit s H Cc cl fp).tg h6) (fun s H Cc cl fp => hcond _ (hsit s H Cc cl fp) G)
            (fun s H Cc cl fp => sndE elt _ x _ noW h8 (hsit s H Cc cl fp) G takes_no) (fold_ok h5)
          rw [h3] at res
          exact res
        · have res := me_lcD (W := W) (pos := pos) (own := ownOf c.N own) (mw := fun ρ => NF.bnd (semEs cl its ρ) (wkOf kk)) (mt := semC cl cond) (me := semE cl elt) (g := tg) st.calm st.nd (it_sndD (by simpa using hpl) hxs h1 fun t x0 ht hx0 => by
              rw [hx0] at h1
              exact sndOne its c x0 X W h1 st G tk t ht) ok
            (by rw [h3]; intro i hi; have := List.all_eq_true.mp h4 i hi; simpa using this) (fun s H Cc cl fp => (hsit s H Cc cl fp).tg h6) (fun s H Cc cl fp => hcond _ (hsit s H Cc cl fp) G)
            (fun s H Cc cl fp => sndE elt _ x _ noW h8 (hsit s H Cc cl fp) G takes_no) (fold_ok h5)
          rw [h3] at res
          exact res
      · cases h1
    · cases h
  | .disp _ _, c, e, X, W, h, st, G, tk => by simp [chkE] at h
  | .lenset a, c, e, X, W, h, st, G, tk => by
    simp only [chkE] at h
    split at h
    · simp only [Bool.and_eq_true, decide_eq_true_eq] at h
      obtain ⟨⟨⟨⟨⟨rfl, rfl⟩, h1⟩, h2⟩, h3⟩, h4⟩ := h
      exact me_lenset st.calm (by have := st.hu; omega) (st.gl h1) (G.blt _ (by decide)) (st.gl h2) (G.blt _ (by decide)) (sndE a c _ X W h3 st G tk) h4
    · cases h
  | .sortset a, c, e, X, W, h, st, G, tk => by
    simp only [chkE] at h
    split at h
    · simp only [Bool.and_eq_true, decide_eq_true_eq] at h
      obtain ⟨⟨⟨⟨⟨rfl, rfl⟩, h1⟩, h2⟩, h3⟩, h4⟩ := h
      exact me_sortset st.calm (by have := st.hu; omega) (st.gl h1) (G.blt _ (by decide)) (st.gl h2) (G.blt _ (by decide)) (sndE a c _ X W h3 st G tk) h4
    · cases h
  | .sortkeys a, c, e, X, W, h, st, G, tk => by
    simp only [chkE] at h
    split at h
    · simp only [Bool.and_eq_true, decide_eq_true_eq] at h
      obtain ⟨⟨⟨⟨⟨rfl, rfl⟩, h1⟩, h2⟩, h3⟩, h4⟩ := h
      exact me_sortkeys st.calm (by have := st.hu; omega) (st.gl h1) (G.blt _ (by decide)) (sndE a c _ X W h2 st G tk) h3 h4
    · cases h
  | .listkeys a, c, e, X, W, h, st, G, tk => by
    simp only [chkE] at h
    split at h
    · simp only [Bool.and_eq_true, decide_eq_true_eq] at h
      obtain ⟨⟨⟨⟨⟨rfl, rfl⟩, h1⟩, h2⟩, h3⟩, h4⟩ := h
      exact me_listkeys st.calm (st.gl h1) (G.blt _ (by decide)) (sndE a c _ X W h2 st G tk) h3 h4
    · cases h
  | .sortf _ _, c, e, X, W, h, st, G, tk => by simp [chkE] at h
  | .isTy a ty, c, e, X, W, h, st, G, tk => by
    simp only [chkE] at h
    split at h
    · simp only [Bool.and_eq_true, decide_eq_true_eq] at h
      obtain ⟨⟨⟨⟨⟨rfl, rfl⟩, h1⟩, h2⟩, h3⟩, h4⟩ := h
      exact me_isTy (st.gl h1) (G.blt _ (by decide)) (st.gl h2) (G.blt ty.name (by cases ty <;> decide)) (sndE a c _ X W h3 st G tk) h4
    · cases h
  | .isEx _ _, c, e, X, W, h, st, G, tk => by simp [chkE] at h
theorem sndOne : ∀ (ts : List E) (c : Sc) (e : Expr) (X : Cx) (W : WX), chkEs g c ts [e] = true → Sit C k c X → Glo g C X.prog X.w X.K X.mg X.base k cl → Takes X W → ∀ t, ts = [t] → PE X e (tD C X.K W (semE cl t))
  | [], c, e, X, W, h, st, G, tk => fun t ht => by cases ht
  | [t0], c, e, X, W, h, st, G, tk => fun t ht => by
    cases ht
    simp only [chkEs, Bool.and_eq_true] at h
    exact sndE t0 c e X W h.1.1 st G tk
  | _ :: _ :: _, c, e, X, W, h, st, G, tk => fun t ht => by cases ht
theorem sndAnd : ∀ (ts : List E) (c : Sc) (es : List Expr) (pos : Pos) (X : Cx) (W : WX), chkAnd g c ts es = true → Sit C k c X → Glo g C X.prog X.w X.K X.mg X.base k cl → Takes X W → PE X (.BoolOp .And es pos) (tD C X.K W (semAnd cl ts))
  | [], c, es, pos, X, W, h, st, G, tk => by simp [chkAnd] at h
  | t :: ts, c, es, pos, X, W, h, st, G, tk => by
    simp only [chkAnd] at h
    split at h
    · simp only [Bool.and_eq_true] at h
      have : ts = [] := by simpa using h.2
      subst this
      exact me_and1 (sndE t c _ X W h.1 st G tk)
    · simp only [Bool.and_eq_true] at h
      cases ts with
      | nil => simp [chkAnd] at h
      | cons t2 ts => exact me_and (sndE t c _ X W h.1 st G tk) (sndAnd (t2 :: ts) c _ pos X W h.2 st G tk)
    · cases h
theorem sndOr : ∀ (ts : List E) (c : Sc) (es : List Expr) (pos : Pos) (X : Cx) (W : WX), chkAnd g c ts es = true → Sit C k c X → Glo g C X.prog X.w X.K X.mg X.base k cl → Takes X W → PE X (.BoolOp .Or es pos) (tD C X.K W (semOr cl ts))
  | [], c, es, pos, X, W, h, st, G, tk => by simp [chkAnd] at h
  | t :: ts, c, es, pos, X, W, h, st, G, tk => by
    simp only [chkAnd] at h
    split at h
    · simp only [Bool.and_eq_true] at h
      have : ts = [] := by simpa using h.2
      subst this
      exact me_and1 (sndE t c _ X W h.1 st G tk)
    · simp only [Bool.and_eq_true] at h
      cases ts with
      | nil => simp [chkAnd] at h
      | cons t2 ts => exact me_or (sndE t c _ X W h.1 st G tk) (sndOr (t2 :: ts) c _ pos X W h.2 st G tk)
    · cases h
theorem sndO : ∀ (t : Option E) (c : Sc) (e : Option Expr) (X : Cx) (W : WX), chkO g c t e = true → Sit C k c X → Glo g C X.prog X.w X.K X.mg X.base k cl → Takes X W → PO X e (tG C X.K W IV (semO cl t))
  | none, c, e, X, W, h, st, G, tk => by
    simp only [chkO] at h
    cases e with
    | none => exact mo_none
    | some e => simp at h
  | some t, c, e, X, W, h, st, G, tk => by
    simp only [chkO] at h
    cases e with
    | none => simp at h
    | some e => exact mo_some (sndE t c e X W h st G tk)
theorem sndC : ∀ (t : Option T) (c : Sc) (es : List Expr) (X : Cx), chkIfs g c t es = true → Sit C k c X → Glo g C X.prog X.w X.K X.mg X.base k cl → PTs X es (tT C X.K noW (semC cl t))
  | none, c, es, X, h, st, G => by
    simp only [chkIfs] at h
    cases es with
    | nil => exact ⟨fun pins s σ H Q I hh => pts_nil.run pins s σ H Q I (by obtain ⟨ρ, S, ι, er, s, p⟩ := hh; exact p.ret s rfl)⟩
    | cons e es => simp at h
  | some t, c, es, X, h, st, G => by
    simp only [chkIfs] at h
    split at h
    · exact pts_one (sndT t c _ X noW h st G takes_no)
    · cases h
theorem sndT : ∀ (t : T) (c : Sc) (e : Expr) (X : Cx) (W : WX), chkT g c t e = true → Sit C k c X → Glo g C X.prog X.w X.K X.mg X.base k cl → Takes X W → PT X e (tT C X.K W (semT cl t))
  | .ex t, c, e, X, W, h, st, G, tk => by
    have ih : ∀ e', chkE g c t e' = true → PE X e' (tD C X.K W (semE cl t)) := fun e' h' => sndE t c e' X W h' st G tk
    cases t with
    | cmp op a b =>
      simp only [chkT] at h
      split at h
      · simp only [Bool.and_eq_true, decide_eq_true_eq] at h
        obtain ⟨⟨⟨rfl, h1⟩, h2⟩, h3⟩ := h
        obtain ⟨r, q1, q2⟩ := cmp_rule (C := C) (X := X) G.hw st.hu op
        exact mt_cmp q1 q2 (cmp_truths op) (mark_ok h3) (sndE a c _ X W h1 st G tk) (sndE b c _ X W h2 st G tk)
      · cases h
    | chain o p a b d =>
      simp only [chkT] at h
      split at h
      · simp only [Bool.and_eq_true, decide_eq_true_eq] at h
        obtain ⟨⟨⟨⟨⟨rfl, rfl⟩, h1⟩, h2⟩, h3⟩, h4⟩ := h
        exact mt_chain G.hw st.hu (sndE a c _ X W h1 st G tk) (sndE b c _ X W h2 st G tk) (sndE d c _ X W h3 st G tk) (beq_f h4)
      · cases h
    | isn neg a =>
      simp only [chkT] at h
      split at h
      · simp only [Bool.and_eq_true, decide_eq_true_eq] at h
        obtain ⟨rfl, h1⟩ := h
        exact mt_isn (sndE a c _ X W h1 st G tk)
      · cases h
    | _ =>
      simp only [chkT, Bool.and_eq_true] at h
      exact mt_ex (ih e h.1) (test_ok h.2)
  | .not t, c, e, X, W, h, st, G, tk => by
    simp only [chkT] at h
    split at h
    · exact mt_not (sndT t c _ X W h st G tk)
    · cases h
  | .and ts, c, e, X, W, h, st, G, tk => by
    simp only [chkT] at h
    split at h
    · exact (sndTAnd ts c _ _ X W h st G tk).pt
    · cases h
  | .or ts, c, e, X, W, h, st, G, tk => by
    simp only [chkT] at h
    split at h
    · exact (sndTOr ts c _ _ X W h st G tk).pt
    · cases h
  | .ife _ _ _, c, e, X, W, h, st, G, tk => by simp [chkT] at h
theorem sndTAnd : ∀ (ts : List T) (c : Sc) (es : List Expr) (pos : Pos) (X : Cx) (W : WX), chkTs g c ts es = true → Sit C k c X → Glo g C X.prog X.w X.K X.mg X.base k cl → Takes X W → PW X (.BoolOp .And es pos) (tT C X.K W (semTAnd cl ts))
  | [], c, es, pos, X, W, h, st, G, tk => by simp [chkTs] at h
  | t :: ts, c, es, pos, X, W, h, st, G, tk => by
    simp only [chkTs] at h
    split at h
    · simp only [Bool.and_eq_true] at h
      have : ts = [] := by simpa using h.2
      subst this
      exact mt_and1 (sndT t c _ X W h.1 st G tk)
    · simp only [Bool.and_eq_true] at h
      exact mt_and (sndT t c _ X W h.1 st G tk) (sndTAnd ts c _ pos X W h.2 st G tk)
    · cases h
theorem sndTOr : ∀ (ts : List T) (c : Sc) (es : List Expr) (pos : Pos) (X : Cx) (W : WX), chkTs g c ts es = true → Sit C k c X → Glo g C X.prog X.w X.K X.mg X.base k cl → Takes X W → PW X (.BoolOp .Or es pos) (tT C X.K W (semTOr cl ts))
  | [], c, es, pos, X, W, h, st, G, tk => by simp [chkTs] at h
  | t :: ts, c, es, pos, X, W, h, st, G, tk => by
    simp only [chkTs] at h
    split at h
    · simp only [Bool.and_eq_true] at h
      have : ts = [] := by simpa using h.2
      subst this
      exact mt_or1 (sndT t c _ X W h.1 st G tk)
    · simp only [Bool.and_eq_true] at h
      exact mt_or (sndT t c _ X W h.1 st G tk) (sndTOr ts c _ pos X W h.2 st G tk)
    · cases h
theorem sndEs : ∀ (ts : List E) (c : Sc) (es : List Expr) (X : Cx) (W : WX), chkEs g c ts es = true → Sit C k c X → Glo g C X.prog X.w X.K X.mg X.base k cl → Takes X W → PA X es (tDs C X.K W (semEs cl ts))
  | [], c, es, X, W, h, st, G, tk => by
    simp only [chkEs] at h
    cases es with
    | nil => exact mes_nil
    | cons e es => simp at h
  | t :: ts, c, es, X, W, h, st, G, tk => by
    cases es with
    | nil => simp [chkEs] at h
    | cons e es =>
      simp only [chkEs, Bool.and_eq_true] at h
      exact mes_cons (sndE t c e X W h.1.1 st G tk) (sndEs ts c es X W h.2 st G tk) (star_ok h.1.2)
end
end
end NF
end -- NfSnd

section -- NfChk3
set_option linter.all false
set_option autoImplicit false
set_option maxRecDepth 100000
set_option maxHeartbeats 4000000
/-! The checker for statements, sound. -/
namespace NF
open PySem PySem.Spec PyProof.Rows L2
def isTup : Expr → Bool
  | .Tuple .. => true
  | _ => false
def isCompE : E → Bool
  | .lc .. => true
  | _ => false
/-- y = [..], stored within the comprehension's run -/
def setLcB (c : Sc) (y : PySem.Str) (py : Pos) : Expr → Bool
  | .ListComp _ _ sc pos => (match c.sc.kind with | .function => true | _ => false) && decide (c.sc.names.lookup y = some .local) && (py.line == pos.line) && !(sc.names.any fun (n, k) => n == y && (k == .local || k == .cell))
  | _ => false
/-- y = [..], stored behind the comprehension's run -/
def noSwapB (c : Sc) (y : PySem.Str) (py : Pos) : Expr → Bool
  | .ListComp _ _ sc pos => (match c.sc.names.lookup y with | some .local => false | _ => true) || !(py.line == pos.line) || (sc.names.any fun (n, k) => n == y && (k == .local || k == .cell))
  | .SetComp .. => false
  | .DictComp .. => false
  | _ => true
mutual
def chkS (g : Gi) (c : Sc) : NF.St → Stmt → Bool
  | .asg i e, s => match s with
    | .Assign [.Name y py] v _ => chkE g c e v && stoB c i y && (noSwapB c y py v || (isCompE e && setLcB c y py v))
    | _ => false
  | .unp is e, s => match s with
    | .Assign [.Tuple es _ _] v _ => chkE g c e v && stosB c es is && !(isTup v)
    | _ => false
  | .par _ _, _ => false
  | .sat cl i o e, s => match s with
    | .Assign [.Attribute x f _] v _ => decide (cl.fields[i]? = some f) && chkE g c o x && chkE g c e v && (g.mkn cl).isSome
    | _ => false
  | .ssub o ix e, s => match s with
    | .Assign [.Subscript x y _] v _ => chkE g c o x && chkE g c ix y && headOk y && chkE g c e v
    | _ => false
  | .dsub o ix e, s => match s with
    | .Assign [.Subscript x y _] v _ => chkE g c o x && chkE g c ix y && chkE g c e v
    | _ => false
  | .swap _ _ _, _ => false
  | .exp e, s => match s with
    | .Expr v _ => chkE g c e v && noComp v
    | _ => false
  | .ret e, s => match s with
    | .Return (some v) _ => chkE g c e v
    | _ => false
  | .retN, s => match s with
    | .Return none _ => true
    | _ => false
  | .pass, s => match s with
    | .Pass _ => true
    | _ => false
  | .cont, s => match s with
    | .Continue _ => true
    | _ => false
  | .ife t a b, s => match s with
    | .If x y z _ => chkT g c t x && chkSs g c a y && chkSs g c b z
    | _ => false
  | .for_ tg k its body, s => match s with
    | .For t it b [] _ => k.plain && (match itArgs c k it with | some xs => chkEs g c its xs | none => false) && headOk it && tgB c tg t && chkSs g c body b
    | _ => false
  | .whl _ t body, s => match s with
    | .While x b [] _ => chkT g c t x && chkSs g c body b
    | _ => false
  | .raise e, s => match s with
    | .Raise (some (.Call (.Name x _) [.Constant (.str _) _ _] [] _)) none _ => decide (x = str e.name) && glB c.sc x && okN x && g.ex e
    | _ => false
  | .tryA _ _ _ _, _ => false
  | .tryF _ _ _ _, _ => false
def chkSs (g : Gi) (c : Sc) : List NF.St → List Stmt → Bool
  | [], ss => ss.isEmpty
  | t :: ts, ss => match ss with
    | s :: ss => chkS g c t s && chkSs g c ts ss
    | [] => false
end
theorem swap_other {v t : Expr} {l : Nat} {env : PySem.Env} (h : ∀ x p, t ≠ .Name x p) : swapsWith v (some t) l env = pure false := by
  cases v <;> cases t <;> first | rfl | exact absurd rfl (h _ _)
theorem swap_no {c : Sc} {y : PySem.Str} {py : Pos} {v : Expr} {l : Nat} {env : PySem.Env} (hs : env.scope = c.sc) (h : noSwapB c y py v = true) : swapsWith v (some (.Name y py)) l env = pure false := by
  cases v with
  | ListComp elt gs sc pos =>
    simp only [noSwapB, Bool.or_eq_true] at h
    show (pure (env.blockKind == .function && env.kindOf y == some .local && py.line == pos.line && !(sc.names.any fun (n, k) => n == y && (k == .local || k == .cell))) : Sem Bool) = pure false
    congr 1
    have ky : env.kindOf y = c.sc.names.lookup y := by rw [← hs]; rfl
    rw [ky]
    rcases h with (h | h) | h
    · have : (c.sc.names.lookup y == some NameKind.local) = false := by
        split at h
        · cases h
        · rename_i hne
          exact beq_eq_false_iff_ne.mpr hne
      rw [this]
      simp
    · rw [Bool.not_eq_true'] at h
      rw [h]
      simp
    · rw [h]
      simp
  | SetComp => simp [noSwapB] at h
  | DictComp => simp [noSwapB] at h
  | _ => rfl
theorem swap_sole {v t : Expr} {l : Nat} {env : PySem.Env} (h : ∀ x p, t ≠ .Name x p) : swapsWithSole [t] v l env = pure false := swap_other h
theorem asg_sub {o ix : Expr} {p2 : Pos} {env : PySem.Env} (h : headOk ix = true) : ∀ v, assign (.Subscript o ix p2) env v = (do
      let ov ← holding [v] (eval o env)
      let iv ← holding [v, ov] (eval ix env)
      standAt p2
      holding [v, ov, iv] (setItem ov iv v)
      release [v, ov, iv] []) := by
  intro v
  cases ix <;> first | rfl | (simp [headOk] at h)
theorem stores_none {es : List Expr} {k : Nat} {p : Pos} {v : Expr} {env : PySem.Env} (h : isTup v = false) : swappedStores [.Tuple es k p] v env = pure none := by
  cases v <;> first | rfl | cases h
section
variable {g : Gi} {C : Cfg} {k : Nat} {cl : Or}
theorem lc_setS {i : Nat} {y : PySem.Str} {py spos : Pos} {elt : E} {tg : Tg} {kk : Ik} {its : List E} {cond : Option T} {own : List Nat} {c : Sc} {v : Expr} {X : Cx} {W : WX} (h : chkE g c (.lc elt tg kk its cond own) v = true) (hs : setLcB c y py v = true) (hi : X.N[i]? = some y)
    (st : Sit C k c X) (G : Glo g C X.prog X.w X.K X.mg X.base k cl) (tk : Takes X W) : PS X (.Assign [.Name y py] v spos) (tS C X.K W fun ρ => liftM (semE cl (.lc elt tg kk its cond own) ρ) ρ fun d => sret (.nx (ρ.set i (some d)))) := by
  simp only [chkE] at h
  split at h
  · rename_i x tt it ifs sc pos
    simp only [Bool.and_eq_true, decide_eq_true_eq] at h
    obtain ⟨⟨⟨⟨⟨⟨⟨h1, h2⟩, h3⟩, h4⟩, h5⟩, h6⟩, h7⟩, h8⟩ := h
    split at h1
    · rename_i xs hxs
      have hsit : ∀ (s : Shared) (H : Hp) (Cc : Addr) (cl : List (PySem.Str × Addr)) (fp : List Addr), Sit C k ⟨c.N, relS sc c.sc, false, false⟩ (X.blk s H sc (compEnvC sc cl Cc X.env) fp) := fun s H Cc cl fp =>
        ⟨st.N, st.nd, by show relS sc X.env.scope = relS sc c.sc; rw [st.sc], st.calm, st.room, fun z => (by cases z), fun z => (by cases z)⟩
      have ok : BlkOk X.N X.env.scope sc (ownOf c.N own) := by rw [st.N, st.sc]; exact blkOk_by h2
      simp only [setLcB, Bool.and_eq_true, decide_eq_true_eq] at hs
      obtain ⟨⟨⟨q1, q2⟩, q3⟩, q4⟩ := hs
      have hk : X.env.scope.kind = .function := by
        rw [st.sc]
        split at q1
        · assumption
        · cases q1
      have hl : X.env.scope.names.lookup y = some .local := by rw [st.sc]; exact q2
      have e : semE cl (.lc elt tg kk its cond own) = lcM (fun ρ => NF.bnd (semEs cl its ρ) (wkOf kk)) tg own (semC cl cond) (semE cl elt) := by
        funext ρ
        simp only [semE, lcM]
        rw [bnd_assoc]
        rfl
      rw [e]
      by_cases hpl : kk.plain = true
      · have res := ms_setLc (W := W) (pos := pos) (spos := spos) (py := py) (own := ownOf c.N own) (mw := fun ρ => NF.bnd (semEs cl its ρ) (wkOf kk)) (mt := semC cl cond) (me := semE cl elt) (g := tg) st.calm st.nd hi hl (sw_true hk hl q3 (beq_f q4)) (it_snd hpl hxs h1 (sndEs its c xs X W h1 st G tk) (fun t ht => by
            cases kk with
            | seq =>
              have hxs' : some [it] = some xs := hxs
              cases hxs'
              exact .inl (sndOne its c it X W h1 st G tk t ht)
            | _ => exact .inr (by intro z; cases z)) st G) ok
          (by rw [h3]; intro i hi; have := List.all_eq_true.mp h4 i hi; simpa using this) (it_leave hpl hxs) (fun s H Cc cl fp => (hsit s H Cc cl fp).tg h6) (fun s H Cc cl fp => sndC cond _ ifs _ h7 (hsit s H Cc cl fp) G)
          (fun s H Cc cl fp => sndE elt _ x _ noW h8 (hsit s H Cc cl fp) G takes_no) (fold_ok h5)
        rw [h3] at res
        exact res
      · have res := ms_setLcD (W := W) (pos := pos) (spos := spos) (py := py) (own := ownOf c.N own) (mw := fun ρ => NF.bnd (semEs cl its ρ) (wkOf kk)) (mt := semC cl cond) (me := semE cl elt) (g := tg) st.calm st.nd hi hl (sw_true hk hl q3 (beq_f q4)) (it_sndD (by simpa using hpl) hxs h1 fun t x0 ht hx0 => by
              rw [hx0] at h1
              exact sndOne its c x0 X W h1 st G tk t ht) ok
          (by rw [h3]; intro i hi; have := List.all_eq_true.mp h4 i hi; simpa using this) (fun s H Cc cl fp => (hsit s H Cc cl fp).tg h6) (fun s H Cc cl fp => sndC cond _ ifs _ h7 (hsit s H Cc cl fp) G)
          (fun s H Cc cl fp => sndE elt _ x _ noW h8 (hsit s H Cc cl fp) G takes_no) (fold_ok h5)
        rw [h3] at res
        exact res
    · cases h1
  · cases h
/-- what raise asks of the module -/
def ExF (g : Gi) (C : Cfg) (K : PySem.W.Frag) (mg : PySem.Str → Option Value) : Prop := ∀ e, g.ex e = true → ∃ (bmB : List Value) (B newId initId : String), ExcBaseFacts B newId initId bmB ∧ PySem.W.excIn K (C.cad e) bmB newId = true ∧ mg (str e.name) = some (.ref (C.cad e)) ∧ PySem.W.keepIn K (.ref (C.cad e)) = true ∧
  PySem.W.subIn K (.ref (C.cad e)) (.type "BaseException") = some true ∧ PySem.W.typeIn K (.ref (C.cad e)) = some (.type "type")
mutual
theorem sndS : ∀ (t : NF.St) (c : Sc) (s : Stmt) (X : Cx) (W : WX), chkS g c t s = true → Sit C k c X → Glo g C X.prog X.w X.K X.mg X.base k cl → ExF g C X.K X.mg → Takes X W → PassesOwn (model X.prog X.w) X.A X.env X.xe → PS X s (tS C X.K W (semS cl t))
  | .asg i e, c, s, X, W, h, st, G, EX, tk, po => by
    simp only [chkS] at h
    split at h
    · simp only [Bool.and_eq_true, Bool.or_eq_true] at h
      obtain ⟨⟨h1, h2⟩, h3⟩ := h
      obtain ⟨q1, q2, q3⟩ := st.sto h2
      rcases h3 with h3 | h3
      · exact ms_asg st.nd q1 q2 (sndE e c _ X W h1 st G tk) (swap_no st.sc h3) q3
      · cases e with
        | lc elt tg kk its cond own => exact lc_setS h1 h3.2 q1 st G tk
        | _ => simp [isCompE] at h3
    · cases h
  | .unp is e, c, s, X, W, h, st, G, EX, tk, po => by
    simp only [chkS] at h
    split at h
    · simp only [Bool.and_eq_true] at h
      obtain ⟨⟨h1, h2⟩, h3⟩ := h
      exact ms_unpT st.calm st.nd (st.stos h2) (sndE e c _ X W h1 st G tk) (swap_sole (by intro _ _ z; cases z)) (stores_none (beq_f h3))
    · cases h
  | .sat cl' i o e, c, s, X, W, h, st, G, EX, tk, po => by
    simp only [chkS] at h
    split at h
    · simp only [Bool.and_eq_true, decide_eq_true_eq] at h
      obtain ⟨⟨⟨h1, h2⟩, h3⟩, h4⟩ := h
      obtain ⟨n, hn⟩ := Option.isSome_iff_exists.mp h4
      obtain ⟨fi, _, _, _, _, hc, hna, _⟩ := G.mkn cl' n hn
      exact ms_sat hc h1 (hna _ (List.mem_of_getElem? h1)) (sndE o c _ X W h2 st G tk) (sndE e c _ X W h3 st G tk) (swap_other (by intro _ _ z; cases z))
    · cases h
  | .ssub o ix e, c, s, X, W, h, st, G, EX, tk, po => by
    simp only [chkS] at h
    split at h
    · simp only [Bool.and_eq_true] at h
      obtain ⟨⟨⟨h1, h2⟩, h3⟩, h4⟩ := h
      exact ms_ssub (sndE o c _ X W h1 st G tk) (sndE ix c _ X W h2 st G tk) (sndE e c _ X W h4 st G tk) h3 (swap_sole (by intro _ _ z; cases z)) rfl (asg_sub h3)
    · cases h
  | .dsub o ix e, c, s, X, W, h, st, G, EX, tk, po => by
    simp only [chkS] at h
    split at h
    · simp only [Bool.and_eq_true] at h
      obtain ⟨⟨h1, h2⟩, h3⟩ := h
      exact ms_dsub st.hu (sndE o c _ X W h1 st G tk) (sndE ix c _ X W h2 st G tk) (sndE e c _ X W h3 st G tk) (swap_other (by intro _ _ z; cases z))
    · cases h
  | .exp e, c, s, X, W, h, st, G, EX, tk, po => by
    simp only [chkS] at h
    split at h
    · simp only [Bool.and_eq_true] at h
      exact ms_exp (sndE e c _ X W h.1 st G tk) (swap_ok h.2)
    · cases h
  | .ret e, c, s, X, W, h, st, G, EX, tk, po => by
    simp only [chkS] at h
    split at h
    · exact ms_ret (sndE e c _ X W h st G tk)
    · cases h
  | .retN, c, s, X, W, h, st, G, EX, tk, po => by
    simp only [chkS] at h
    split at h
    · exact ms_retN
    · cases h
  | .pass, c, s, X, W, h, st, G, EX, tk, po => by
    simp only [chkS] at h
    split at h
    · exact ms_pass
    · cases h
  | .cont, c, s, X, W, h, st, G, EX, tk, po => by
    simp only [chkS] at h
    split at h
    · exact ms_cont
    · cases h
  | .ife t a b, c, s, X, W, h, st, G, EX, tk, po => by
    simp only [chkS] at h
    split at h
    · simp only [Bool.and_eq_true] at h
      exact ms_ife (sndT t c _ X W h.1.1 st G tk) (sndSs a c _ X W h.1.2 st G EX tk po) (sndSs b c _ X W h.2 st G EX tk po)
    · cases h
  | .for_ tg kk its body, c, s, X, W, h, st, G, EX, tk, po => by
    simp only [chkS] at h
    split at h
    · rename_i t it b pos
      simp only [Bool.and_eq_true] at h
      obtain ⟨⟨⟨⟨hpl, h1⟩, h2⟩, h3⟩, h4⟩ := h
      split at h1
      · rename_i xs hxs
        exact ms_for (mw := fun ρ => NF.bnd (semEs cl its ρ) (wkOf kk)) (it_leave hpl hxs) po st.calm (it_snd hpl hxs h1 (sndEs its c xs X W h1 st G tk) (fun t ht => by
            cases kk with
            | seq =>
              have hxs' : some [it] = some xs := hxs
              cases hxs'
              exact .inl (sndOne its c it X W h1 st G tk t ht)
            | _ => exact .inr (by intro z; cases z)) st G) (st.tg h3) (sndSs body c _ X W h4 st G EX tk po) (fold_ok h2)
      · cases h1
    · cases h
  | .whl n t body, c, s, X, W, h, st, G, EX, tk, po => by
    simp only [chkS] at h
    split at h
    · simp only [Bool.and_eq_true] at h
      exact ms_whl po (sndT t c _ X W h.1 st G tk) (sndSs body c _ X W h.2 st G EX tk po)
    · cases h
  | .raise e, c, s, X, W, h, st, G, EX, tk, po => by
    simp only [chkS] at h
    split at h
    · simp only [Bool.and_eq_true, decide_eq_true_eq] at h
      obtain ⟨⟨⟨rfl, h1⟩, h2⟩, h3⟩ := h
      obtain ⟨bmB, B, newId, initId, F, q1, q2, q3, q4, q5⟩ := EX e h3
      exact ms_raise st.calm tk F q1 q2 q3 (raises_own q4 q5) (st.gl h1) (okN_1 h2).1
    · cases h
  | .par _ _, c, s, X, W, h, st, G, EX, tk, po => by simp [chkS] at h
  | .swap _ _ _, c, s, X, W, h, st, G, EX, tk, po => by simp [chkS] at h
  | .tryA _ _ _ _, c, s, X, W, h, st, G, EX, tk, po => by simp [chkS] at h
  | .tryF _ _ _ _, c, s, X, W, h, st, G, EX, tk, po => by simp [chkS] at h
theorem sndSs : ∀ (ts : List NF.St) (c : Sc) (ss : List Stmt) (X : Cx) (W : WX), chkSs g c ts ss = true → Sit C k c X → Glo g C X.prog X.w X.K X.mg X.base k cl → ExF g C X.K X.mg → Takes X W → PassesOwn (model X.prog X.w) X.A X.env X.xe → PSs X ss (tS C X.K W (semSs cl ts))
  | [], c, ss, X, W, h, st, G, EX, tk, po => by
    simp only [chkSs] at h
    cases ss with
    | nil => exact ms_nil
    | cons s ss => simp at h
  | t :: ts, c, ss, X, W, h, st, G, EX, tk, po => by
    cases ss with
    | nil => simp [chkSs] at h
    | cons s ss =>
      simp only [chkSs, Bool.and_eq_true] at h
      exact ms_cons (sndS t c s X W h.1 st G EX tk po) (sndSs ts c ss X W h.2 st G EX tk po)
end
end
end NF
end -- NfChk3

section -- NfFn
set_option linter.all false
set_option autoImplicit false
set_option maxRecDepth 100000
set_option maxHeartbeats 2000000
/-! A def's promise by its tree. -/
namespace NF
open PySem PySem.Spec PyProof.Rows L2
/-- a def of the text, its code object told -/
structure FunC (K : PySem.W.Frag) (x qual : PySem.Str) (st : Stmt) (f : Addr) (fd : FuncData) (cdv : Value) : Prop where
  ex : ∃ (oc : Value) (od : Option Addr) (kV doc pm : Value) (an : Option Addr) (ct : Value) (osl : Array (Option Value)), fd = PySem.W.fnOf x qual (defArgs st) (defBody st) (defScope st) .none kV doc pm an cdv ct ∧
    K.lookup f = some ⟨oc, od, .func (PySem.W.fnOf x qual (defArgs st) (defBody st) (defScope st) .none kV doc pm an cdv ct), osl⟩ ∧ PySem.W.codeIn K cdv qual = true
theorem er_start {H : Hp} {ι : List Addr} {N : List PySem.Str} {ds : List D} {vs : List V} {n : Nat} (r : DVs H ι ds vs) (hl : ds.length = n) : ER H ι (L2.start N vs) (ds.map some ++ List.replicate (N.length - n) none) := by
  subst hl
  unfold L2.start
  refine ⟨by simp [r.len], fun i d e => ?_⟩
  by_cases hi : i < ds.length
  · rw [List.getElem?_append_left (by simpa using hi), List.getElem?_map] at e
    cases hd : ds[i]? with
    | none => rw [hd] at e; cases e
    | some d' =>
      rw [hd] at e
      cases e
      obtain ⟨v, hv, dv⟩ := r.get hd
      exact ⟨v, by rw [List.getElem?_append_left (by simpa [r.len] using hi), List.getElem?_map, hv]; rfl, dv⟩
  · rw [List.getElem?_append_right (by simpa using hi)] at e
    rw [List.getElem?_replicate] at e
    split at e <;> cases e
theorem fn_snd {g : Gi} {C : Cfg} {P : Program} {w : World} {K : PySem.W.Frag} {mg : PySem.Str → Option Value} {base : Heap} {k : Nat} {cl : Or} {x qual : PySem.Str} {st : Stmt} {f : Addr} {fd : FuncData} {cdv : Value} {N ps : List PySem.Str} {lam : Bool} {fn : Fn}
    (F : FunC K x qual st f fd cdv) (S : FnScope N ps (defScope st)) (hk : chkSs g ⟨N, defScope st, true, lam⟩ fn.body (defBody st) = true) (hps : ps.length = fn.ps) (hns : N.length = fn.ns) (G : Glo g C P w K mg base k cl) (EX : ExF g C K mg)
    (hlam : lam = true → ∃ c T, cdv = .ref c ∧ LamX.TabB base mg c T ∧ (T, qual ++ ".<locals>." ++ "<lambda>") ∈ C.tab ∧ ∀ p ∈ C.tab, p.1 = T → p.2 = qual ++ ".<locals>." ++ "<lambda>") :
    FnOk P w K mg base (L2.CX P w) (k + 7) f fd ps (spO C K ps.length (fn.run cl)) := by
  obtain ⟨oc, od, kV, doc, pm, an, ct, osl, rfl, lk, hcd⟩ := F.ex
  refine fn_of lk hcd S (fun vs H Q E h => h.1) fun A outer s H vs Q E hr hsp => ?_
  obtain ⟨hl, ds, S0, ι, st0, r, p⟩ := hsp
  have sit : Sit C k ⟨N, defScope st, true, lam⟩ (cxOf (L2.CX P w) P w K mg base N qual (defScope st) f cdv A outer s H E) :=
    ⟨rfl, S.nd, rfl, rfl, hr.mono (by omega), fun _ _ => rfl, fun z => ⟨by
      obtain ⟨c, T, e1, e2, e3, e4⟩ := hlam z
      exact ⟨c, T, e1, e2, e3, e4⟩, hr⟩⟩
  refine ⟨_, sndSs fn.body _ (defBody st) (cxOf (L2.CX P w) P w K mg base N qual (defScope st) f cdv A outer s H E) (fun cls d _ H' => E cls d H') hk sit G EX ?_ (passes_of rfl), ?_⟩
  · exact takes_of rfl rfl rfl rfl
  · have hdl : ds.length = fn.ps := by rw [← r.len, hl, hps]
    refine ⟨_, S0, ι, er_start r hdl, st0, ?_⟩
    have p : Post C K _ _ DV H ι (fn.run cl ds S0) Q := p
    unfold Fn.run at p
    rw [if_pos hdl, ← hns] at p
    show PostS C K _ _ H ι (semSs cl fn.body (ds.map some ++ List.replicate (N.length - fn.ps) none) S0)
    cases hm : semSs cl fn.body (ds.map some ++ List.replicate (N.length - fn.ps) none) S0 with
    | bad => rw [hm] at p; exact False.elim p
    | exn c ρ S1 => rw [hm] at p; exact fun σ' H' ι' e s' _ => p H' ι' e s'
    | ok fl S1 =>
      rw [hm] at p
      cases fl with
      | rt d => exact p
      | nx ρ => exact fun σ' H' ι' e s' _ => p _ H' ι' e s' rfl
      | ct ρ => exact False.elim p
end NF
end -- NfFn

section -- NfGlo
set_option linter.all false
set_option autoImplicit false
set_option maxRecDepth 100000
set_option maxHeartbeats 2000000
/-! All defs of a text keep their promises, to any depth of calls. -/
namespace NF
open PySem PySem.Spec PyProof.Rows L2
section
variable {g : Gi} {Δ : String → Option Fn} {C : Cfg} {P : Program} {w : World} {K : PySem.W.Frag} {mg : PySem.Str → Option Value} {base : Heap}
/-- a def of the text and its tree -/
def DefOk (g : Gi) (C : Cfg) (K : PySem.W.Frag) (mg : PySem.Str → Option Value) (base : Heap) (fi : FI) (fn : Fn) : Prop := ∃ (x qual : PySem.Str) (st : Stmt) (cdv : Value) (N : List PySem.Str) (lam : Bool), FunC K x qual st fi.addr fi.fd cdv ∧ FnScope N fi.ps (defScope st) ∧
  chkSs g ⟨N, defScope st, true, lam⟩ fn.body (defBody st) = true ∧ fi.ps.length = fn.ps ∧ N.length = fn.ns ∧
    (lam = true → ∃ c T, cdv = .ref c ∧ LamX.TabB base mg c T ∧ (T, qual ++ ".<locals>." ++ "<lambda>") ∈ C.tab ∧ ∀ p ∈ C.tab, p.1 = T → p.2 = qual ++ ".<locals>." ++ "<lambda>")
structure TxtF (g : Gi) (Δ : String → Option Fn) (C : Cfg) (w : World) (K : PySem.W.Frag) (mg : PySem.Str → Option Value) (base : Heap) : Prop where
  hw : w = C.w
  fn : ∀ f n, g.fn f = some n → ∃ (fn : Fn) (fi : FI), Δ f = some fn ∧ fi.name = str f ∧ fi.ps.length = n ∧ DefOk g C K mg base fi fn ∧ mg fi.name = some (.ref fi.addr) ∧ PySem.W.keepIn K (.ref fi.addr) = true ∧ Binds K fi.fd fi.ps []
  meth : ∀ c m n, g.meth c m = some n → ∃ (fn : Fn) (fi : FI), Δ (c.dot m) = some fn ∧ fi.name = str m ∧ fi.ps.length = n ∧ DefOk g C K mg base fi fn ∧ Meth K (C.kad c) fi.name fi.addr ∧ Binds K fi.fd fi.ps [] ∧ Cls K (C.kad c)
  mkn : ∀ c n, g.mkn c = some n → ∃ (fn : Fn) (fi : FI), Δ (c.dot "__init__") = some fn ∧ fi.ps.length = n ∧ DefOk g C K mg base fi fn ∧ Mk K (C.kad c) fi.addr ∧ Binds K fi.fd fi.ps [] ∧ Cls K (C.kad c) ∧ (∀ f ∈ c.fields, NoAttr K (C.kad c) f) ∧ mg (str c.name) = some (.ref (C.kad c))
  con : ∀ x d, g.con x d = true → ∃ u, mg (str x) = some u ∧ GlbV C d u
  blt : ∀ x ∈ bltNames, mg (str x) = none
  ex : ExF g C K mg
theorem fnok_bad {k n : Nat} {f : Addr} {fd : FuncData} {ps : List PySem.Str} (hn : ps.length = n) : FnOk P w K mg base (L2.CX P w) k f fd ps (spO C K n (fun _ => bad)) :=
  ⟨fun vs H Q E h => by rw [hn]; exact h.1, fun A outer s H args us vs Q E hr he hb hv hs => by
    obtain ⟨_, _, _, _, _, _, p⟩ := hs
    exact False.elim p⟩
theorem call_at {k : Nat} {f : String} {fn : Fn} (h : Δ f = some fn) : callF Δ (k + 1) f = fn.run (callF Δ k) := by
  funext ds
  simp only [callF, h]
theorem glo_all (T : TxtF g Δ C w K mg base) : ∀ n : Nat, Glo g C P w K mg base (7 * n) (callF Δ n)
  | 0 => {
    hw := T.hw
    fn := fun f n h => by
      obtain ⟨fn, fi, a1, a2, a3, a4, a5, a6, a7⟩ := T.fn f n h
      exact ⟨fi, a2, a3, fnok_bad rfl, a5, a6, a7⟩
    meth := fun c m n h => by
      obtain ⟨fn, fi, a1, a2, a3, a4, a5, a6, a7⟩ := T.meth c m n h
      exact ⟨fi, a2, a3, fnok_bad rfl, a5, a6, a7⟩
    mkn := fun c n h => by
      obtain ⟨fn, fi, a1, a3, a4, a5, a6, a7⟩ := T.mkn c n h
      exact ⟨fi, a3, fnok_bad rfl, a5, a6, a7⟩
    con := T.con
    blt := T.blt }
  | n + 1 => by
    have G := glo_all T n
    have one : ∀ {f : String} {fn : Fn} {fi : FI}, Δ f = some fn → DefOk g C K mg base fi fn → FnOk P w K mg base (L2.CX P w) (7 * (n + 1)) fi.addr fi.fd fi.ps (spO C K fi.ps.length (callF Δ (n + 1) f)) := fun {f fn fi} h D => by
      obtain ⟨x, qual, st, cdv, N, lam, F, S, hk, h1, h2, h3⟩ := D
      rw [call_at h]
      exact fn_snd F S hk h1 h2 G T.ex h3
    exact {
      hw := T.hw
      fn := fun f n h => by
        obtain ⟨fn, fi, a1, a2, a3, a4, a5, a6, a7⟩ := T.fn f n h
        exact ⟨fi, a2, a3, one a1 a4, a5, a6, a7⟩
      meth := fun c m n h => by
        obtain ⟨fn, fi, a1, a2, a3, a4, a5, a6, a7⟩ := T.meth c m n h
        exact ⟨fi, a2, a3, one a1 a4, a5, a6, a7⟩
      mkn := fun c n h => by
        obtain ⟨fn, fi, a1, a3, a4, a5, a6, a7⟩ := T.mkn c n h
        exact ⟨fi, a3, one a1 a4, a5, a6, a7⟩
      con := T.con
      blt := T.blt }
/-- the law's own promise -/
def spLaw (K : PySem.W.Frag) (T : List Addr) : Sp := fun vs H Q _ => ∃ (a : Addr) (ns : List Int), vs = [.ref a] ∧ SqL K H a (ns.map V.int) ∧ ns.length ≤ 63 ∧ (∀ t ∈ T, H t = some (.tbl #[])) ∧ ∀ H', Q (.bl true) H'
end
end NF
end -- NfGlo

section -- NfEnd
set_option linter.all false
set_option autoImplicit false
set_option maxRecDepth 100000
set_option maxHeartbeats 2000000
/-! The law's own call. -/
namespace NF
open PySem PySem.Spec PyProof.Rows L2
section
variable {P : Program} {w : World} {K : PySem.W.Frag} {mg : PySem.Str → Option Value} {base : Heap} {k : Nat} {f : Addr} {fd : FuncData} {ps : List PySem.Str} {sp : Sp}
/-- a list that is handed in may be taken as frozen -/
theorem FnOk.frozen (F : FnOk P w K mg base (L2.CX P w) k f fd ps sp) : FnOk P w K mg base (L2.CX P w) k f fd ps (fun vs H Q E => sp vs H Q E ∨ ∃ a xs, H a = some (.lst xs) ∧ ∀ o, sp vs (upd H a (.frz o (.lst xs))) Q E) := by
  refine ⟨fun vs H Q E h => ?_, fun A outer s H args us vs Q E hr e0 hb hv hs => ?_⟩
  · rcases h with h | ⟨a, xs, _, h⟩
    · exact F.len vs H Q E h
    · exact F.len vs _ Q E (h default)
  · rcases hs with h | ⟨a, xs, ha, h⟩
    · exact F.run A outer s H args us vs Q E hr e0 hb hv h
    · obtain ⟨hz, its, n, r, ho⟩ := e0.hok a _ ha
      obtain ⟨ob, hob⟩ : ∃ ob, s.heap.get? a = some ob := ⟨_, ho⟩
      have ne : ∀ b, H b = none → b ≠ a := fun b q z => by rw [z, ha] at q; cases q
      have hok : HOk P w (upd H a (.frz ob (.lst xs))) s.heap := fun b u q => by
        by_cases hba : b = a
        · rw [hba, upd_same] at q
          cases q
          rw [hba]
          exact ⟨hob, hz, its, n, r, ho⟩
        · rw [upd_ne hba] at q
          exact (e0.hok b u q).stay (fun c o _ z => z) (fun c z => by rw [upd_ne (by rintro rfl; rw [ha] at z; cases z)]; exact z) fun c ys z => by rw [upd_ne (by rintro rfl; rw [ha] at z; cases z)]; exact z
      have e1 : Env0 P w K mg base A outer s (upd H a (.frz ob (.lst xs))) := ⟨e0.frames, e0.mod, fun b o q => ⟨(e0.bs b o q).1, by rw [upd_ne (ne b (e0.bs b o q).2)]; exact (e0.bs b o q).2⟩, e0.bsz, e0.funs, fun b q => by rw [upd_ne (ne b (e0.frf b q))]; exact e0.frf b q, hok, e0.bare⟩
      have none' : ∀ b, H b = none → upd H a (.frz ob (.lst xs)) b = none := fun b q => by rw [upd_ne (ne b q)]; exact q
      have other : ∀ b u, H b = some u → (∀ ys, u ≠ .lst ys) → upd H a (.frz ob (.lst xs)) b = some u := fun b u q hu => by rw [upd_ne (by rintro rfl; rw [ha] at q; exact hu xs (Option.some.inj q).symm)]; exact q
      refine codeAny_mono (F.run A outer s _ args us vs Q E hr e1 hb hv (h _)) fun rr s' hq => ?_
      cases rr with
      | error er =>
        obtain ⟨a', B, H', cls, d, e, fz, hk, ub, hn, os, bare, z⟩ := hq
        exact ⟨a', B, H', cls, d, e, fz, hk, ⟨fun b o q1 q2 q3 => ub.keep b o q1 (none' b q2) q3, ub.slot, fun b o q1 q2 => ub.free b o q1 (none' b q2), ub.there, fun b ys q => ub.tups b ys (other b _ q (fun _ z => by cases z)), fun b o ys q => ub.frzs b o ys (other b _ q (fun _ z => by cases z)), fun b q1 q2 => ub.tbls b q1 (other b _ q2 (fun _ z => by cases z))⟩, hn, os, bare, z⟩
      | ok fl =>
        cases fl with
        | ret u =>
          obtain ⟨v, H', os, bare, un, hk, rv, q⟩ := hq
          exact ⟨v, H', os, bare, ⟨fun b o q1 q2 q3 q4 => un.keep b o q1 (none' b q2) q3 q4, fun b o q1 q2 q3 q4 => un.slot b o q1 (none' b q2) q3 q4, fun b o q1 q2 q3 => un.free b o q1 (none' b q2) q3, un.there, fun b ys q => un.tups b ys (other b _ q (fun _ z => by cases z)), fun b o ys q => un.frzs b o ys (other b _ q (fun _ z => by cases z)), fun b q1 q2 => un.tbls b q1 (other b _ q2 (fun _ z => by cases z))⟩, hk, rv, q⟩
        | next => exact hq
        | brk => exact hq
        | cont => exact hq
end
section
variable {g : Gi} {Δ : String → Option Fn} {C : Cfg} {P : Program} {w : World} {K : PySem.W.Frag} {mg : PySem.Str → Option Value} {base : Heap}
theorem dvs_ints {H : Hp} {ι : List Addr} : ∀ ns : List Int, DVs H ι (ns.map D.int) (ns.map V.int)
  | [] => rfl
  | n :: ns => ⟨_, _, rfl, rfl, dvs_ints ns⟩
/-- the store ahead of the law -/
theorem law_start {a0 a : Addr} {kvs : List (List Nat × D)} {ns : List Int} {H : Hp} (hp : C.pre = [a0]) (hr : RodAt K C.w a0 kvs) (hs : RolAt K H a (ns.map V.int)) (ht : ∀ p ∈ C.tab, H p.1 = some (.tbl #[])) : StR C K H [a0, a] [.rod kvs, .rol (ns.map D.int)] := by
  refine ⟨rfl, fun n b h => ?_, fun n o b h1 h2 => ?_, fun n m o u b h1 h2 h3 h4 => ?_, by simp, fun n o h => ?_, fun p hpp => ?_⟩
  · rw [hp] at h
    match n, h with
    | 0, h => simpa using h
  · match n, h1, h2 with
    | 0, h1, h2 => cases h1; cases h2; exact hr
    | 1, h1, h2 => cases h1; cases h2; exact ⟨_, hs, dvs_ints ns⟩
  · match n, h1 with
    | 0, h1 => cases h1; exact .inr (.inl rfl)
    | 1, h1 => cases h1; exact .inr (.inl rfl)
  · match n, h with
    | 0, h => cases h; simp [fixed]
    | 1, h => cases h; simp [fixed]
    | n + 2, h => simp at h
  · rw [show p.2 = p.2 from rfl]
    exact ⟨#[], ht p hpp, trivial, fun pos cv z => by simp [codeAmong] at z⟩
/-- the law's own promise -/
def spL (C : Cfg) (K : PySem.W.Frag) : Sp := fun vs H Q E => ∃ (a : Addr) (ns : List Int), vs = [.ref a] ∧ SqL K H a (ns.map V.int) ∧ ns.length ≤ 63 ∧ (∀ p ∈ C.tab, H p.1 = some (.tbl #[])) ∧ ∀ v H', v = V.bl true → Q v H'
theorem law_end {a0 : Addr} {kvs : List (List Nat × D)} {n : Nat} (T : TxtF g Δ C w K mg base) (hp : C.pre = [a0]) (hr : RodAt K C.w a0 kvs) (hl : g.fn "law" = some 1)
    (plain : ∀ ns : List Int, ns.length ≤ 63 → ∃ S', callF Δ n "law" [.ref 1] [.rod kvs, .rol (ns.map D.int)] = .ok (.bl true) S') :
    ∃ fi : FI, fi.name = str "law" ∧ fi.ps.length = 1 ∧ mg fi.name = some (.ref fi.addr) ∧ FnOk P w K mg base (L2.CX P w) (7 * n) fi.addr fi.fd fi.ps (spL C K) := by
  obtain ⟨fi, e1, e2, F, hm, hk, hb⟩ := (glo_all (P := P) T n).fn "law" 1 hl
  refine ⟨fi, e1, e2, hm, (FnOk.frozen F).imp fun vs H Q E h => ?_⟩
  obtain ⟨a, ns, rfl, hs, hn, ht, q⟩ := h
  obtain ⟨S', hS⟩ := plain ns hn
  have go : ∀ H, RolAt K H a (ns.map V.int) → (∀ p ∈ C.tab, H p.1 = some (.tbl #[])) → spO C K fi.ps.length (callF Δ n "law") [.ref a] H Q E := fun H hs ht => by
    refine ⟨by rw [e2]; rfl, [.ref 1], _, [a0, a], law_start hp hr hs ht, ⟨_, _, rfl, ⟨a, rfl, rfl⟩, rfl⟩, ?_⟩
    rw [hS]
    exact fun b H' ι' _ _ dv => q b H' dv
  rcases hs with (z | ⟨o, z⟩) | z
  · refine .inr ⟨a, _, z, fun o => go _ (.inl ⟨o, upd_same⟩) fun p hpp => ?_⟩
    rw [upd_ne (by rintro rfl; have := ht p hpp; rw [z] at this; cases this)]
    exact ht p hpp
  · exact .inl (go H (.inl ⟨o, z⟩) ht)
  · exact .inl (go H (.inr z) ht)
end
end NF
end -- NfEnd

section -- NfRow
set_option linter.all false
set_option autoImplicit false
set_option maxRecDepth 100000
set_option maxHeartbeats 2000000
/-! What a row's end asks, in pieces. -/
namespace NF
open PySem PySem.Spec PyProof.Rows L2
section
variable {K : PySem.W.Frag} {w : World} {mg : PySem.Str → Option Value} {base : Heap} {C : Cfg} {g : Gi} {Δ : String → Option Fn} {P : Program}
theorem funC_mk {x qual : PySem.Str} {st : Stmt} {f : Addr} {oc : Value} {od an : Option Addr} {osl : Array (Option Value)} {kV doc pm cdv ct : Value} (l : K.lookup f = some ⟨oc, od, .func (PySem.W.fnOf x qual (defArgs st) (defBody st) (defScope st) .none kV doc pm an cdv ct), osl⟩)
    (c : PySem.W.codeIn K cdv qual = true) : FunC K x qual st f (PySem.W.fnOf x qual (defArgs st) (defBody st) (defScope st) .none kV doc pm an cdv ct) cdv := ⟨oc, od, kV, doc, pm, an, ct, osl, rfl, l, c⟩
/-- the parameters of a def, all plain -/
def plainArgs (ps : List PySem.Str) (a : Arguments) : Bool := match a with
  | { posonlyargs := [], args := as, vararg := none, kwonlyargs := [], kw_defaults := [], kwarg := none, defaults := [] } => decide (as.map (·.arg) = ps)
  | _ => false
theorem FunC.binds {x qual : PySem.Str} {st : Stmt} {f : Addr} {fd : FuncData} {cdv : Value} {ps : List PySem.Str} (F : FunC K x qual st f fd cdv)
    (h : ∀ (kV doc pm : Value) (an : Option Addr) (cdv ct : Value) (us : List Value), us.length = ps.length → bindArgs (PySem.W.fnOf x qual (defArgs st) (defBody st) (defScope st) .none kV doc pm an cdv ct) ⟨us, []⟩ = pure (ps.zip us)) : Binds K fd ps [] := by
  obtain ⟨oc, od, kV, doc, pm, an, ct, osl, rfl, lk, hcd⟩ := F.ex
  exact .all (h kV doc pm an cdv ct)
/-- a def that makes no lambda -/
theorem defOk_mk {x qual : PySem.Str} {st : Stmt} {f : Addr} {fd : FuncData} {cdv : Value} {N ps : List PySem.Str} {fn : Fn} (F : FunC K x qual st f fd cdv) (hs : fnScB N ps (defScope st) = true) (hk : chkSs g ⟨N, defScope st, true, false⟩ fn.body (defBody st) = true) (h1 : ps.length = fn.ps) (h2 : N.length = fn.ns) :
    DefOk g C K mg base ⟨x, f, fd, ps⟩ fn := ⟨x, qual, st, cdv, N, false, F, fnSc_of hs, hk, h1, h2, fun z => by cases z⟩
/-- a def that makes a lambda -/
theorem defOkL_mk {x qual : PySem.Str} {st : Stmt} {f : Addr} {fd : FuncData} {c T : Addr} {N ps : List PySem.Str} {fn : Fn} (F : FunC K x qual st f fd (.ref c)) (hs : fnScB N ps (defScope st) = true) (hk : chkSs g ⟨N, defScope st, true, true⟩ fn.body (defBody st) = true) (h1 : ps.length = fn.ps) (h2 : N.length = fn.ns)
    (ht : C.tab = [(T, qual ++ ".<locals>." ++ "<lambda>")]) (tb : LamX.TabB base mg c T) : DefOk g C K mg base ⟨x, f, fd, ps⟩ fn :=
  ⟨x, qual, st, .ref c, N, true, F, fnSc_of hs, hk, h1, h2, fun _ => ⟨c, T, rfl, tb, by rw [ht]; simp, fun p hp _ => by rw [ht] at hp; simp at hp; rw [hp]⟩⟩
theorem chkSs_false {x : Bool} : x = true → x = true := id
/-- the module's dict of texts and numbers -/
def rodB : List DictEntry → List (List Nat × NF.D) → Bool
  | [], [] => true
  | e :: es, (k, d) :: kvs => (match e.key with | .str x _ => decide (x = strOf k) | _ => false) && (match e.val, d with | .int j _, .int i => decide (i = j) | _, _ => false) && rodB es kvs
  | _, _ => false
theorem rod_find : ∀ {es : List DictEntry} {kvs : List (List Nat × NF.D)}, rodB es kvs = true → (∀ k : List Nat, match kvGet kvs k with
    | some d => ∃ i u, d = .int i ∧ (es.find? (·.key.isStr (strOf k))).map (·.val) = some u ∧ RelV (.int i) u
    | none => es.find? (·.key.isStr (strOf k)) = none) ∧ es.any (·.refKey) = false
  | [], [], _ => ⟨fun k => rfl, rfl⟩
  | [], _ :: _, h => by simp [rodB] at h
  | _ :: _, [], h => by simp [rodB] at h
  | e :: es, (j, d) :: kvs, h => by
    simp only [rodB, Bool.and_eq_true] at h
    obtain ⟨⟨h1, h2⟩, h3⟩ := h
    obtain ⟨ih, ia⟩ := rod_find h3
    split at h1
    · rename_i x t hx
      simp only [decide_eq_true_eq] at h1
      subst h1
      split at h2
      · rename_i m tn i hv
        simp only [decide_eq_true_eq] at h2
        subst h2
        refine ⟨fun k => ?_, ?_⟩
        · unfold kvGet
          rw [List.find?_cons, List.find?_cons]
          by_cases hk : j = k
          · subst hk
            have e1 : e.key.isStr (strOf j) = true := by rw [hx]; simp [Value.isStr]
            rw [e1]
            simp only [decide_true]
            exact ⟨i, e.val, rfl, rfl, by rw [hv]; exact ⟨tn, rfl⟩⟩
          · have e1 : e.key.isStr (strOf k) = false := by
              rw [hx]
              simp only [Value.isStr, beq_eq_false_iff_ne, ne_eq]
              exact fun z => hk (strOf_inj z)
            rw [e1]
            rw [show decide (((j, NF.D.int i) : List Nat × NF.D).1 = k) = false from decide_eq_false hk]
            exact ih k
        · rw [List.any_cons, ia]
          have : e.refKey = false := by unfold DictEntry.refKey; rw [hx]
          rw [this]
          rfl
      · cases h2
    · cases h1
theorem rod_mk {a : Addr} {es : Array DictEntry} {n : Nat} {kvs : List (List Nat × NF.D)} (h : K.lookup a = some ⟨.type "dict", none, .dict es n, #[]⟩) (hl : PySem.W.KeysLit w.params es.toList) (ha : (a == sysModules) = false) (hb : rodB es.toList kvs = true) : RodAt K w a kvs := by
  obtain ⟨h1, h2⟩ := rod_find hb
  refine ⟨es, n, ⟨h, hl, ha⟩, fun k => ?_⟩
  have e : PySem.W.nsIn K a (strOf k) = match es.toList.find? (·.key.isStr (strOf k)) with
      | some e => some (some e.val)
      | none => if es.toList.any (·.refKey) then none else some none := by
    unfold PySem.W.nsIn
    rw [h]
    rfl
  have q := h1 k
  cases hg : kvGet kvs k with
  | none =>
    rw [hg] at q
    simp only at q ⊢
    rw [e, q]
    simp only [h2]
    rfl
  | some d =>
    rw [hg] at q
    simp only at q ⊢
    obtain ⟨i, u, rfl, hu, r⟩ := q
    refine ⟨i, u, rfl, ?_, r⟩
    rw [e]
    cases hf : es.toList.find? (·.key.isStr (strOf k)) with
    | none => rw [hf] at hu; cases hu
    | some en => rw [hf] at hu; cases hu; rfl
/-- a table by names -/
def find2 {α β : Type} [BEq α] (l : List (α × β)) (x : α) : Option β := (l.find? fun p => p.1 == x).map (·.2)
theorem find2_mem {α β : Type} [BEq α] [LawfulBEq α] {l : List (α × β)} {x : α} {y : β} (h : find2 l x = some y) : (x, y) ∈ l := by
  unfold find2 at h
  cases hf : l.find? fun p => p.1 == x with
  | none => rw [hf] at h; cases h
  | some p =>
    rw [hf] at h
    cases h
    have := List.find?_some hf
    have e : p.1 = x := eq_of_beq this
    rw [← e]
    exact List.mem_of_find?_eq_some hf
/-- the law's own promise by its tree -/
theorem law_fin {a0 : Addr} {kvs : List (List Nat × NF.D)} {n : Nat} {fi : FI} {fn : Fn} (T : TxtF g Δ C w K mg base) (hp : C.pre = [a0]) (hr : RodAt K C.w a0 kvs) (hd : Δ "law" = some fn) (D : DefOk g C K mg base fi fn) (h1 : fi.ps.length = 1)
    (plain : ∀ ns : List Int, ns.length ≤ 63 → ∃ S', callF Δ (n + 1) "law" [.ref 1] [.rod kvs, .rol (ns.map NF.D.int)] = .ok (.bl true) S') :
    FnOk P w K mg base (L2.CX P w) (7 * (n + 1)) fi.addr fi.fd fi.ps (spL C K) := by
  obtain ⟨x, qual, st, cdv, N, lam, F, S, hk, q1, q2, q3⟩ := D
  have F0 : FnOk P w K mg base (L2.CX P w) (7 * (n + 1)) fi.addr fi.fd fi.ps (spO C K fi.ps.length (callF Δ (n + 1) "law")) := by
    rw [call_at hd]
    exact fn_snd F S hk q1 q2 (glo_all (P := P) T n) T.ex q3
  refine (FnOk.frozen F0).imp fun vs H Q E h => ?_
  obtain ⟨a, ns, rfl, hs, hn, ht, q⟩ := h
  obtain ⟨S', hS⟩ := plain ns hn
  have go : ∀ H, RolAt K H a (ns.map V.int) → (∀ p ∈ C.tab, H p.1 = some (.tbl #[])) → spO C K fi.ps.length (callF Δ (n + 1) "law") [.ref a] H Q E := fun H hs ht => by
    refine ⟨by rw [h1]; rfl, [.ref 1], _, [a0, a], law_start hp hr hs ht, ⟨_, _, rfl, ⟨a, rfl, rfl⟩, rfl⟩, ?_⟩
    rw [hS]
    exact fun b H' ι' _ _ dv => q b H' dv
  rcases hs with (z | ⟨o, z⟩) | z
  · refine .inr ⟨a, _, z, fun o => go _ (.inl ⟨o, upd_same⟩) fun p hpp => ?_⟩
    rw [upd_ne (by rintro rfl; have := ht p hpp; rw [z] at this; cases this)]
    exact ht p hpp
  · exact .inl (go H (.inl ⟨o, z⟩) ht)
  · exact .inl (go H (.inr z) ht)
end
theorem cx_no {P : Program} (w : World) (H : Hp) (s : Shared) (e : Value) (s' : Shared) (z : L2.CX P w [] H s (fun _ _ _ => False) e s') : False := by
  obtain ⟨_, _, _, _, _, _, _, _, _, _, _, _, z⟩ := z
  exact z
end NF
end -- NfRow

section -- NfTr
set_option linter.all false
/-! The trees of the defs that several laws share, printed by gen.py. -/
namespace TR
open NF
def fn_is_name : Fn := ⟨1, 2, [.ret (.andv [(.chain .le .le (.int 1) (.bi .len [(.var 0)]) (.glb "MOST_NAME" (.int 4))), (.bi .all [(.lc (.cmp .inn (.var 1) (.glb "SMALL" (.str [97, 98, 99, 100, 101, 102, 103, 104, 105, 106, 107, 108, 109, 110, 111, 112, 113, 114, 115, 116, 117, 118, 119, 120, 121, 122]))) (.nm 1) .seq [(.var 0)] none [1])])])]⟩
def fn_is_worth : Fn := ⟨1, 1, [.ret (.chain .le .le (.int 0) (.var 0) (.glb "MOST_WORTH" (.int 99)))]⟩
def fn_is_key : Fn := ⟨1, 1, [.ret (.andv [(.cmp .eq (.bi .len [(.var 0)]) (.int 2)), (.chain .le .le (.int 1) (.idx (.var 0) (.int 0)) (.glb "MOST_STAMP" (.int 999))), (.chain .le .le (.int 1) (.idx (.var 0) (.int 1)) (.glb "MOST_HAND" (.int 5)))])]⟩
def fn_is_deed : Fn := ⟨1, 1, [.ife (.or [(.ex (.cmp .lt (.bi .len [(.var 0)]) (.int 4))), (.ex (.cmp .nin (.idx (.var 0) (.int 2)) (.glb "SIZES" (.ref 0)))), (.ex (.cmp .ne (.bi .len [(.var 0)]) (.dix (.glb "SIZES" (.ref 0)) (.idx (.var 0) (.int 2))))), (.not (.ex (.call "is_key" [(.slc (.var 0) none (some (.int 2)))])))]) [.ret (.bl false)] [], .ife (.ex (.cmp .eq (.idx (.var 0) (.int 2)) (.str [110, 101, 119]))) [.ret (.andv [(.call "is_name" [(.idx (.var 0) (.int 3))]), (.call "is_worth" [(.idx (.var 0) (.int 4))])])] [], .ife (.or [(.not (.ex (.call "is_key" [(.idx (.var 0) (.int 3))]))), (.ex (.cmp .ge (.idx (.var 0) (.int 3)) (.slc (.var 0) none (some (.int 2)))))]) [.ret (.bl false)] [], .ret (.orv [(.cmp .eq (.idx (.var 0) (.int 2)) (.str [100, 114, 111, 112])), (.ife (.ex (.cmp .eq (.idx (.var 0) (.int 2)) (.str [110, 97, 109, 101]))) (.call "is_name" [(.idx (.var 0) (.int 4))]) (.call "is_worth" [(.idx (.var 0) (.int 4))]))])]⟩
def fn_look_deeds : Fn := ⟨1, 2, [.ife (.not (.ex (.bi .all [(.lc (.call "is_deed" [(.var 1)]) (.nm 1) .seq [(.var 0)] none [1])]))) [.raise .badDeed] [], .ife (.ex (.cmp .lt (.lenset (.lc (.slc (.var 1) none (some (.int 2))) (.nm 1) .seq [(.var 0)] none [1])) (.lenset (.var 0)))) [.raise .badDeed] []]⟩
def fn_in_order : Fn := ⟨1, 4, [.asg 1 .dctT, .for_ (.nm 2) .seq [(.var 0)] [.dsub (.var 1) (.slc (.var 2) none (some (.int 2))) (.var 2)], .ret (.lc (.dix (.var 1) (.var 3)) (.nm 3) .seq [(.sortkeys (.var 1))] none [3])]⟩
def fn_Row_init : Fn := ⟨4, 4, [.sat .row 0 (.var 0) (.var 1), .sat .row 1 (.var 0) (.var 2), .sat .row 2 (.var 0) (.var 1), .sat .row 3 (.var 0) (.var 3), .sat .row 4 (.var 0) (.bl false)]⟩
def fn_all_rows : Fn := ⟨1, 5, [.asg 1 .dctT, .asg 2 (.call "in_order" [(.var 0)]), .for_ (.nm 3) .seq [(.var 2)] [.ife (.ex (.cmp .eq (.idx (.var 3) (.int 2)) (.str [110, 101, 119]))) [.dsub (.var 1) (.slc (.var 3) none (some (.int 2))) (.mk .row [(.slc (.var 3) none (some (.int 2))), (.idx (.var 3) (.int 3)), (.idx (.var 3) (.int 4))])] []], .for_ (.nm 3) .seq [(.var 2)] [.ife (.and [(.ex (.cmp .ne (.idx (.var 3) (.int 2)) (.str [110, 101, 119]))), (.ex (.cmp .inn (.idx (.var 3) (.int 3)) (.var 1)))]) [.asg 4 (.dix (.var 1) (.idx (.var 3) (.int 3))), .ife (.ex (.cmp .eq (.idx (.var 3) (.int 2)) (.str [110, 97, 109, 101]))) [.sat .row 2 (.var 4) (.ife (.ex (.cmp .eq (.att .row 1 (.var 4)) (.idx (.var 3) (.int 4)))) (.att .row 2 (.var 4)) (.slc (.var 3) none (some (.int 2)))), .sat .row 1 (.var 4) (.idx (.var 3) (.int 4))] [.ife (.ex (.cmp .eq (.idx (.var 3) (.int 2)) (.str [119, 111, 114, 116, 104]))) [.sat .row 3 (.var 4) (.idx (.var 3) (.int 4))] [.sat .row 4 (.var 4) (.bl true)]]] []], .ret (.var 1)]⟩
def fn_there : Fn := ⟨1, 3, [.asg 1 (.lc (.var 2) (.nm 2) .vals [(.call "all_rows" [(.var 0)])] (some (.not (.ex (.att .row 4 (.var 2))))) [2]), .ret (.sortk 0 (.var 1) (.tup [(.att .row 1 (.var 0)), (.att .row 2 (.var 0))]))]⟩
def fn_named : Fn := ⟨1, 5, [.asg 1 (.lst []), .asg 2 .non, .asg 3 (.int 0), .for_ (.nm 4) .seq [(.call "there" [(.var 0)])] [.asg 3 (.ife (.ex (.cmp .eq (.att .row 1 (.var 4)) (.var 2))) (.bin .add (.var 3) (.int 1)) (.int 1)), .asg 2 (.att .row 1 (.var 4)), .exp (.bm .append (.var 1) [(.tup [(.ife (.ex (.cmp .eq (.var 3) (.int 1))) (.att .row 1 (.var 4)) (.bin .add (.att .row 1 (.var 4)) (.bi .str [(.var 3)]))), (.var 4)])])], .ret (.var 1)]⟩
def fn_table : Fn := ⟨1, 3, [.exp (.call "look_deeds" [(.var 0)]), .ret (.bi .sorted [(.lc (.tup [(.var 1), (.att .row 0 (.var 2)), (.att .row 3 (.var 2))]) (.tup [1, 2]) .seq [(.call "named" [(.var 0)])] none [1, 2])])]⟩
def fn_fallen : Fn := ⟨1, 3, [.exp (.call "look_deeds" [(.var 0)]), .ret (.bi .sorted [(.lc (.att .row 0 (.var 2)) (.tup [1, 2]) .seq [(.call "named" [(.var 0)])] (some (.ex (.cmp .ne (.var 1) (.att .row 1 (.var 2))))) [1, 2])])]⟩
def fn_wanted : Fn := ⟨1, 4, [.exp (.call "look_deeds" [(.var 0)]), .asg 1 (.lc (.att .row 1 (.var 2)) (.nm 2) .seq [(.call "there" [(.var 0)])] none [2]), .ret (.lc (.tup [(.var 3), (.bm .count (.var 1) [(.var 3)])]) (.nm 3) .seq [(.sortset (.var 1))] (some (.ex (.cmp .gt (.bm .count (.var 1) [(.var 3)]) (.int 1)))) [3])]⟩
def fn_waiting : Fn := ⟨1, 3, [.exp (.call "look_deeds" [(.var 0)]), .asg 1 (.call "all_rows" [(.var 0)]), .ret (.lc (.var 2) (.nm 2) .seq [(.call "in_order" [(.var 0)])] (some (.and [(.ex (.cmp .ne (.idx (.var 2) (.int 2)) (.str [110, 101, 119]))), (.ex (.cmp .nin (.idx (.var 2) (.int 3)) (.var 1)))])) [2])]⟩
def fn_as_of : Fn := ⟨2, 3, [.exp (.call "look_deeds" [(.var 0)]), .ret (.call "table" [(.lc (.var 2) (.nm 2) .seq [(.var 0)] (some (.ex (.cmp .le (.idx (.var 2) (.int 0)) (.var 1)))) [2])])]⟩
def fn_names_of : Fn := ⟨2, 9, [.exp (.call "look_deeds" [(.var 0)]), .asg 2 (.lst []), .asg 3 (.call "in_order" [(.var 0)]), .asg 4 .non, .for_ (.nm 5) .rng1 [(.bi .len [(.var 3)])] [.asg 6 (.lc (.var 7) (.tup [7, 8]) .seq [(.call "named" [(.slc (.var 3) none (some (.bin .add (.var 5) (.int 1))))])] (some (.ex (.cmp .eq (.att .row 0 (.var 8)) (.var 1)))) [7, 8]), .asg 7 (.ife (.ex (.var 6)) (.idx (.var 6) (.int 0)) .non), .ife (.ex (.cmp .ne (.var 7) (.var 4))) [.exp (.bm .append (.var 2) [(.tup [(.slc (.idx (.var 3) (.var 5)) none (some (.int 2))), (.var 7)])])] [], .asg 4 (.var 7)], .ret (.var 2)]⟩
def fn_squeezed : Fn := ⟨1, 5, [.exp (.call "look_deeds" [(.var 0)]), .asg 1 .dctT, .asg 2 .dctT, .for_ (.nm 3) .seq [(.call "in_order" [(.var 0)])] [.ife (.ex (.cmp .eq (.idx (.var 3) (.int 2)) (.str [100, 114, 111, 112]))) [.dsub (.var 1) (.idx (.var 3) (.int 3)) (.bm .get (.var 1) [(.idx (.var 3) (.int 3)), (.var 3)])] [.ife (.ex (.cmp .eq (.idx (.var 3) (.int 2)) (.str [119, 111, 114, 116, 104]))) [.dsub (.var 2) (.idx (.var 3) (.int 3)) (.var 3)] []]], .asg 4 (.lst []), .for_ (.nm 3) .seq [(.call "in_order" [(.var 0)])] [.ife (.or [(.ex (.cmp .eq (.idx (.var 3) (.int 2)) (.str [110, 101, 119]))), (.and [(.ex (.cmp .eq (.idx (.var 3) (.int 2)) (.str [100, 114, 111, 112]))), (.ex (.cmp .eq (.dix (.var 1) (.idx (.var 3) (.int 3))) (.var 3)))])]) [.exp (.bm .append (.var 4) [(.var 3)])] [.ife (.and [(.ex (.cmp .nin (.idx (.var 3) (.int 3)) (.var 1))), (.or [(.ex (.cmp .eq (.idx (.var 3) (.int 2)) (.str [110, 97, 109, 101]))), (.ex (.cmp .eq (.dix (.var 2) (.idx (.var 3) (.int 3))) (.var 3)))])]) [.exp (.bm .append (.var 4) [(.var 3)])] []]], .ret (.var 4)]⟩
def fn_key_text : Fn := ⟨1, 1, [.ret (.bin .add (.bin .add (.bi .str [(.idx (.var 0) (.int 0))]) (.str [46])) (.bi .str [(.idx (.var 0) (.int 1))]))]⟩
def fn_written : Fn := ⟨1, 5, [.exp (.call "look_deeds" [(.var 0)]), .asg 1 (.lst []), .for_ (.nm 2) .seq [(.call "in_order" [(.var 0)])] [.asg 3 (.lst [(.call "key_text" [(.slc (.var 2) none (some (.int 2)))]), (.idx (.var 2) (.int 2))]), .ife (.ex (.cmp .eq (.idx (.var 2) (.int 2)) (.str [110, 101, 119]))) [.exp (.bm .extend (.var 3) [(.lst [(.idx (.var 2) (.int 3)), (.bi .str [(.idx (.var 2) (.int 4))])])])] [.exp (.bm .extend (.var 3) [(.bin .add (.lst [(.call "key_text" [(.idx (.var 2) (.int 3))])]) (.lc (.bi .str [(.var 4)]) (.nm 4) .seq [(.slc (.var 2) (some (.int 4)) none)] none [4]))])], .exp (.bm .append (.var 1) [(.bm .join (.str [32]) [(.var 3)])])], .ret (.bm .join (.str [10]) [(.var 1)])]⟩
def fn__law_cell : Fn := ⟨2, 2, [.ife (.ex (.var 0)) [.ret (.idx (.var 0) (.bin .md (.var 1) (.bi .len [(.var 0)])))] [], .ret (.int 0)]⟩
def fn__law_mix : Fn := ⟨2, 3, [.asg 2 (.bin .md (.bin .add (.call "_law_cell" [(.var 0), (.var 1)]) (.bin .mul (.int 104729) (.bin .add (.var 1) (.int 1)))) (.int 4294967291)), .asg 2 (.bin .md (.bin .pw (.var 2) (.int 5)) (.int 4294967279)), .ret (.bin .md (.bin .add (.bin .mul (.bin .fd (.var 2) (.int 64)) (.int 69621)) (.var 2)) (.int 4294967231))]⟩
def fn__law_draw : Fn := ⟨3, 3, [.exp (.bm .append (.var 1) [(.int 0)]), .ret (.bin .md (.bin .fd (.call "_law_mix" [(.var 0), (.bi .len [(.var 1)])]) (.int 8)) (.var 2))]⟩
def fn__law_pick : Fn := ⟨3, 3, [.ret (.idx (.var 2) (.call "_law_draw" [(.var 0), (.var 1), (.bi .len [(.var 2)])]))]⟩
def fn__law_refusal : Fn := ⟨1, 2, [.ife (.ex (.isn false (.var 0))) [.ret (.tup [(.str [111, 107])])] [], .asg 1 (.lst [(.isEx (.var 0) .badDeed), (.isEx (.var 0) .noRow), (.isEx (.var 0) .taken)]), .asg 1 (.bin .add (.var 1) (.lst [(.isEx (.var 0) .badName), (.isEx (.var 0) .badNumber), (.isEx (.var 0) .nothing)])), .exp (.bm .append (.var 1) [(.isEx (.var 0) .badText)]), .ife (.or [(.ex (.cmp .ne (.bm .count (.var 1) [(.bl true)]) (.int 1))), (.not (.ex (.isEx (.var 0) .fall)))]) [.ret (.tup [(.str [119, 114, 111, 110, 103])])] [], .ret (.tup [(.str [114, 101, 102, 117, 115, 101, 100]), (.idx (.lst [(.str [100, 101, 101, 100]), (.str [110, 111, 32, 114, 111, 119]), (.str [116, 97, 107, 101, 110]), (.str [110, 97, 109, 101]), (.str [110, 117, 109, 98, 101, 114]), (.str [110, 111, 116, 104, 105, 110, 103]), (.str [116, 101, 120, 116])]) (.bm .index (.var 1) [(.bl true)]))])]⟩
def fn__law_name : Fn := ⟨2, 4, [.ife (.ex (.cmp .gt (.call "_law_draw" [(.var 0), (.var 1), (.int 6)]) (.int 0))) [.ret (.call "_law_pick" [(.var 0), (.var 1), (.lst [(.str [97]), (.str [98]), (.str [97, 98]), (.str [122, 122, 122, 122])])])] [], .asg 2 (.str [97, 98, 99, 100, 101, 102, 103, 104, 105, 106, 107, 108, 109, 110, 111, 112, 113, 114, 115, 116, 117, 118, 119, 120, 121, 122]), .ret (.bm .join (.str []) [(.lc (.idx (.var 2) (.call "_law_draw" [(.var 0), (.var 1), (.int 26)])) (.nm 3) .rng1 [(.bin .add (.int 1) (.call "_law_draw" [(.var 0), (.var 1), (.int 4)]))] none [3])])]⟩
def fn__law_deed : Fn := ⟨4, 9, [.asg 4 (.tup [(.bin .add (.int 1) (.call "_law_draw" [(.var 0), (.var 1), (.var 3)])), (.bin .add (.int 1) (.call "_law_draw" [(.var 0), (.var 1), (.int 5)]))]), .asg 5 (.call "_law_pick" [(.var 0), (.var 1), (.lst [(.str [110, 101, 119]), (.str [110, 101, 119]), (.str [110, 97, 109, 101]), (.str [110, 97, 109, 101]), (.str [119, 111, 114, 116, 104]), (.str [100, 114, 111, 112])])]), .ife (.ex (.cmp .eq (.var 5) (.str [110, 101, 119]))) [.ret (.bin .add (.var 4) (.tup [(.str [110, 101, 119]), (.call "_law_name" [(.var 0), (.var 1)]), (.call "_law_draw" [(.var 0), (.var 1), (.int 100)])]))] [], .asg 6 (.lc (.var 8) (.nm 8) .seq [(.var 2)] (some (.ex (.cmp .lt (.var 8) (.var 4)))) [8]), .asg 7 (.ife (.ex (.cmp .ne (.var 6) (.lst []))) (.call "_law_pick" [(.var 0), (.var 1), (.var 6)]) (.tup [(.int 1), (.int 1)])), .ife (.ex (.cmp .ge (.var 7) (.var 4))) [.ret (.bin .add (.var 4) (.tup [(.str [110, 101, 119]), (.call "_law_name" [(.var 0), (.var 1)]), (.int 0)]))] [], .ife (.ex (.cmp .eq (.var 5) (.str [110, 97, 109, 101]))) [.ret (.bin .add (.var 4) (.tup [(.str [110, 97, 109, 101]), (.var 7), (.call "_law_name" [(.var 0), (.var 1)])]))] [], .ife (.ex (.cmp .eq (.var 5) (.str [119, 111, 114, 116, 104]))) [.ret (.bin .add (.var 4) (.tup [(.str [119, 111, 114, 116, 104]), (.var 7), (.call "_law_draw" [(.var 0), (.var 1), (.int 100)])]))] [], .ret (.bin .add (.var 4) (.tup [(.str [100, 114, 111, 112]), (.var 7)]))]⟩
def fn__law_deeds : Fn := ⟨4, 9, [.asg 4 .dctT, .asg 5 (.lst [(.tup [(.bin .add (.int 1) (.call "_law_draw" [(.var 0), (.var 1), (.var 3)])), (.bin .add (.int 1) (.call "_law_draw" [(.var 0), (.var 1), (.int 5)]))])]), .for_ (.nm 6) .rng1 [(.call "_law_draw" [(.var 0), (.var 1), (.bin .add (.var 2) (.int 1))])] [.asg 7 (.call "_law_deed" [(.var 0), (.var 1), (.var 5), (.var 3)]), .dsub (.var 4) (.slc (.var 7) none (some (.int 2))) (.var 7), .ife (.ex (.cmp .eq (.idx (.var 7) (.int 2)) (.str [110, 101, 119]))) [.exp (.bm .append (.var 5) [(.slc (.var 7) none (some (.int 2)))])] []], .ret (.lc (.dix (.var 4) (.var 8)) (.nm 8) .seq [(.listkeys (.var 4))] none [8])]⟩
def fn__law_told : Fn := ⟨2, 5, [.asg 2 .non, .asg 3 .non, .tryA [.asg 3 (.call "_law_one" [(.var 0), (.var 1)])] .fall 4 2, .ret (.ife (.ex (.isn false (.var 2))) (.tup [(.str [102, 111, 117, 110, 100]), (.var 3)]) (.call "_law_refusal" [(.var 2)]))]⟩
def fn__law_there : Fn := ⟨1, 8, [.asg 1 (.lst []), .for_ (.nm 2) .seq [(.var 0)] [.asg 3 (.bi .sorted [(.lc (.var 7) (.nm 7) .seq [(.var 0)] (some (.and [(.ex (.cmp .ne (.idx (.var 7) (.int 2)) (.str [110, 101, 119]))), (.ex (.cmp .eq (.idx (.var 7) (.int 3)) (.slc (.var 2) none (some (.int 2)))))])) [7])]), .ife (.or [(.ex (.cmp .ne (.idx (.var 2) (.int 2)) (.str [110, 101, 119]))), (.ex (.cmp .ne (.lc (.var 7) (.nm 7) .seq [(.var 3)] (some (.ex (.cmp .eq (.idx (.var 7) (.int 2)) (.str [100, 114, 111, 112])))) [7]) (.lst [])))]) [.cont] [], .asg 4 (.bin .add (.lst [(.tup [(.slc (.var 2) none (some (.int 2))), (.idx (.var 2) (.int 3))])]) (.lc (.tup [(.slc (.var 7) none (some (.int 2))), (.idx (.var 7) (.int 4))]) (.nm 7) .seq [(.var 3)] (some (.ex (.cmp .eq (.idx (.var 7) (.int 2)) (.str [110, 97, 109, 101])))) [7])), .asg 5 (.bin .sub (.bi .len [(.var 4)]) (.int 1)), .whl 1000 (.and [(.ex (.cmp .gt (.var 5) (.int 0))), (.ex (.cmp .eq (.idx (.idx (.var 4) (.bin .sub (.var 5) (.int 1))) (.int 1)) (.idx (.idx (.var 4) (.var 5)) (.int 1))))]) [.asg 5 (.bin .sub (.var 5) (.int 1))], .asg 6 (.bin .add (.lst [(.idx (.var 2) (.int 4))]) (.lc (.idx (.var 7) (.int 4)) (.nm 7) .seq [(.var 3)] (some (.ex (.cmp .eq (.idx (.var 7) (.int 2)) (.str [119, 111, 114, 116, 104])))) [7])), .exp (.bm .append (.var 1) [(.tup [(.idx (.idx (.var 4) (.var 5)) (.int 1)), (.idx (.idx (.var 4) (.var 5)) (.int 0)), (.slc (.var 2) none (some (.int 2))), (.idx (.var 6) (.neg 1))])])], .ret (.bi .sorted [(.var 1)])]⟩
def fn__law_shown : Fn := ⟨1, 8, [.asg 1 (.lst []), .for_ (.tup [2, 3, 4, 5]) .seq [(.call "_law_there" [(.var 0)])] [.asg 6 (.bi .len [(.lc (.var 7) (.nm 7) .seq [(.var 1)] (some (.ex (.cmp .eq (.idx (.var 7) (.int 1)) (.var 2)))) [7])]), .exp (.bm .append (.var 1) [(.tup [(.bin .add (.var 2) (.idx (.lst [(.str []), (.bi .str [(.bin .add (.var 6) (.int 1))])]) (.bi .int [(.cmp .gt (.var 6) (.int 0))]))), (.var 2), (.var 4), (.var 5)])])], .ret (.var 1)]⟩
def fn__law_table : Fn := ⟨1, 5, [.ret (.bi .sorted [(.lc (.tup [(.var 1), (.var 3), (.var 4)]) (.tup [1, 2, 3, 4]) .seq [(.call "_law_shown" [(.var 0)])] none [1, 2, 3, 4])])]⟩
def fn_unlike : Fn := ⟨2, 13, [.asg 2 .dctT, .for_ (.tup [6, 7]) .seq [(.var 0)] [.dsub (.var 2) (.att .row 0 (.var 7)) (.tup [(.var 6), (.att .row 1 (.var 7)), (.att .row 3 (.var 7))])], .asg 3 .dctT, .for_ (.tup [6, 7]) .seq [(.var 1)] [.dsub (.var 3) (.att .row 0 (.var 7)) (.tup [(.var 6), (.att .row 1 (.var 7)), (.att .row 3 (.var 7))])], .asg 4 (.lst []), .for_ (.nm 5) .seq [(.bi .sorted [(.bin .add (.listkeys (.var 2)) (.lc (.var 5) (.nm 5) .keys [(.var 3)] (some (.ex (.cmp .nin (.var 5) (.var 2)))) [5]))])] [.asg 8 (.bm .get (.var 2) [(.var 5), .non]), .asg 9 (.bm .get (.var 3) [(.var 5), .non]), .ife (.ex (.isn false (.var 8))) [.exp (.bm .append (.var 4) [(.tup [(.var 5), (.str [99, 97, 109, 101]), (.idx (.var 9) (.int 0))])])] [.ife (.ex (.isn false (.var 9))) [.exp (.bm .append (.var 4) [(.tup [(.var 5), (.str [119, 101, 110, 116]), (.idx (.var 8) (.int 0))])])] [.ife (.ex (.cmp .ne (.idx (.var 8) (.int 0)) (.idx (.var 9) (.int 0)))) [.asg 10 (.cmp .eq (.idx (.var 8) (.int 0)) (.idx (.var 8) (.int 1))), .asg 11 (.cmp .eq (.idx (.var 9) (.int 0)) (.idx (.var 9) (.int 1))), .asg 12 (.ife (.and [(.ex (.var 10)), (.not (.ex (.var 11)))]) (.str [102, 101, 108, 108]) (.ife (.and [(.ex (.var 11)), (.not (.ex (.var 10)))]) (.str [114, 111, 115, 101]) (.str [109, 111, 118, 101, 100]))), .exp (.bm .append (.var 4) [(.tup [(.var 5), (.var 12), (.idx (.var 9) (.int 0))])])] []]], .ife (.and [(.ex (.isn true (.var 8))), (.ex (.isn true (.var 9))), (.ex (.cmp .ne (.idx (.var 8) (.int 2)) (.idx (.var 9) (.int 2))))]) [.exp (.bm .append (.var 4) [(.tup [(.var 5), (.str [119, 111, 114, 116, 104]), (.idx (.var 9) (.int 2))])])] []], .ret (.var 4)]⟩
def fn_Copy_init : Fn := ⟨2, 2, [.ife (.not (.ex (.chain .le .le (.int 1) (.var 1) (.glb "MOST_HAND" (.int 5))))) [.raise .badNumber] [], .sat .copy 0 (.var 0) (.var 1), .sat .copy 1 (.var 0) (.lst []), .sat .copy 2 (.var 0) (.int 0), .sat .copy 3 (.var 0) (.lst [])]⟩
def fn_Copy_deeds : Fn := ⟨1, 1, [.ret (.call "in_order" [(.att .copy 1 (.var 0))])]⟩
def fn_Copy_table : Fn := ⟨1, 1, [.ret (.call "table_standing" [(.att .copy 1 (.var 0))])]⟩
def fn_Copy_take : Fn := ⟨2, 4, [.asg 2 (.call "named" [(.att .copy 1 (.var 0))]), .sat .copy 1 (.var 0) (.bin .add (.att .copy 1 (.var 0)) (.lc (.var 3) (.nm 3) .seq [(.var 1)] (some (.ex (.cmp .nin (.var 3) (.att .copy 1 (.var 0))))) [3])), .sat .copy 2 (.var 0) (.bi .max1 [(.bin .add (.lst [(.att .copy 2 (.var 0))]) (.lc (.idx (.var 3) (.int 0)) (.nm 3) .seq [(.var 1)] none [3]))]), .ret (.call "unlike" [(.var 2), (.call "named" [(.att .copy 1 (.var 0))])])]⟩
def fn_Copy_hear : Fn := ⟨2, 3, [.ife (.not (.ex (.call "is_deed" [(.var 1)]))) [.raise .badDeed] [], .ife (.ex (.bi .any [(.lc (.andv [(.cmp .eq (.slc (.var 2) none (some (.int 2))) (.slc (.var 1) none (some (.int 2)))), (.cmp .ne (.var 2) (.var 1))]) (.nm 2) .seq [(.att .copy 1 (.var 0))] none [2])])) [.raise .badDeed] [], .ret (.meth .copy "take" (.var 0) [(.lst [(.var 1)])])]⟩
def fn_Copy_make : Fn := ⟨4, 5, [.ife (.ex (.cmp .eq (.att .copy 2 (.var 0)) (.glb "MOST_STAMP" (.int 999)))) [.raise .badNumber] [], .asg 4 (.bin .add (.tup [(.bin .add (.att .copy 2 (.var 0)) (.int 1)), (.att .copy 0 (.var 0)), (.var 1)]) (.var 2)), .sat .copy 3 (.var 0) (.bin .add (.att .copy 3 (.var 0)) (.lst [(.tup [(.var 4), (.var 3)])])), .ret (.tup [(.var 4), (.meth .copy "take" (.var 0) [(.lst [(.var 4)])])])]⟩
def fn_Copy_row : Fn := ⟨2, 3, [.asg 2 (.call "all_rows" [(.att .copy 1 (.var 0))]), .ife (.or [(.ex (.cmp .nin (.var 1) (.var 2))), (.ex (.att .row 4 (.dix (.var 2) (.var 1))))]) [.raise .noRow] [], .ret (.dix (.var 2) (.var 1))]⟩
def fn_Copy_look_name : Fn := ⟨3, 5, [.ife (.not (.ex (.call "is_name" [(.var 1)]))) [.raise .badName] [], .ife (.ex (.bi .any [(.lc (.andv [(.cmp .ne (.att .row 0 (.var 4)) (.var 2)), (.cmp .eq (.var 3) (.var 1))]) (.tup [3, 4]) .seq [(.call "named" [(.att .copy 1 (.var 0))])] none [3, 4])])) [.raise .taken] []]⟩
def fn_Copy_new : Fn := ⟨3, 3, [.exp (.meth .copy "look_name" (.var 0) [(.var 1), .non]), .ife (.not (.ex (.call "is_worth" [(.var 2)]))) [.raise .badNumber] [], .ret (.meth .copy "make" (.var 0) [(.str [110, 101, 119]), (.tup [(.var 1), (.var 2)]), .non])]⟩
def fn_Copy_drop : Fn := ⟨2, 2, [.exp (.meth .copy "row" (.var 0) [(.var 1)]), .ret (.meth .copy "make" (.var 0) [(.str [100, 114, 111, 112]), (.tup [(.var 1)]), .non])]⟩
def fn_Copy_back : Fn := ⟨1, 6, [.asg 1 (.lc (.var 5) (.nm 5) .seq [(.att .copy 3 (.var 0))] (some (.ex (.isn true (.idx (.var 5) (.int 1))))) [5]), .ife (.not (.ex (.var 1))) [.raise .nothing] [], .unp [3, 4] (.idx (.var 1) (.neg 1)), .exp (.meth .copy "row" (.var 0) [(.idx (.var 3) (.int 3))]), .asg 2 (.meth .copy "make" (.var 0) [(.idx (.var 3) (.int 2)), (.tup [(.idx (.var 3) (.int 3)), (.var 4)]), .non]), .sat .copy 3 (.var 0) (.lc (.var 5) (.nm 5) .seq [(.att .copy 3 (.var 0))] (some (.ex (.cmp .ne (.idx (.var 5) (.int 0)) (.var 3)))) [5]), .ret (.var 2)]⟩
def fn__law_events : Fn := ⟨2, 13, [.asg 2 .dctT, .for_ (.tup [6, 7, 5, 8]) .seq [(.call "_law_shown" [(.var 0)])] [.dsub (.var 2) (.var 5) (.tup [(.var 6), (.var 7), (.var 8)])], .asg 3 .dctT, .for_ (.tup [6, 7, 5, 8]) .seq [(.call "_law_shown" [(.var 1)])] [.dsub (.var 3) (.var 5) (.tup [(.var 6), (.var 7), (.var 8)])], .asg 4 (.lst []), .for_ (.nm 5) .seq [(.sortset (.bin .add (.listkeys (.var 2)) (.listkeys (.var 3))))] [.ife (.ex (.cmp .nin (.var 5) (.var 2))) [.exp (.bm .append (.var 4) [(.tup [(.var 5), (.str [99, 97, 109, 101]), (.idx (.dix (.var 3) (.var 5)) (.int 0))])])] [.ife (.ex (.cmp .nin (.var 5) (.var 3))) [.exp (.bm .append (.var 4) [(.tup [(.var 5), (.str [119, 101, 110, 116]), (.idx (.dix (.var 2) (.var 5)) (.int 0))])])] [.par [9, 10] [(.dix (.var 2) (.var 5)), (.dix (.var 3) (.var 5))], .ife (.ex (.cmp .ne (.idx (.var 9) (.int 0)) (.idx (.var 10) (.int 0)))) [.asg 11 (.tup [(.cmp .eq (.idx (.var 9) (.int 0)) (.idx (.var 9) (.int 1))), (.cmp .eq (.idx (.var 10) (.int 0)) (.idx (.var 10) (.int 1)))]), .asg 12 (.ife (.ex (.cmp .eq (.idx (.var 11) (.int 0)) (.idx (.var 11) (.int 1)))) (.str [109, 111, 118, 101, 100]) (.idx (.lst [(.str [114, 111, 115, 101]), (.str [102, 101, 108, 108])]) (.bi .int [(.idx (.var 11) (.int 0))]))), .exp (.bm .append (.var 4) [(.tup [(.var 5), (.var 12), (.idx (.var 10) (.int 0))])])] [], .ife (.ex (.cmp .ne (.idx (.var 9) (.int 2)) (.idx (.var 10) (.int 2)))) [.exp (.bm .append (.var 4) [(.tup [(.var 5), (.str [119, 111, 114, 116, 104]), (.idx (.var 10) (.int 2))])])] []]]], .ret (.var 4)]⟩
def fn_Copy_lacking : Fn := ⟨2, 3, [.ret (.lc (.var 2) (.nm 2) .seq [(.meth .copy "deeds" (.var 1) [])] (some (.ex (.cmp .nin (.var 2) (.att .copy 1 (.var 0))))) [2])]⟩
def fn_Copy_meet : Fn := ⟨2, 6, [.asg 2 (.lc (.slc (.var 5) none (some (.int 2))) (.nm 5) .seq [(.att .copy 1 (.var 0))] none [5]), .asg 3 (.meth .copy "lacking" (.var 0) [(.var 1)]), .asg 4 (.meth .copy "lacking" (.var 1) [(.var 0)]), .ife (.ex (.bi .any [(.lc (.cmp .inn (.slc (.var 5) none (some (.int 2))) (.var 2)) (.nm 5) .seq [(.var 3)] none [5])])) [.raise .badDeed] [], .ret (.tup [(.meth .copy "take" (.var 0) [(.var 3)]), (.meth .copy "take" (.var 1) [(.var 4)])])]⟩
def fn_Copy_rename : Fn := ⟨3, 4, [.asg 3 (.att .row 1 (.meth .copy "row" (.var 0) [(.var 1)])), .exp (.meth .copy "look_name" (.var 0) [(.var 2), (.var 1)]), .ret (.meth .copy "make" (.var 0) [(.str [110, 97, 109, 101]), (.tup [(.var 1), (.var 2)]), (.var 3)])]⟩
def fn_Copy_set_worth : Fn := ⟨3, 4, [.asg 3 (.att .row 3 (.meth .copy "row" (.var 0) [(.var 1)])), .ife (.not (.ex (.call "is_worth" [(.var 2)]))) [.raise .badNumber] [], .ret (.meth .copy "make" (.var 0) [(.str [119, 111, 114, 116, 104]), (.tup [(.var 1), (.var 2)]), (.var 3)])]⟩
def fn_Copy_find : Fn := ⟨2, 5, [.ret (.lc (.var 3) (.tup [2, 3, 4]) .seq [(.meth .copy "table" (.var 0) [])] (some (.ex (.bm .startswith (.var 2) [(.var 1)]))) [2, 3, 4])]⟩
def fn_number_in : Fn := ⟨1, 2, [.ife (.or [(.not (.ex (.chain .le .le (.int 1) (.bi .len [(.var 0)]) (.int 3)))), (.not (.ex (.bi .all [(.lc (.cmp .inn (.var 1) (.glb "FIGURES" (.str [48, 49, 50, 51, 52, 53, 54, 55, 56, 57]))) (.nm 1) .seq [(.var 0)] none [1])]))), (.and [(.ex (.cmp .eq (.idx (.var 0) (.int 0)) (.str [48]))), (.ex (.cmp .ne (.var 0) (.str [48])))])]) [.raise .badText] [], .ret (.bi .int [(.var 0)])]⟩
def fn_key_in : Fn := ⟨1, 2, [.asg 1 (.bm .split (.var 0) [(.str [46])]), .ife (.ex (.cmp .ne (.bi .len [(.var 1)]) (.int 2))) [.raise .badText] [], .ret (.tup [(.call "number_in" [(.idx (.var 1) (.int 0))]), (.call "number_in" [(.idx (.var 1) (.int 1))])])]⟩
def fn_deed_in : Fn := ⟨1, 3, [.asg 1 (.bm .split (.var 0) [(.str [32])]), .ife (.ex (.cmp .lt (.bi .len [(.var 1)]) (.int 3))) [.raise .badText] [], .asg 2 (.bin .add (.call "key_in" [(.idx (.var 1) (.int 0))]) (.tup [(.idx (.var 1) (.int 1))])), .ife (.and [(.ex (.cmp .eq (.idx (.var 1) (.int 1)) (.str [110, 101, 119]))), (.ex (.cmp .eq (.bi .len [(.var 1)]) (.int 4)))]) [.ret (.bin .add (.var 2) (.tup [(.idx (.var 1) (.int 2)), (.call "number_in" [(.idx (.var 1) (.int 3))])]))] [], .ife (.and [(.ex (.cmp .eq (.idx (.var 1) (.int 1)) (.str [110, 97, 109, 101]))), (.ex (.cmp .eq (.bi .len [(.var 1)]) (.int 4)))]) [.ret (.bin .add (.var 2) (.tup [(.call "key_in" [(.idx (.var 1) (.int 2))]), (.idx (.var 1) (.int 3))]))] [], .ife (.and [(.ex (.cmp .eq (.idx (.var 1) (.int 1)) (.str [119, 111, 114, 116, 104]))), (.ex (.cmp .eq (.bi .len [(.var 1)]) (.int 4)))]) [.ret (.bin .add (.var 2) (.tup [(.call "key_in" [(.idx (.var 1) (.int 2))]), (.call "number_in" [(.idx (.var 1) (.int 3))])]))] [], .ife (.and [(.ex (.cmp .eq (.idx (.var 1) (.int 1)) (.str [100, 114, 111, 112]))), (.ex (.cmp .eq (.bi .len [(.var 1)]) (.int 3)))]) [.ret (.bin .add (.var 2) (.tup [(.call "key_in" [(.idx (.var 1) (.int 2))])]))] [], .raise .badText]⟩
def fn_read : Fn := ⟨1, 5, [.asg 1 (.ife (.ex (.cmp .ne (.var 0) (.str []))) (.lc (.call "deed_in" [(.var 3)]) (.nm 3) .seq [(.bm .split (.var 0) [(.str [10])])] none [3]) (.lst [])), .asg 2 (.bi .all [(.lc (.call "is_deed" [(.var 4)]) (.nm 4) .seq [(.var 1)] none [4])]), .tryF [.asg 2 (.andv [(.var 2), (.cmp .eq (.call "written" [(.var 1)]) (.var 0))])] .fall 2 (.bl false), .ife (.not (.ex (.var 2))) [.raise .badText] [], .ret (.var 1)]⟩
def fn_row_there : Fn := ⟨2, 4, [.asg 2 (.lc (.var 3) (.nm 3) .seq [(.call "there" [(.var 0)])] (some (.ex (.cmp .eq (.att .row 0 (.var 3)) (.var 1)))) [3]), .ife (.not (.ex (.var 2))) [.raise .noRow] [], .ret (.idx (.var 2) (.int 0))]⟩
def fn_why : Fn := ⟨2, 6, [.exp (.call "look_deeds" [(.var 0)]), .asg 2 (.call "row_there" [(.var 0), (.var 1)]), .asg 3 (.lst []), .asg 4 .non, .for_ (.nm 5) .seq [(.call "in_order" [(.var 0)])] [.ife (.or [(.and [(.ex (.cmp .eq (.idx (.var 5) (.int 2)) (.str [110, 101, 119]))), (.ex (.cmp .eq (.slc (.var 5) none (some (.int 2))) (.var 1)))]), (.and [(.ex (.cmp .eq (.idx (.var 5) (.int 2)) (.str [119, 111, 114, 116, 104]))), (.ex (.cmp .eq (.idx (.var 5) (.int 3)) (.var 1)))])]) [.exp (.bm .append (.var 3) [(.var 5)])] [], .ife (.ex (.cmp .eq (.slc (.var 5) none (some (.int 2))) (.att .row 2 (.var 2)))) [.asg 4 (.var 5)] []], .ret (.tup [(.var 4), (.idx (.var 3) (.neg 1)), (.slc (.call "wanting_of" [(.var 0), (.att .row 1 (.var 2))]) none (some (.bm .index (.call "wanting_of" [(.var 0), (.att .row 1 (.var 2))]) [(.var 1)])))])]⟩
def fn_wanting_of : Fn := ⟨2, 3, [.ret (.lc (.att .row 0 (.var 2)) (.nm 2) .seq [(.call "there" [(.var 0)])] (some (.ex (.cmp .eq (.att .row 1 (.var 2)) (.var 1)))) [2])]⟩
def fn_wanting : Fn := ⟨2, 2, [.exp (.call "look_deeds" [(.var 0)]), .ret (.call "wanting_of" [(.var 0), (.var 1)])]⟩
def fn_faces : Fn := ⟨1, 3, [.ret (.bi .dict [(.lc (.tup [(.att .row 0 (.var 2)), (.tup [(.var 1), (.att .row 3 (.var 2))])]) (.tup [1, 2]) .seq [(.call "named" [(.var 0)])] none [1, 2])])]⟩
def fn_apart : Fn := ⟨2, 6, [.exp (.call "look_deeds" [(.var 0)]), .exp (.call "look_deeds" [(.var 1)]), .par [4, 5] [(.call "faces" [(.var 0)]), (.call "faces" [(.var 1)])], .asg 2 (.lst []), .for_ (.nm 3) .seq [(.sortset (.bin .add (.listkeys (.var 4)) (.listkeys (.var 5))))] [.ife (.ex (.cmp .ne (.bm .get (.var 4) [(.var 3), .non]) (.bm .get (.var 5) [(.var 3), .non]))) [.exp (.bm .append (.var 2) [(.tup [(.var 3), (.bm .get (.var 4) [(.var 3), .non]), (.bm .get (.var 5) [(.var 3), .non])])])] []], .ret (.var 2)]⟩
def fn_silent : Fn := ⟨1, 5, [.exp (.call "look_deeds" [(.var 0)]), .asg 1 (.call "in_order" [(.var 0)]), .asg 2 (.call "faces" [(.var 1)]), .ret (.lc (.var 3) (.nm 3) .seq [(.var 1)] (some (.ex (.cmp .eq (.call "faces" [(.lc (.var 4) (.nm 4) .seq [(.var 1)] (some (.ex (.cmp .ne (.var 4) (.var 3)))) [4])]) (.var 2)))) [3])]⟩
def fn_Town_init : Fn := ⟨2, 6, [.asg 2 (.bi .len [(.var 1)]), .ife (.or [(.not (.ex (.chain .le .le (.int 2) (.var 2) (.glb "MOST_HAND" (.int 5))))), (.not (.ex (.bi .all [(.lc (.cmp .eq (.bi .len [(.var 3)]) (.var 2)) (.nm 3) .seq [(.var 1)] none [3])])))]) [.raise .badNumber] [], .ife (.not (.ex (.bi .all [(.lc (.bi .all [(.lc (.chain .le .le (.int 1) (.var 5) (.glb "MOST_DELAY" (.int 9))) (.nm 5) .seq [(.var 3)] none [5])]) (.nm 3) .seq [(.var 1)] none [3])]))) [.raise .badNumber] [], .sat .town 0 (.var 0) (.lc (.bi .list [(.var 3)]) (.nm 3) .seq [(.var 1)] none [3]), .sat .town 1 (.var 0) (.lc (.mk .copy [(.bin .add (.var 4) (.int 1))]) (.nm 4) .rng1 [(.var 2)] none [4]), .sat .town 2 (.var 0) (.lst []), .sat .town 3 (.var 0) (.lst []), .sat .town 4 (.var 0) (.int 0)]⟩
def fn_Town_copy_of : Fn := ⟨2, 2, [.ife (.not (.ex (.chain .le .le (.int 1) (.var 1) (.bi .len [(.att .town 1 (.var 0))])))) [.raise .badNumber] [], .ret (.idx (.att .town 1 (.var 0)) (.bin .sub (.var 1) (.int 1)))]⟩
def fn_Town_sent : Fn := ⟨3, 4, [.for_ (.nm 3) .rng2 [(.int 1), (.bin .add (.bi .len [(.att .town 1 (.var 0))]) (.int 1))] [.ife (.ex (.cmp .ne (.var 3) (.var 1))) [.exp (.bm .append (.att .town 3 (.var 0)) [(.tup [(.bin .add (.att .town 4 (.var 0)) (.idx (.idx (.att .town 0 (.var 0)) (.bin .sub (.var 1) (.int 1))) (.bin .sub (.var 3) (.int 1)))), (.var 3), (.idx (.var 2) (.int 0))])])] []], .ret (.var 2)]⟩
def fn_Town_new : Fn := ⟨4, 4, [.ret (.meth .town "sent" (.var 0) [(.var 1), (.meth .copy "new" (.meth .town "copy_of" (.var 0) [(.var 1)]) [(.var 2), (.var 3)])])]⟩
def fn_Town_drop : Fn := ⟨3, 3, [.ret (.meth .town "sent" (.var 0) [(.var 1), (.meth .copy "drop" (.meth .town "copy_of" (.var 0) [(.var 1)]) [(.var 2)])])]⟩
def fn_Town_back : Fn := ⟨2, 2, [.ret (.meth .town "sent" (.var 0) [(.var 1), (.meth .copy "back" (.meth .town "copy_of" (.var 0) [(.var 1)]) [])])]⟩
def fn_Town_pair : Fn := ⟨3, 3, [.exp (.meth .town "copy_of" (.var 0) [(.var 1)]), .exp (.meth .town "copy_of" (.var 0) [(.var 2)]), .ife (.ex (.cmp .eq (.var 1) (.var 2))) [.raise .badNumber] [], .ret (.tup [(.bi .min2 [(.var 1), (.var 2)]), (.bi .max2 [(.var 1), (.var 2)])])]⟩
def fn_Town_cut : Fn := ⟨3, 4, [.asg 3 (.meth .town "pair" (.var 0) [(.var 1), (.var 2)]), .ife (.ex (.cmp .nin (.var 3) (.att .town 2 (.var 0)))) [.exp (.bm .append (.att .town 2 (.var 0)) [(.var 3)])] []]⟩
def fn_Town_mend : Fn := ⟨3, 5, [.asg 3 (.meth .town "pair" (.var 0) [(.var 1), (.var 2)]), .sat .town 2 (.var 0) (.lc (.var 4) (.nm 4) .seq [(.att .town 2 (.var 0))] (some (.ex (.cmp .ne (.var 4) (.var 3)))) [4])]⟩
def fn_Town_clock : Fn := ⟨1, 1, [.ret (.att .town 4 (.var 0))]⟩
def fn_Town_table : Fn := ⟨2, 2, [.ret (.meth .copy "table" (.meth .town "copy_of" (.var 0) [(.var 1)]) [])]⟩
def fn_Town_under_way : Fn := ⟨1, 1, [.ret (.sortf "arrival" (.att .town 3 (.var 0)))]⟩
def fn_Town_alike : Fn := ⟨1, 5, [.asg 1 (.lst []), .for_ (.nm 2) .rng2 [(.int 1), (.bin .add (.bi .len [(.att .town 1 (.var 0))]) (.int 1))] [.asg 3 (.lc (.var 4) (.nm 4) .seq [(.var 1)] (some (.ex (.cmp .eq (.meth .town "table" (.var 0) [(.idx (.var 4) (.int 0))]) (.meth .town "table" (.var 0) [(.var 2)])))) [4]), .ife (.ex (.var 3)) [.exp (.bm .append (.idx (.var 3) (.int 0)) [(.var 2)])] [.exp (.bm .append (.var 1) [(.lst [(.var 2)])])]], .ret (.var 1)]⟩
def fn_arrival : Fn := ⟨1, 1, [.ret (.tup [(.idx (.var 0) (.int 1)), (.slc (.idx (.var 0) (.int 2)) none (some (.int 2)))])]⟩
def fn__law_delays : Fn := ⟨2, 6, [.asg 2 (.bin .add (.int 2) (.call "_law_draw" [(.var 0), (.var 1), (.int 4)])), .asg 3 (.call "_law_pick" [(.var 0), (.var 1), (.lst [(.int 1), (.int 3), (.int 9)])]), .ret (.lc (.lc (.bin .add (.int 1) (.call "_law_draw" [(.var 0), (.var 1), (.var 3)])) (.nm 5) .rng1 [(.var 2)] none [5]) (.nm 4) .rng1 [(.var 2)] none [4])]⟩
def fn__law_copy : Fn := ⟨1, 3, [.ife (.ex (.isTy (.var 0) .list)) [.ret (.lc (.call "_law_copy" [(.var 1)]) (.nm 1) .seq [(.var 0)] none [1])] [], .ife (.ex (.isTy (.var 0) .tuple)) [.ret (.bi .tuple [(.lc (.call "_law_copy" [(.var 1)]) (.nm 1) .seq [(.var 0)] none [1])])] [], .ife (.ex (.isTy (.var 0) .dict)) [.ret (.bi .dict [(.lc (.tup [(.var 2), (.call "_law_copy" [(.idx (.var 0) (.var 2))])]) (.nm 2) .seq [(.listkeys (.var 0))] none [2])])] [], .ret (.var 0)]⟩
def fn__law_spoil : Fn := ⟨1, 3, [.ife (.or [(.ex (.isTy (.var 0) .list)), (.ex (.isTy (.var 0) .tuple))]) [.for_ (.nm 1) .seq [(.bi .list [(.var 0)])] [.exp (.call "_law_spoil" [(.var 1)])]] [], .ife (.ex (.isTy (.var 0) .list)) [.exp (.bm .append (.var 0) [(.str [108, 97, 116, 101])])] [], .ife (.ex (.isTy (.var 0) .dict)) [.for_ (.nm 2) .seq [(.listkeys (.var 0))] [.exp (.call "_law_spoil" [(.idx (.var 0) (.var 2))])], .ssub (.var 0) (.str [108, 97, 116, 101]) (.int 1)] []]⟩
end TR
end -- NfTr

section -- T12
set_option linter.all false
/-! The law k12: its own trees, the tables by names; printed by gen.py. -/
namespace K12
open NF
def fn_law : Fn := ⟨1, 15, [.asg 1 (.lst []), .asg 2 (.call "_law_pick" [(.var 0), (.var 1), (.lst [(.int 9), (.int 25)])]), .asg 3 (.call "_law_deeds" [(.var 0), (.var 1), (.int 24), (.var 2)]), .asg 4 .dctT, .asg 5 (.lc (.slc (.var 9) none (some (.int 2))) (.nm 9) .seq [(.var 3)] none [9]), .asg 6 (.bin .add (.lst [(.tup [(.int 1), (.int 1)])]) (.lc (.slc (.var 9) none (some (.int 2))) (.nm 9) .seq [(.var 3)] (some (.ex (.cmp .eq (.idx (.var 9) (.int 2)) (.str [110, 101, 119])))) [9])), .for_ (.nm 7) .rng1 [(.call "_law_draw" [(.var 0), (.var 1), (.int 9)])] [.asg 9 (.call "_law_deed" [(.var 0), (.var 1), (.var 6), (.var 2)]), .ife (.ex (.cmp .nin (.slc (.var 9) none (some (.int 2))) (.var 5))) [.dsub (.var 4) (.slc (.var 9) none (some (.int 2))) (.var 9)] []], .asg 4 (.lc (.dix (.var 4) (.var 12)) (.nm 12) .seq [(.listkeys (.var 4))] none [12]), .asg 8 .dctT, .for_ (.nm 9) .seq [(.rev (.bi .sorted [(.var 3)]))] [.ife (.ex (.cmp .eq (.idx (.var 9) (.int 2)) (.str [100, 114, 111, 112]))) [.dsub (.var 8) (.idx (.var 9) (.int 3)) (.var 9)] []], .asg 10 (.lst []), .for_ (.nm 9) .seq [(.bi .sorted [(.var 3)])] [.ife (.ex (.cmp .eq (.idx (.var 9) (.int 2)) (.str [110, 101, 119]))) [.exp (.bm .append (.var 10) [(.var 9)])] [.ife (.ex (.cmp .inn (.idx (.var 9) (.int 3)) (.var 8))) [.asg 10 (.bin .add (.var 10) (.bin .mul (.lst [(.var 9)]) (.bi .int [(.cmp .eq (.dix (.var 8) (.idx (.var 9) (.int 3))) (.var 9))])))] [.asg 13 (.lc (.var 14) (.nm 14) .seq [(.var 3)] (some (.and [(.ex (.cmp .eq (.idx (.var 14) (.int 2)) (.str [119, 111, 114, 116, 104]))), (.ex (.cmp .eq (.idx (.var 14) (.int 3)) (.idx (.var 9) (.int 3)))), (.ex (.cmp .gt (.var 14) (.var 9)))])) [14]), .asg 10 (.bin .add (.var 10) (.bin .mul (.lst [(.var 9)]) (.bi .int [(.orv [(.cmp .eq (.idx (.var 9) (.int 2)) (.str [110, 97, 109, 101])), (.cmp .eq (.var 13) (.lst []))])])))]]], .asg 11 (.call "squeezed" [(.var 3)]), .ife (.or [(.ex (.cmp .ne (.var 11) (.var 10))), (.ex (.cmp .ne (.call "squeezed" [(.rev (.var 3))]) (.var 10))), (.ex (.cmp .ne (.call "squeezed" [(.var 11)]) (.var 10)))]) [.ret (.bl false)] [], .ife (.or [(.ex (.cmp .ne (.call "table" [(.bin .add (.var 11) (.var 4))]) (.call "_law_table" [(.bin .add (.var 3) (.var 4))]))), (.ex (.cmp .ne (.call "fallen" [(.bin .add (.var 11) (.var 4))]) (.call "fallen" [(.bin .add (.var 3) (.var 4))])))]) [.ret (.bl false)] [], .ret (.cmp .eq (.call "squeezed" [(.bin .add (.var 11) (.var 4))]) (.call "squeezed" [(.bin .add (.var 3) (.var 4))]))]⟩
def tab : List (String × Fn) := [("is_name", TR.fn_is_name), ("is_worth", TR.fn_is_worth), ("is_key", TR.fn_is_key), ("is_deed", TR.fn_is_deed), ("look_deeds", TR.fn_look_deeds), ("in_order", TR.fn_in_order), ("Row.__init__", TR.fn_Row_init), ("all_rows", TR.fn_all_rows), ("there", TR.fn_there), ("named", TR.fn_named), ("table", TR.fn_table), ("fallen", TR.fn_fallen), ("squeezed", TR.fn_squeezed), ("_law_cell", TR.fn__law_cell), ("_law_mix", TR.fn__law_mix), ("_law_draw", TR.fn__law_draw), ("_law_pick", TR.fn__law_pick), ("_law_name", TR.fn__law_name), ("_law_deed", TR.fn__law_deed), ("_law_deeds", TR.fn__law_deeds), ("_law_there", TR.fn__law_there), ("_law_shown", TR.fn__law_shown), ("_law_table", TR.fn__law_table), ("law", fn_law)]
def Δ : String → Option Fn := fun f => find2 tab f
def fnTab : List (String × Nat) := [("is_name", 1), ("is_worth", 1), ("is_key", 1), ("is_deed", 1), ("look_deeds", 1), ("in_order", 1), ("all_rows", 1), ("there", 1), ("named", 1), ("table", 1), ("fallen", 1), ("squeezed", 1), ("_law_cell", 2), ("_law_mix", 2), ("_law_draw", 3), ("_law_pick", 3), ("_law_name", 2), ("_law_deed", 4), ("_law_deeds", 4), ("_law_there", 1), ("_law_shown", 1), ("_law_table", 1), ("law", 1)]
def methTab : List ((Cl × String) × Nat) := []
def mkTab : List (Cl × Nat) := [(.row, 4)]
def exTab : List Ex := [.badDeed]
def conTab : List (String × NF.D) := [("SMALL", .str [97, 98, 99, 100, 101, 102, 103, 104, 105, 106, 107, 108, 109, 110, 111, 112, 113, 114, 115, 116, 117, 118, 119, 120, 121, 122]), ("MOST_NAME", .int 4), ("MOST_WORTH", .int 99), ("MOST_STAMP", .int 999), ("MOST_HAND", .int 5), ("SIZES", .ref 0)]
def gi : Gi := ⟨fun f => find2 fnTab f, fun c m => find2 methTab (c, m), fun c => find2 mkTab c, fun e => exTab.contains e, fun x d => conTab.contains (x, d)⟩
def rod : List (List Nat × NF.D) := [([110, 101, 119], .int 5), ([110, 97, 109, 101], .int 5), ([119, 111, 114, 116, 104], .int 5), ([100, 114, 111, 112], .int 4)]
end K12
end -- T12

section -- E12
set_option linter.all false
set_option autoImplicit false
set_option maxRecDepth 100000
set_option maxHeartbeats 4000000
/-! The row's end of law k12; printed by gen.py. -/
namespace K12
open PySem PySem.Spec PyProof.Rows L2 NF
def topS (i : Nat) : Stmt := PySem.Challenge.pw_namefall_k12_whole_squeezed.main.body.getD i (.Pass ⟨0, 0, 0, 0⟩)
abbrev s_is_name : Stmt := topS 10
abbrev s_is_worth : Stmt := topS 11
abbrev s_is_key : Stmt := topS 12
abbrev s_is_deed : Stmt := topS 13
abbrev s_look_deeds : Stmt := topS 14
abbrev s_in_order : Stmt := topS 15
abbrev s_Row_init : Stmt := inClass (topS 17) 0
abbrev s_all_rows : Stmt := topS 18
abbrev s_there : Stmt := topS 19
abbrev s_named : Stmt := topS 20
abbrev s_table : Stmt := topS 21
abbrev s_fallen : Stmt := topS 22
abbrev s_squeezed : Stmt := topS 23
abbrev s__law_cell : Stmt := topS 25
abbrev s__law_mix : Stmt := topS 26
abbrev s__law_draw : Stmt := topS 27
abbrev s__law_pick : Stmt := topS 28
abbrev s__law_name : Stmt := topS 29
abbrev s__law_deed : Stmt := topS 30
abbrev s__law_deeds : Stmt := topS 31
abbrev s__law_there : Stmt := topS 32
abbrev s__law_shown : Stmt := topS 33
abbrev s__law_table : Stmt := topS 34
abbrev s_law : Stmt := topS 35
theorem sc_is_name : fnScB ([NF.str "name", NF.str "sign"] : List PySem.Str) ([NF.str "name"] : List PySem.Str) (defScope s_is_name) = true := by decide +kernel
theorem ck_is_name : chkSs gi ⟨([NF.str "name", NF.str "sign"] : List PySem.Str), defScope s_is_name, true, false⟩ (TR.fn_is_name).body (defBody s_is_name) = true := by decide +kernel
theorem sc_is_worth : fnScB ([NF.str "worth"] : List PySem.Str) ([NF.str "worth"] : List PySem.Str) (defScope s_is_worth) = true := by decide +kernel
theorem ck_is_worth : chkSs gi ⟨([NF.str "worth"] : List PySem.Str), defScope s_is_worth, true, false⟩ (TR.fn_is_worth).body (defBody s_is_worth) = true := by decide +kernel
theorem sc_is_key : fnScB ([NF.str "key"] : List PySem.Str) ([NF.str "key"] : List PySem.Str) (defScope s_is_key) = true := by decide +kernel
theorem ck_is_key : chkSs gi ⟨([NF.str "key"] : List PySem.Str), defScope s_is_key, true, false⟩ (TR.fn_is_key).body (defBody s_is_key) = true := by decide +kernel
theorem sc_is_deed : fnScB ([NF.str "deed"] : List PySem.Str) ([NF.str "deed"] : List PySem.Str) (defScope s_is_deed) = true := by decide +kernel
theorem ck_is_deed : chkSs gi ⟨([NF.str "deed"] : List PySem.Str), defScope s_is_deed, true, false⟩ (TR.fn_is_deed).body (defBody s_is_deed) = true := by decide +kernel
theorem sc_look_deeds : fnScB ([NF.str "deeds", NF.str "deed"] : List PySem.Str) ([NF.str "deeds"] : List PySem.Str) (defScope s_look_deeds) = true := by decide +kernel
theorem ck_look_deeds : chkSs gi ⟨([NF.str "deeds", NF.str "deed"] : List PySem.Str), defScope s_look_deeds, true, false⟩ (TR.fn_look_deeds).body (defBody s_look_deeds) = true := by decide +kernel
theorem sc_in_order : fnScB ([NF.str "deeds", NF.str "found", NF.str "deed", NF.str "key"] : List PySem.Str) ([NF.str "deeds"] : List PySem.Str) (defScope s_in_order) = true := by decide +kernel
theorem ck_in_order : chkSs gi ⟨([NF.str "deeds", NF.str "found", NF.str "deed", NF.str "key"] : List PySem.Str), defScope s_in_order, true, false⟩ (TR.fn_in_order).body (defBody s_in_order) = true := by decide +kernel
theorem sc_Row_init : fnScB ([NF.str "self", NF.str "key", NF.str "name", NF.str "worth"] : List PySem.Str) ([NF.str "self", NF.str "key", NF.str "name", NF.str "worth"] : List PySem.Str) (defScope s_Row_init) = true := by decide +kernel
theorem ck_Row_init : chkSs gi ⟨([NF.str "self", NF.str "key", NF.str "name", NF.str "worth"] : List PySem.Str), defScope s_Row_init, true, false⟩ (TR.fn_Row_init).body (defBody s_Row_init) = true := by decide +kernel
theorem sc_all_rows : fnScB ([NF.str "deeds", NF.str "found", NF.str "row", NF.str "deed", NF.str "one"] : List PySem.Str) ([NF.str "deeds"] : List PySem.Str) (defScope s_all_rows) = true := by decide +kernel
theorem ck_all_rows : chkSs gi ⟨([NF.str "deeds", NF.str "found", NF.str "row", NF.str "deed", NF.str "one"] : List PySem.Str), defScope s_all_rows, true, false⟩ (TR.fn_all_rows).body (defBody s_all_rows) = true := by decide +kernel
theorem sc_there : fnScB ([NF.str "deeds", NF.str "some", NF.str "one"] : List PySem.Str) ([NF.str "deeds"] : List PySem.Str) (defScope s_there) = true := by decide +kernel
theorem ck_there : chkSs gi ⟨([NF.str "deeds", NF.str "some", NF.str "one"] : List PySem.Str), defScope s_there, true, true⟩ (TR.fn_there).body (defBody s_there) = true := by decide +kernel
theorem sc_named : fnScB ([NF.str "deeds", NF.str "found", NF.str "last", NF.str "count", NF.str "one"] : List PySem.Str) ([NF.str "deeds"] : List PySem.Str) (defScope s_named) = true := by decide +kernel
theorem ck_named : chkSs gi ⟨([NF.str "deeds", NF.str "found", NF.str "last", NF.str "count", NF.str "one"] : List PySem.Str), defScope s_named, true, false⟩ (TR.fn_named).body (defBody s_named) = true := by decide +kernel
theorem sc_table : fnScB ([NF.str "deeds", NF.str "name", NF.str "one"] : List PySem.Str) ([NF.str "deeds"] : List PySem.Str) (defScope s_table) = true := by decide +kernel
theorem ck_table : chkSs gi ⟨([NF.str "deeds", NF.str "name", NF.str "one"] : List PySem.Str), defScope s_table, true, false⟩ (TR.fn_table).body (defBody s_table) = true := by decide +kernel
theorem sc_fallen : fnScB ([NF.str "deeds", NF.str "name", NF.str "one"] : List PySem.Str) ([NF.str "deeds"] : List PySem.Str) (defScope s_fallen) = true := by decide +kernel
theorem ck_fallen : chkSs gi ⟨([NF.str "deeds", NF.str "name", NF.str "one"] : List PySem.Str), defScope s_fallen, true, false⟩ (TR.fn_fallen).body (defBody s_fallen) = true := by decide +kernel
theorem sc_squeezed : fnScB ([NF.str "deeds", NF.str "drops", NF.str "last", NF.str "deed", NF.str "found"] : List PySem.Str) ([NF.str "deeds"] : List PySem.Str) (defScope s_squeezed) = true := by decide +kernel
theorem ck_squeezed : chkSs gi ⟨([NF.str "deeds", NF.str "drops", NF.str "last", NF.str "deed", NF.str "found"] : List PySem.Str), defScope s_squeezed, true, false⟩ (TR.fn_squeezed).body (defBody s_squeezed) = true := by decide +kernel
theorem sc__law_cell : fnScB ([NF.str "_law_script", NF.str "_law_k"] : List PySem.Str) ([NF.str "_law_script", NF.str "_law_k"] : List PySem.Str) (defScope s__law_cell) = true := by decide +kernel
theorem ck__law_cell : chkSs gi ⟨([NF.str "_law_script", NF.str "_law_k"] : List PySem.Str), defScope s__law_cell, true, false⟩ (TR.fn__law_cell).body (defBody s__law_cell) = true := by decide +kernel
theorem sc__law_mix : fnScB ([NF.str "_law_script", NF.str "_law_k", NF.str "_law_number"] : List PySem.Str) ([NF.str "_law_script", NF.str "_law_k"] : List PySem.Str) (defScope s__law_mix) = true := by decide +kernel
theorem ck__law_mix : chkSs gi ⟨([NF.str "_law_script", NF.str "_law_k", NF.str "_law_number"] : List PySem.Str), defScope s__law_mix, true, false⟩ (TR.fn__law_mix).body (defBody s__law_mix) = true := by decide +kernel
theorem sc__law_draw : fnScB ([NF.str "_law_script", NF.str "_law_town", NF.str "_law_many"] : List PySem.Str) ([NF.str "_law_script", NF.str "_law_town", NF.str "_law_many"] : List PySem.Str) (defScope s__law_draw) = true := by decide +kernel
theorem ck__law_draw : chkSs gi ⟨([NF.str "_law_script", NF.str "_law_town", NF.str "_law_many"] : List PySem.Str), defScope s__law_draw, true, false⟩ (TR.fn__law_draw).body (defBody s__law_draw) = true := by decide +kernel
theorem sc__law_pick : fnScB ([NF.str "_law_script", NF.str "_law_town", NF.str "_law_some"] : List PySem.Str) ([NF.str "_law_script", NF.str "_law_town", NF.str "_law_some"] : List PySem.Str) (defScope s__law_pick) = true := by decide +kernel
theorem ck__law_pick : chkSs gi ⟨([NF.str "_law_script", NF.str "_law_town", NF.str "_law_some"] : List PySem.Str), defScope s__law_pick, true, false⟩ (TR.fn__law_pick).body (defBody s__law_pick) = true := by decide +kernel
theorem sc__law_name : fnScB ([NF.str "_law_script", NF.str "_law_town", NF.str "_law_letters", NF.str "_law_k"] : List PySem.Str) ([NF.str "_law_script", NF.str "_law_town"] : List PySem.Str) (defScope s__law_name) = true := by decide +kernel
theorem ck__law_name : chkSs gi ⟨([NF.str "_law_script", NF.str "_law_town", NF.str "_law_letters", NF.str "_law_k"] : List PySem.Str), defScope s__law_name, true, false⟩ (TR.fn__law_name).body (defBody s__law_name) = true := by decide +kernel
theorem sc__law_deed : fnScB ([NF.str "_law_script", NF.str "_law_town", NF.str "_law_rows", NF.str "_law_most", NF.str "_law_key", NF.str "_law_word", NF.str "_law_some", NF.str "_law_at", NF.str "_law_one"] : List PySem.Str) ([NF.str "_law_script", NF.str "_law_town", NF.str "_law_rows", NF.str "_law_most"] : List PySem.Str) (defScope s__law_deed) = true := by decide +kernel
theorem ck__law_deed : chkSs gi ⟨([NF.str "_law_script", NF.str "_law_town", NF.str "_law_rows", NF.str "_law_most", NF.str "_law_key", NF.str "_law_word", NF.str "_law_some", NF.str "_law_at", NF.str "_law_one"] : List PySem.Str), defScope s__law_deed, true, false⟩ (TR.fn__law_deed).body (defBody s__law_deed) = true := by decide +kernel
theorem sc__law_deeds : fnScB ([NF.str "_law_script", NF.str "_law_town", NF.str "_law_count", NF.str "_law_most", NF.str "_law_found", NF.str "_law_rows", NF.str "_law_k", NF.str "_law_deed_here", NF.str "_law_key"] : List PySem.Str) ([NF.str "_law_script", NF.str "_law_town", NF.str "_law_count", NF.str "_law_most"] : List PySem.Str) (defScope s__law_deeds) = true := by decide +kernel
theorem ck__law_deeds : chkSs gi ⟨([NF.str "_law_script", NF.str "_law_town", NF.str "_law_count", NF.str "_law_most", NF.str "_law_found", NF.str "_law_rows", NF.str "_law_k", NF.str "_law_deed_here", NF.str "_law_key"] : List PySem.Str), defScope s__law_deeds, true, false⟩ (TR.fn__law_deeds).body (defBody s__law_deeds) = true := by decide +kernel
theorem sc__law_there : fnScB ([NF.str "_law_deeds_here", NF.str "_law_found", NF.str "_law_deed_here", NF.str "_law_mine", NF.str "_law_names", NF.str "_law_k", NF.str "_law_worths", NF.str "_law_one"] : List PySem.Str) ([NF.str "_law_deeds_here"] : List PySem.Str) (defScope s__law_there) = true := by decide +kernel
theorem ck__law_there : chkSs gi ⟨([NF.str "_law_deeds_here", NF.str "_law_found", NF.str "_law_deed_here", NF.str "_law_mine", NF.str "_law_names", NF.str "_law_k", NF.str "_law_worths", NF.str "_law_one"] : List PySem.Str), defScope s__law_there, true, false⟩ (TR.fn__law_there).body (defBody s__law_there) = true := by decide +kernel
theorem sc__law_shown : fnScB ([NF.str "_law_deeds_here", NF.str "_law_found", NF.str "_law_name_here", NF.str "_law_since", NF.str "_law_key", NF.str "_law_worth", NF.str "_law_count", NF.str "_law_one"] : List PySem.Str) ([NF.str "_law_deeds_here"] : List PySem.Str) (defScope s__law_shown) = true := by decide +kernel
theorem ck__law_shown : chkSs gi ⟨([NF.str "_law_deeds_here", NF.str "_law_found", NF.str "_law_name_here", NF.str "_law_since", NF.str "_law_key", NF.str "_law_worth", NF.str "_law_count", NF.str "_law_one"] : List PySem.Str), defScope s__law_shown, true, false⟩ (TR.fn__law_shown).body (defBody s__law_shown) = true := by decide +kernel
theorem sc__law_table : fnScB ([NF.str "_law_deeds_here", NF.str "_law_shown_here", NF.str "_law_name_here", NF.str "_law_key", NF.str "_law_worth"] : List PySem.Str) ([NF.str "_law_deeds_here"] : List PySem.Str) (defScope s__law_table) = true := by decide +kernel
theorem ck__law_table : chkSs gi ⟨([NF.str "_law_deeds_here", NF.str "_law_shown_here", NF.str "_law_name_here", NF.str "_law_key", NF.str "_law_worth"] : List PySem.Str), defScope s__law_table, true, false⟩ (TR.fn__law_table).body (defBody s__law_table) = true := by decide +kernel
theorem sc_law : fnScB ([NF.str "_law_script", NF.str "_law_town", NF.str "_law_most", NF.str "_law_deeds_here", NF.str "_law_more", NF.str "_law_keys", NF.str "_law_rows", NF.str "_law_k", NF.str "_law_drops", NF.str "_law_deed_here", NF.str "_law_due", NF.str "_law_found", NF.str "_law_key", NF.str "_law_later", NF.str "_law_one"] : List PySem.Str) ([NF.str "_law_script"] : List PySem.Str) (defScope s_law) = true := by decide +kernel
theorem ck_law : chkSs gi ⟨([NF.str "_law_script", NF.str "_law_town", NF.str "_law_most", NF.str "_law_deeds_here", NF.str "_law_more", NF.str "_law_keys", NF.str "_law_rows", NF.str "_law_k", NF.str "_law_drops", NF.str "_law_deed_here", NF.str "_law_due", NF.str "_law_found", NF.str "_law_key", NF.str "_law_later", NF.str "_law_one"] : List PySem.Str), defScope s_law, true, false⟩ (fn_law).body (defBody s_law) = true := by decide +kernel
def cfg (cad : Ex → Addr) (kad : Cl → Addr) (w : World) (pre : List Addr) (tab : List (Addr × PySem.Str)) : Cfg := ⟨cad, kad, w, pre, tab⟩
theorem at_is_name : Δ "is_name" = some TR.fn_is_name := by kernel_rfl
theorem at_is_worth : Δ "is_worth" = some TR.fn_is_worth := by kernel_rfl
theorem at_is_key : Δ "is_key" = some TR.fn_is_key := by kernel_rfl
theorem at_is_deed : Δ "is_deed" = some TR.fn_is_deed := by kernel_rfl
theorem at_look_deeds : Δ "look_deeds" = some TR.fn_look_deeds := by kernel_rfl
theorem at_in_order : Δ "in_order" = some TR.fn_in_order := by kernel_rfl
theorem at_Row_init : Δ "Row.__init__" = some TR.fn_Row_init := by kernel_rfl
theorem at_all_rows : Δ "all_rows" = some TR.fn_all_rows := by kernel_rfl
theorem at_there : Δ "there" = some TR.fn_there := by kernel_rfl
theorem at_named : Δ "named" = some TR.fn_named := by kernel_rfl
theorem at_table : Δ "table" = some TR.fn_table := by kernel_rfl
theorem at_fallen : Δ "fallen" = some TR.fn_fallen := by kernel_rfl
theorem at_squeezed : Δ "squeezed" = some TR.fn_squeezed := by kernel_rfl
theorem at__law_cell : Δ "_law_cell" = some TR.fn__law_cell := by kernel_rfl
theorem at__law_mix : Δ "_law_mix" = some TR.fn__law_mix := by kernel_rfl
theorem at__law_draw : Δ "_law_draw" = some TR.fn__law_draw := by kernel_rfl
theorem at__law_pick : Δ "_law_pick" = some TR.fn__law_pick := by kernel_rfl
theorem at__law_name : Δ "_law_name" = some TR.fn__law_name := by kernel_rfl
theorem at__law_deed : Δ "_law_deed" = some TR.fn__law_deed := by kernel_rfl
theorem at__law_deeds : Δ "_law_deeds" = some TR.fn__law_deeds := by kernel_rfl
theorem at__law_there : Δ "_law_there" = some TR.fn__law_there := by kernel_rfl
theorem at__law_shown : Δ "_law_shown" = some TR.fn__law_shown := by kernel_rfl
theorem at__law_table : Δ "_law_table" = some TR.fn__law_table := by kernel_rfl
theorem at_law : Δ "law" = some fn_law := by kernel_rfl
theorem all_mk {l : PySem.W.OpenLaw} {w : World} {K : PySem.W.Frag} {h : Heap} {mg : PySem.Str → Option Value} {fa : Addr} (X : K.In h) (G : h.Ns mainGlobals mg) (hfa : mg ("law" : PySem.Str) = some (.ref fa)) {C0 : Addr} {f_is_name : Addr} {oc_is_name kV_is_name dc_is_name pm_is_name ct_is_name : Value} {od_is_name an_is_name : Option Addr} {sl_is_name : Array (Option Value)} {cd_is_name : Value} {f_is_worth : Addr} {oc_is_worth kV_is_worth dc_is_worth pm_is_worth ct_is_worth : Value} {od_is_worth an_is_worth : Option Addr} {sl_is_worth : Array (Option Value)} {cd_is_worth : Value} {f_is_key : Addr} {oc_is_key kV_is_key dc_is_key pm_is_key ct_is_key : Value} {od_is_key an_is_key : Option Addr} {sl_is_key : Array (Option Value)} {cd_is_key : Value} {f_is_deed : Addr} {oc_is_deed kV_is_deed dc_is_deed pm_is_deed ct_is_deed : Value} {od_is_deed an_is_deed : Option Addr} {sl_is_deed : Array (Option Value)} {cd_is_deed : Value} {f_look_deeds : Addr} {oc_look_deeds kV_look_deeds dc_look_deeds pm_look_deeds ct_look_deeds : Value} {od_look_deeds an_look_deeds : Option Addr} {sl_look_deeds : Array (Option Value)} {cd_look_deeds : Value} {f_in_order : Addr} {oc_in_order kV_in_order dc_in_order pm_in_order ct_in_order : Value} {od_in_order an_in_order : Option Addr} {sl_in_order : Array (Option Value)} {cd_in_order : Value} {f_Row_init : Addr} {oc_Row_init kV_Row_init dc_Row_init pm_Row_init ct_Row_init : Value} {od_Row_init an_Row_init : Option Addr} {sl_Row_init : Array (Option Value)} {cd_Row_init : Value} {f_all_rows : Addr} {oc_all_rows kV_all_rows dc_all_rows pm_all_rows ct_all_rows : Value} {od_all_rows an_all_rows : Option Addr} {sl_all_rows : Array (Option Value)} {cd_all_rows : Value} {f_there : Addr} {oc_there kV_there dc_there pm_there ct_there : Value} {od_there an_there : Option Addr} {sl_there : Array (Option Value)} {f_named : Addr} {oc_named kV_named dc_named pm_named ct_named : Value} {od_named an_named : Option Addr} {sl_named : Array (Option Value)} {cd_named : Value} {f_table : Addr} {oc_table kV_table dc_table pm_table ct_table : Value} {od_table an_table : Option Addr} {sl_table : Array (Option Value)} {cd_table : Value} {f_fallen : Addr} {oc_fallen kV_fallen dc_fallen pm_fallen ct_fallen : Value} {od_fallen an_fallen : Option Addr} {sl_fallen : Array (Option Value)} {cd_fallen : Value} {f_squeezed : Addr} {oc_squeezed kV_squeezed dc_squeezed pm_squeezed ct_squeezed : Value} {od_squeezed an_squeezed : Option Addr} {sl_squeezed : Array (Option Value)} {cd_squeezed : Value} {f__law_cell : Addr} {oc__law_cell kV__law_cell dc__law_cell pm__law_cell ct__law_cell : Value} {od__law_cell an__law_cell : Option Addr} {sl__law_cell : Array (Option Value)} {cd__law_cell : Value} {f__law_mix : Addr} {oc__law_mix kV__law_mix dc__law_mix pm__law_mix ct__law_mix : Value} {od__law_mix an__law_mix : Option Addr} {sl__law_mix : Array (Option Value)} {cd__law_mix : Value} {f__law_draw : Addr} {oc__law_draw kV__law_draw dc__law_draw pm__law_draw ct__law_draw : Value} {od__law_draw an__law_draw : Option Addr} {sl__law_draw : Array (Option Value)} {cd__law_draw : Value} {f__law_pick : Addr} {oc__law_pick kV__law_pick dc__law_pick pm__law_pick ct__law_pick : Value} {od__law_pick an__law_pick : Option Addr} {sl__law_pick : Array (Option Value)} {cd__law_pick : Value} {f__law_name : Addr} {oc__law_name kV__law_name dc__law_name pm__law_name ct__law_name : Value} {od__law_name an__law_name : Option Addr} {sl__law_name : Array (Option Value)} {cd__law_name : Value} {f__law_deed : Addr} {oc__law_deed kV__law_deed dc__law_deed pm__law_deed ct__law_deed : Value} {od__law_deed an__law_deed : Option Addr} {sl__law_deed : Array (Option Value)} {cd__law_deed : Value} {f__law_deeds : Addr} {oc__law_deeds kV__law_deeds dc__law_deeds pm__law_deeds ct__law_deeds : Value} {od__law_deeds an__law_deeds : Option Addr} {sl__law_deeds : Array (Option Value)} {cd__law_deeds : Value} {f__law_there : Addr} {oc__law_there kV__law_there dc__law_there pm__law_there ct__law_there : Value} {od__law_there an__law_there : Option Addr} {sl__law_there : Array (Option Value)} {cd__law_there : Value} {f__law_shown : Addr} {oc__law_shown kV__law_shown dc__law_shown pm__law_shown ct__law_shown : Value} {od__law_shown an__law_shown : Option Addr} {sl__law_shown : Array (Option Value)} {cd__law_shown : Value} {f__law_table : Addr} {oc__law_table kV__law_table dc__law_table pm__law_table ct__law_table : Value} {od__law_table an__law_table : Option Addr} {sl__law_table : Array (Option Value)} {cd__law_table : Value} {f_law : Addr} {oc_law kV_law dc_law pm_law ct_law : Value} {od_law an_law : Option Addr} {sl_law : Array (Option Value)} {cd_law : Value} {X0 : Addr} {X1 : Addr} {u0 : Value} {u1 : Value} {u2 : Value} {u3 : Value} {u4 : Value} {a0 : Addr} {es0 : Array DictEntry} {n0 : Nat} {cL tL : Addr} (hT : h.get? tL = some { cls := .none, data := .fields #[] })
    (gC0 : PySem.W.nsIn K mainGlobals ("Row" : PySem.Str) = some (some (.ref C0)))
    (pg0 : PySem.W.plainGet K C0 Str.empty = true)
    (hd0 : PySem.W.hasDictIn K C0 = true)
    (po0 : PySem.W.plainOver K C0 = true)
    (sa0 : PySem.W.findIn K (.ref C0) ("__setattr__" : PySem.Str) = some (some (.builtin "object.__setattr__")))
    (mk0 : PySem.W.makesIn K C0 = true)
    (kc0 : PySem.W.keepIn K (.ref C0) = true)
    (na0_0 : PySem.W.findIn K (.ref C0) ("key" : PySem.Str) = some none)
    (na0_1 : PySem.W.findIn K (.ref C0) ("name" : PySem.Str) = some none)
    (na0_2 : PySem.W.findIn K (.ref C0) ("since" : PySem.Str) = some none)
    (na0_3 : PySem.W.findIn K (.ref C0) ("worth" : PySem.Str) = some none)
    (na0_4 : PySem.W.findIn K (.ref C0) ("is_dropped" : PySem.Str) = some none)
    (a_is_name : PySem.W.nsIn K mainGlobals ("is_name" : PySem.Str) = some (some (.ref f_is_name)))
    (l_is_name : K.lookup f_is_name = some ⟨oc_is_name, od_is_name, .func (PySem.W.fnOf ("is_name" : PySem.Str) ("is_name" : PySem.Str) (defArgs s_is_name) (defBody s_is_name) (defScope s_is_name) .none kV_is_name dc_is_name pm_is_name an_is_name cd_is_name ct_is_name), sl_is_name⟩)
    (c_is_name : PySem.W.codeIn K cd_is_name ("is_name" : PySem.Str) = true)
    (k_is_name : PySem.W.keepIn K (.ref f_is_name) = true)
    (a_is_worth : PySem.W.nsIn K mainGlobals ("is_worth" : PySem.Str) = some (some (.ref f_is_worth)))
    (l_is_worth : K.lookup f_is_worth = some ⟨oc_is_worth, od_is_worth, .func (PySem.W.fnOf ("is_worth" : PySem.Str) ("is_worth" : PySem.Str) (defArgs s_is_worth) (defBody s_is_worth) (defScope s_is_worth) .none kV_is_worth dc_is_worth pm_is_worth an_is_worth cd_is_worth ct_is_worth), sl_is_worth⟩)
    (c_is_worth : PySem.W.codeIn K cd_is_worth ("is_worth" : PySem.Str) = true)
    (k_is_worth : PySem.W.keepIn K (.ref f_is_worth) = true)
    (a_is_key : PySem.W.nsIn K mainGlobals ("is_key" : PySem.Str) = some (some (.ref f_is_key)))
    (l_is_key : K.lookup f_is_key = some ⟨oc_is_key, od_is_key, .func (PySem.W.fnOf ("is_key" : PySem.Str) ("is_key" : PySem.Str) (defArgs s_is_key) (defBody s_is_key) (defScope s_is_key) .none kV_is_key dc_is_key pm_is_key an_is_key cd_is_key ct_is_key), sl_is_key⟩)
    (c_is_key : PySem.W.codeIn K cd_is_key ("is_key" : PySem.Str) = true)
    (k_is_key : PySem.W.keepIn K (.ref f_is_key) = true)
    (a_is_deed : PySem.W.nsIn K mainGlobals ("is_deed" : PySem.Str) = some (some (.ref f_is_deed)))
    (l_is_deed : K.lookup f_is_deed = some ⟨oc_is_deed, od_is_deed, .func (PySem.W.fnOf ("is_deed" : PySem.Str) ("is_deed" : PySem.Str) (defArgs s_is_deed) (defBody s_is_deed) (defScope s_is_deed) .none kV_is_deed dc_is_deed pm_is_deed an_is_deed cd_is_deed ct_is_deed), sl_is_deed⟩)
    (c_is_deed : PySem.W.codeIn K cd_is_deed ("is_deed" : PySem.Str) = true)
    (k_is_deed : PySem.W.keepIn K (.ref f_is_deed) = true)
    (a_look_deeds : PySem.W.nsIn K mainGlobals ("look_deeds" : PySem.Str) = some (some (.ref f_look_deeds)))
    (l_look_deeds : K.lookup f_look_deeds = some ⟨oc_look_deeds, od_look_deeds, .func (PySem.W.fnOf ("look_deeds" : PySem.Str) ("look_deeds" : PySem.Str) (defArgs s_look_deeds) (defBody s_look_deeds) (defScope s_look_deeds) .none kV_look_deeds dc_look_deeds pm_look_deeds an_look_deeds cd_look_deeds ct_look_deeds), sl_look_deeds⟩)
    (c_look_deeds : PySem.W.codeIn K cd_look_deeds ("look_deeds" : PySem.Str) = true)
    (k_look_deeds : PySem.W.keepIn K (.ref f_look_deeds) = true)
    (a_in_order : PySem.W.nsIn K mainGlobals ("in_order" : PySem.Str) = some (some (.ref f_in_order)))
    (l_in_order : K.lookup f_in_order = some ⟨oc_in_order, od_in_order, .func (PySem.W.fnOf ("in_order" : PySem.Str) ("in_order" : PySem.Str) (defArgs s_in_order) (defBody s_in_order) (defScope s_in_order) .none kV_in_order dc_in_order pm_in_order an_in_order cd_in_order ct_in_order), sl_in_order⟩)
    (c_in_order : PySem.W.codeIn K cd_in_order ("in_order" : PySem.Str) = true)
    (k_in_order : PySem.W.keepIn K (.ref f_in_order) = true)
    (a_Row_init : PySem.W.findIn K (.ref C0) ("__init__" : PySem.Str) = some (some (.ref f_Row_init)))
    (i_Row_init : PySem.W.isFn K (.ref f_Row_init) = true)
    (l_Row_init : K.lookup f_Row_init = some ⟨oc_Row_init, od_Row_init, .func (PySem.W.fnOf ("__init__" : PySem.Str) ("Row.__init__" : PySem.Str) (defArgs s_Row_init) (defBody s_Row_init) (defScope s_Row_init) .none kV_Row_init dc_Row_init pm_Row_init an_Row_init cd_Row_init ct_Row_init), sl_Row_init⟩)
    (c_Row_init : PySem.W.codeIn K cd_Row_init ("Row.__init__" : PySem.Str) = true)
    (k_Row_init : PySem.W.keepIn K (.ref f_Row_init) = true)
    (a_all_rows : PySem.W.nsIn K mainGlobals ("all_rows" : PySem.Str) = some (some (.ref f_all_rows)))
    (l_all_rows : K.lookup f_all_rows = some ⟨oc_all_rows, od_all_rows, .func (PySem.W.fnOf ("all_rows" : PySem.Str) ("all_rows" : PySem.Str) (defArgs s_all_rows) (defBody s_all_rows) (defScope s_all_rows) .none kV_all_rows dc_all_rows pm_all_rows an_all_rows cd_all_rows ct_all_rows), sl_all_rows⟩)
    (c_all_rows : PySem.W.codeIn K cd_all_rows ("all_rows" : PySem.Str) = true)
    (k_all_rows : PySem.W.keepIn K (.ref f_all_rows) = true)
    (a_there : PySem.W.nsIn K mainGlobals ("there" : PySem.Str) = some (some (.ref f_there)))
    (l_there : K.lookup f_there = some ⟨oc_there, od_there, .func (PySem.W.fnOf ("there" : PySem.Str) ("there" : PySem.Str) (defArgs s_there) (defBody s_there) (defScope s_there) .none kV_there dc_there pm_there an_there (.ref cL) ct_there), sl_there⟩)
    (c_there : PySem.W.codeIn K (.ref cL) ("there" : PySem.Str) = true)
    (k_there : PySem.W.keepIn K (.ref f_there) = true)
    (a_named : PySem.W.nsIn K mainGlobals ("named" : PySem.Str) = some (some (.ref f_named)))
    (l_named : K.lookup f_named = some ⟨oc_named, od_named, .func (PySem.W.fnOf ("named" : PySem.Str) ("named" : PySem.Str) (defArgs s_named) (defBody s_named) (defScope s_named) .none kV_named dc_named pm_named an_named cd_named ct_named), sl_named⟩)
    (c_named : PySem.W.codeIn K cd_named ("named" : PySem.Str) = true)
    (k_named : PySem.W.keepIn K (.ref f_named) = true)
    (a_table : PySem.W.nsIn K mainGlobals ("table" : PySem.Str) = some (some (.ref f_table)))
    (l_table : K.lookup f_table = some ⟨oc_table, od_table, .func (PySem.W.fnOf ("table" : PySem.Str) ("table" : PySem.Str) (defArgs s_table) (defBody s_table) (defScope s_table) .none kV_table dc_table pm_table an_table cd_table ct_table), sl_table⟩)
    (c_table : PySem.W.codeIn K cd_table ("table" : PySem.Str) = true)
    (k_table : PySem.W.keepIn K (.ref f_table) = true)
    (a_fallen : PySem.W.nsIn K mainGlobals ("fallen" : PySem.Str) = some (some (.ref f_fallen)))
    (l_fallen : K.lookup f_fallen = some ⟨oc_fallen, od_fallen, .func (PySem.W.fnOf ("fallen" : PySem.Str) ("fallen" : PySem.Str) (defArgs s_fallen) (defBody s_fallen) (defScope s_fallen) .none kV_fallen dc_fallen pm_fallen an_fallen cd_fallen ct_fallen), sl_fallen⟩)
    (c_fallen : PySem.W.codeIn K cd_fallen ("fallen" : PySem.Str) = true)
    (k_fallen : PySem.W.keepIn K (.ref f_fallen) = true)
    (a_squeezed : PySem.W.nsIn K mainGlobals ("squeezed" : PySem.Str) = some (some (.ref f_squeezed)))
    (l_squeezed : K.lookup f_squeezed = some ⟨oc_squeezed, od_squeezed, .func (PySem.W.fnOf ("squeezed" : PySem.Str) ("squeezed" : PySem.Str) (defArgs s_squeezed) (defBody s_squeezed) (defScope s_squeezed) .none kV_squeezed dc_squeezed pm_squeezed an_squeezed cd_squeezed ct_squeezed), sl_squeezed⟩)
    (c_squeezed : PySem.W.codeIn K cd_squeezed ("squeezed" : PySem.Str) = true)
    (k_squeezed : PySem.W.keepIn K (.ref f_squeezed) = true)
    (a__law_cell : PySem.W.nsIn K mainGlobals ("_law_cell" : PySem.Str) = some (some (.ref f__law_cell)))
    (l__law_cell : K.lookup f__law_cell = some ⟨oc__law_cell, od__law_cell, .func (PySem.W.fnOf ("_law_cell" : PySem.Str) ("_law_cell" : PySem.Str) (defArgs s__law_cell) (defBody s__law_cell) (defScope s__law_cell) .none kV__law_cell dc__law_cell pm__law_cell an__law_cell cd__law_cell ct__law_cell), sl__law_cell⟩)
    (c__law_cell : PySem.W.codeIn K cd__law_cell ("_law_cell" : PySem.Str) = true)
    (k__law_cell : PySem.W.keepIn K (.ref f__law_cell) = true)
    (a__law_mix : PySem.W.nsIn K mainGlobals ("_law_mix" : PySem.Str) = some (some (.ref f__law_mix)))
    (l__law_mix : K.lookup f__law_mix = some ⟨oc__law_mix, od__law_mix, .func (PySem.W.fnOf ("_law_mix" : PySem.Str) ("_law_mix" : PySem.Str) (defArgs s__law_mix) (defBody s__law_mix) (defScope s__law_mix) .none kV__law_mix dc__law_mix pm__law_mix an__law_mix cd__law_mix ct__law_mix), sl__law_mix⟩)
    (c__law_mix : PySem.W.codeIn K cd__law_mix ("_law_mix" : PySem.Str) = true)
    (k__law_mix : PySem.W.keepIn K (.ref f__law_mix) = true)
    (a__law_draw : PySem.W.nsIn K mainGlobals ("_law_draw" : PySem.Str) = some (some (.ref f__law_draw)))
    (l__law_draw : K.lookup f__law_draw = some ⟨oc__law_draw, od__law_draw, .func (PySem.W.fnOf ("_law_draw" : PySem.Str) ("_law_draw" : PySem.Str) (defArgs s__law_draw) (defBody s__law_draw) (defScope s__law_draw) .none kV__law_draw dc__law_draw pm__law_draw an__law_draw cd__law_draw ct__law_draw), sl__law_draw⟩)
    (c__law_draw : PySem.W.codeIn K cd__law_draw ("_law_draw" : PySem.Str) = true)
    (k__law_draw : PySem.W.keepIn K (.ref f__law_draw) = true)
    (a__law_pick : PySem.W.nsIn K mainGlobals ("_law_pick" : PySem.Str) = some (some (.ref f__law_pick)))
    (l__law_pick : K.lookup f__law_pick = some ⟨oc__law_pick, od__law_pick, .func (PySem.W.fnOf ("_law_pick" : PySem.Str) ("_law_pick" : PySem.Str) (defArgs s__law_pick) (defBody s__law_pick) (defScope s__law_pick) .none kV__law_pick dc__law_pick pm__law_pick an__law_pick cd__law_pick ct__law_pick), sl__law_pick⟩)
    (c__law_pick : PySem.W.codeIn K cd__law_pick ("_law_pick" : PySem.Str) = true)
    (k__law_pick : PySem.W.keepIn K (.ref f__law_pick) = true)
    (a__law_name : PySem.W.nsIn K mainGlobals ("_law_name" : PySem.Str) = some (some (.ref f__law_name)))
    (l__law_name : K.lookup f__law_name = some ⟨oc__law_name, od__law_name, .func (PySem.W.fnOf ("_law_name" : PySem.Str) ("_law_name" : PySem.Str) (defArgs s__law_name) (defBody s__law_name) (defScope s__law_name) .none kV__law_name dc__law_name pm__law_name an__law_name cd__law_name ct__law_name), sl__law_name⟩)
    (c__law_name : PySem.W.codeIn K cd__law_name ("_law_name" : PySem.Str) = true)
    (k__law_name : PySem.W.keepIn K (.ref f__law_name) = true)
    (a__law_deed : PySem.W.nsIn K mainGlobals ("_law_deed" : PySem.Str) = some (some (.ref f__law_deed)))
    (l__law_deed : K.lookup f__law_deed = some ⟨oc__law_deed, od__law_deed, .func (PySem.W.fnOf ("_law_deed" : PySem.Str) ("_law_deed" : PySem.Str) (defArgs s__law_deed) (defBody s__law_deed) (defScope s__law_deed) .none kV__law_deed dc__law_deed pm__law_deed an__law_deed cd__law_deed ct__law_deed), sl__law_deed⟩)
    (c__law_deed : PySem.W.codeIn K cd__law_deed ("_law_deed" : PySem.Str) = true)
    (k__law_deed : PySem.W.keepIn K (.ref f__law_deed) = true)
    (a__law_deeds : PySem.W.nsIn K mainGlobals ("_law_deeds" : PySem.Str) = some (some (.ref f__law_deeds)))
    (l__law_deeds : K.lookup f__law_deeds = some ⟨oc__law_deeds, od__law_deeds, .func (PySem.W.fnOf ("_law_deeds" : PySem.Str) ("_law_deeds" : PySem.Str) (defArgs s__law_deeds) (defBody s__law_deeds) (defScope s__law_deeds) .none kV__law_deeds dc__law_deeds pm__law_deeds an__law_deeds cd__law_deeds ct__law_deeds), sl__law_deeds⟩)
    (c__law_deeds : PySem.W.codeIn K cd__law_deeds ("_law_deeds" : PySem.Str) = true)
    (k__law_deeds : PySem.W.keepIn K (.ref f__law_deeds) = true)
    (a__law_there : PySem.W.nsIn K mainGlobals ("_law_there" : PySem.Str) = some (some (.ref f__law_there)))
    (l__law_there : K.lookup f__law_there = some ⟨oc__law_there, od__law_there, .func (PySem.W.fnOf ("_law_there" : PySem.Str) ("_law_there" : PySem.Str) (defArgs s__law_there) (defBody s__law_there) (defScope s__law_there) .none kV__law_there dc__law_there pm__law_there an__law_there cd__law_there ct__law_there), sl__law_there⟩)
    (c__law_there : PySem.W.codeIn K cd__law_there ("_law_there" : PySem.Str) = true)
    (k__law_there : PySem.W.keepIn K (.ref f__law_there) = true)
    (a__law_shown : PySem.W.nsIn K mainGlobals ("_law_shown" : PySem.Str) = some (some (.ref f__law_shown)))
    (l__law_shown : K.lookup f__law_shown = some ⟨oc__law_shown, od__law_shown, .func (PySem.W.fnOf ("_law_shown" : PySem.Str) ("_law_shown" : PySem.Str) (defArgs s__law_shown) (defBody s__law_shown) (defScope s__law_shown) .none kV__law_shown dc__law_shown pm__law_shown an__law_shown cd__law_shown ct__law_shown), sl__law_shown⟩)
    (c__law_shown : PySem.W.codeIn K cd__law_shown ("_law_shown" : PySem.Str) = true)
    (k__law_shown : PySem.W.keepIn K (.ref f__law_shown) = true)
    (a__law_table : PySem.W.nsIn K mainGlobals ("_law_table" : PySem.Str) = some (some (.ref f__law_table)))
    (l__law_table : K.lookup f__law_table = some ⟨oc__law_table, od__law_table, .func (PySem.W.fnOf ("_law_table" : PySem.Str) ("_law_table" : PySem.Str) (defArgs s__law_table) (defBody s__law_table) (defScope s__law_table) .none kV__law_table dc__law_table pm__law_table an__law_table cd__law_table ct__law_table), sl__law_table⟩)
    (c__law_table : PySem.W.codeIn K cd__law_table ("_law_table" : PySem.Str) = true)
    (k__law_table : PySem.W.keepIn K (.ref f__law_table) = true)
    (a_law : PySem.W.nsIn K mainGlobals ("law" : PySem.Str) = some (some (.ref f_law)))
    (l_law : K.lookup f_law = some ⟨oc_law, od_law, .func (PySem.W.fnOf ("law" : PySem.Str) ("law" : PySem.Str) (defArgs s_law) (defBody s_law) (defScope s_law) .none kV_law dc_law pm_law an_law cd_law ct_law), sl_law⟩)
    (c_law : PySem.W.codeIn K cd_law ("law" : PySem.Str) = true)
    (k_law : PySem.W.keepIn K (.ref f_law) = true)
    (gX0 : PySem.W.nsIn K mainGlobals ("FallError" : PySem.Str) = some (some (.ref X0)))
    (gX1 : PySem.W.nsIn K mainGlobals ("BadDeed" : PySem.Str) = some (some (.ref X1)))
    (xX1 : PySem.W.excIn K X1 [.type "ValueError", .type "Exception", .type "BaseException", .type "object"] "ValueError.__new__" = true)
    (kX1 : PySem.W.keepIn K (.ref X1) = true)
    (bX1 : PySem.W.subIn K (.ref X1) (.type "BaseException") = some true)
    (tX1 : PySem.W.typeIn K (.ref X1) = some (.type "type"))
    (con0 : PySem.W.nsIn K mainGlobals ("SMALL" : PySem.Str) = some (some u0))
    (cov0 : GlbV (cfg (fun _ => 0) (fun _ => 0) w [] []) (.str [97, 98, 99, 100, 101, 102, 103, 104, 105, 106, 107, 108, 109, 110, 111, 112, 113, 114, 115, 116, 117, 118, 119, 120, 121, 122]) u0)
    (con1 : PySem.W.nsIn K mainGlobals ("MOST_NAME" : PySem.Str) = some (some u1))
    (cov1 : GlbV (cfg (fun _ => 0) (fun _ => 0) w [] []) (.int 4) u1)
    (con2 : PySem.W.nsIn K mainGlobals ("MOST_WORTH" : PySem.Str) = some (some u2))
    (cov2 : GlbV (cfg (fun _ => 0) (fun _ => 0) w [] []) (.int 99) u2)
    (con3 : PySem.W.nsIn K mainGlobals ("MOST_STAMP" : PySem.Str) = some (some u3))
    (cov3 : GlbV (cfg (fun _ => 0) (fun _ => 0) w [] []) (.int 999) u3)
    (con4 : PySem.W.nsIn K mainGlobals ("MOST_HAND" : PySem.Str) = some (some u4))
    (cov4 : GlbV (cfg (fun _ => 0) (fun _ => 0) w [] []) (.int 5) u4)
    (con5 : PySem.W.nsIn K mainGlobals ("SIZES" : PySem.Str) = some (some (.ref a0)))
    (rod0 : K.lookup a0 = some ⟨.type "dict", none, .dict es0 n0, #[]⟩)
    (rod1 : PySem.W.KeysLit w.params es0.toList)
    (rod2 : (a0 == sysModules) = false)
    (rod3 : rodB es0.toList rod = true)
    (blt0 : PySem.W.nsIn K mainGlobals ("len" : PySem.Str) = some none)
    (blt1 : PySem.W.nsIn K mainGlobals ("list" : PySem.Str) = some none)
    (blt2 : PySem.W.nsIn K mainGlobals ("tuple" : PySem.Str) = some none)
    (blt3 : PySem.W.nsIn K mainGlobals ("all" : PySem.Str) = some none)
    (blt4 : PySem.W.nsIn K mainGlobals ("any" : PySem.Str) = some none)
    (blt5 : PySem.W.nsIn K mainGlobals ("max" : PySem.Str) = some none)
    (blt6 : PySem.W.nsIn K mainGlobals ("min" : PySem.Str) = some none)
    (blt7 : PySem.W.nsIn K mainGlobals ("sorted" : PySem.Str) = some none)
    (blt8 : PySem.W.nsIn K mainGlobals ("str" : PySem.Str) = some none)
    (blt9 : PySem.W.nsIn K mainGlobals ("int" : PySem.Str) = some none)
    (blt10 : PySem.W.nsIn K mainGlobals ("dict" : PySem.Str) = some none)
    (blt11 : PySem.W.nsIn K mainGlobals ("set" : PySem.Str) = some none)
    (blt12 : PySem.W.nsIn K mainGlobals ("range" : PySem.Str) = some none)
    (blt13 : PySem.W.nsIn K mainGlobals ("isinstance" : PySem.Str) = some none)
    (hcT : PySem.W.codeHdIn K cL tL = true)
    (nT : K.lookup tL = none) (n : Nat)
    (plain : ∀ ns : List Int, ns.length ≤ 63 → ∃ S', callF Δ (n + 1) "law" [.ref 1] [.rod rod, .rol (ns.map NF.D.int)] = .ok (.bl true) S') :
    LamX.LawAtS l w K (L2.CX l.prog w) (7 * (n + 1)) 63 ("_law_script" : PySem.Str) mg fa h := by
  have e0 := hfa.symm.trans (PySem.W.mg_of X G a_law)
  cases e0
  have F_is_name := funC_mk (st := s_is_name) l_is_name c_is_name
  have b_is_name := F_is_name.binds (ps := ([NF.str "name"] : List PySem.Str)) fun _ _ _ _ _ _ us hl => match us, hl with | [_], _ => rfl
  have F_is_worth := funC_mk (st := s_is_worth) l_is_worth c_is_worth
  have b_is_worth := F_is_worth.binds (ps := ([NF.str "worth"] : List PySem.Str)) fun _ _ _ _ _ _ us hl => match us, hl with | [_], _ => rfl
  have F_is_key := funC_mk (st := s_is_key) l_is_key c_is_key
  have b_is_key := F_is_key.binds (ps := ([NF.str "key"] : List PySem.Str)) fun _ _ _ _ _ _ us hl => match us, hl with | [_], _ => rfl
  have F_is_deed := funC_mk (st := s_is_deed) l_is_deed c_is_deed
  have b_is_deed := F_is_deed.binds (ps := ([NF.str "deed"] : List PySem.Str)) fun _ _ _ _ _ _ us hl => match us, hl with | [_], _ => rfl
  have F_look_deeds := funC_mk (st := s_look_deeds) l_look_deeds c_look_deeds
  have b_look_deeds := F_look_deeds.binds (ps := ([NF.str "deeds"] : List PySem.Str)) fun _ _ _ _ _ _ us hl => match us, hl with | [_], _ => rfl
  have F_in_order := funC_mk (st := s_in_order) l_in_order c_in_order
  have b_in_order := F_in_order.binds (ps := ([NF.str "deeds"] : List PySem.Str)) fun _ _ _ _ _ _ us hl => match us, hl with | [_], _ => rfl
  have F_Row_init := funC_mk (st := s_Row_init) l_Row_init c_Row_init
  have b_Row_init := F_Row_init.binds (ps := ([NF.str "self", NF.str "key", NF.str "name", NF.str "worth"] : List PySem.Str)) fun _ _ _ _ _ _ us hl => match us, hl with | [_, _, _, _], _ => rfl
  have F_all_rows := funC_mk (st := s_all_rows) l_all_rows c_all_rows
  have b_all_rows := F_all_rows.binds (ps := ([NF.str "deeds"] : List PySem.Str)) fun _ _ _ _ _ _ us hl => match us, hl with | [_], _ => rfl
  have F_there := funC_mk (st := s_there) l_there c_there
  have b_there := F_there.binds (ps := ([NF.str "deeds"] : List PySem.Str)) fun _ _ _ _ _ _ us hl => match us, hl with | [_], _ => rfl
  have F_named := funC_mk (st := s_named) l_named c_named
  have b_named := F_named.binds (ps := ([NF.str "deeds"] : List PySem.Str)) fun _ _ _ _ _ _ us hl => match us, hl with | [_], _ => rfl
  have F_table := funC_mk (st := s_table) l_table c_table
  have b_table := F_table.binds (ps := ([NF.str "deeds"] : List PySem.Str)) fun _ _ _ _ _ _ us hl => match us, hl with | [_], _ => rfl
  have F_fallen := funC_mk (st := s_fallen) l_fallen c_fallen
  have b_fallen := F_fallen.binds (ps := ([NF.str "deeds"] : List PySem.Str)) fun _ _ _ _ _ _ us hl => match us, hl with | [_], _ => rfl
  have F_squeezed := funC_mk (st := s_squeezed) l_squeezed c_squeezed
  have b_squeezed := F_squeezed.binds (ps := ([NF.str "deeds"] : List PySem.Str)) fun _ _ _ _ _ _ us hl => match us, hl with | [_], _ => rfl
  have F__law_cell := funC_mk (st := s__law_cell) l__law_cell c__law_cell
  have b__law_cell := F__law_cell.binds (ps := ([NF.str "_law_script", NF.str "_law_k"] : List PySem.Str)) fun _ _ _ _ _ _ us hl => match us, hl with | [_, _], _ => rfl
  have F__law_mix := funC_mk (st := s__law_mix) l__law_mix c__law_mix
  have b__law_mix := F__law_mix.binds (ps := ([NF.str "_law_script", NF.str "_law_k"] : List PySem.Str)) fun _ _ _ _ _ _ us hl => match us, hl with | [_, _], _ => rfl
  have F__law_draw := funC_mk (st := s__law_draw) l__law_draw c__law_draw
  have b__law_draw := F__law_draw.binds (ps := ([NF.str "_law_script", NF.str "_law_town", NF.str "_law_many"] : List PySem.Str)) fun _ _ _ _ _ _ us hl => match us, hl with | [_, _, _], _ => rfl
  have F__law_pick := funC_mk (st := s__law_pick) l__law_pick c__law_pick
  have b__law_pick := F__law_pick.binds (ps := ([NF.str "_law_script", NF.str "_law_town", NF.str "_law_some"] : List PySem.Str)) fun _ _ _ _ _ _ us hl => match us, hl with | [_, _, _], _ => rfl
  have F__law_name := funC_mk (st := s__law_name) l__law_name c__law_name
  have b__law_name := F__law_name.binds (ps := ([NF.str "_law_script", NF.str "_law_town"] : List PySem.Str)) fun _ _ _ _ _ _ us hl => match us, hl with | [_, _], _ => rfl
  have F__law_deed := funC_mk (st := s__law_deed) l__law_deed c__law_deed
  have b__law_deed := F__law_deed.binds (ps := ([NF.str "_law_script", NF.str "_law_town", NF.str "_law_rows", NF.str "_law_most"] : List PySem.Str)) fun _ _ _ _ _ _ us hl => match us, hl with | [_, _, _, _], _ => rfl
  have F__law_deeds := funC_mk (st := s__law_deeds) l__law_deeds c__law_deeds
  have b__law_deeds := F__law_deeds.binds (ps := ([NF.str "_law_script", NF.str "_law_town", NF.str "_law_count", NF.str "_law_most"] : List PySem.Str)) fun _ _ _ _ _ _ us hl => match us, hl with | [_, _, _, _], _ => rfl
  have F__law_there := funC_mk (st := s__law_there) l__law_there c__law_there
  have b__law_there := F__law_there.binds (ps := ([NF.str "_law_deeds_here"] : List PySem.Str)) fun _ _ _ _ _ _ us hl => match us, hl with | [_], _ => rfl
  have F__law_shown := funC_mk (st := s__law_shown) l__law_shown c__law_shown
  have b__law_shown := F__law_shown.binds (ps := ([NF.str "_law_deeds_here"] : List PySem.Str)) fun _ _ _ _ _ _ us hl => match us, hl with | [_], _ => rfl
  have F__law_table := funC_mk (st := s__law_table) l__law_table c__law_table
  have b__law_table := F__law_table.binds (ps := ([NF.str "_law_deeds_here"] : List PySem.Str)) fun _ _ _ _ _ _ us hl => match us, hl with | [_], _ => rfl
  have F_law := funC_mk (st := s_law) l_law c_law
  have b_law := F_law.binds (ps := ([NF.str "_law_script"] : List PySem.Str)) fun _ _ _ _ _ _ us hl => match us, hl with | [_], _ => rfl
  have cl0 : Cls K C0 := ⟨pg0, hd0, po0, sa0⟩
  let C : Cfg := ⟨fun e => match e with | .fall => X0 | .badDeed => X1 | _ => 0, fun c => match c with | .row => C0 | _ => 0, w, [a0], [(tL, ("there" : PySem.Str) ++ ".<locals>." ++ "<lambda>")]⟩
  have hr : RodAt K C.w a0 rod := rod_mk rod0 rod1 rod2 rod3
  refine ⟨PySem.W.fnOf ("law" : PySem.Str) ("law" : PySem.Str) (defArgs s_law) (defBody s_law) (defScope s_law) .none kV_law dc_law pm_law an_law cd_law ct_law, [(cL, tL)], spL C K, fun p hp => (by simp at hp; rw [hp]; exact hT), fun p hp => (by simp at hp; rw [hp]; exact nT), fun p hp => (by simp at hp; rw [hp]; exact PySem.W.codeHd_of_K X hcT), fun s u => .of_eq rfl, fun H a ns hlen _ hT' hS => ⟨a, ns, rfl, hS, hlen, fun p hp => (by simp [C] at hp; rw [hp]; exact hT' (cL, tL) (by simp)), fun v H' e => e⟩, fun base KB GB TB => ?_⟩
  have D_is_name : DefOk gi C K mg base ⟨("is_name" : PySem.Str), f_is_name, _, ([NF.str "name"] : List PySem.Str)⟩ TR.fn_is_name := defOk_mk F_is_name sc_is_name ck_is_name rfl rfl
  have D_is_worth : DefOk gi C K mg base ⟨("is_worth" : PySem.Str), f_is_worth, _, ([NF.str "worth"] : List PySem.Str)⟩ TR.fn_is_worth := defOk_mk F_is_worth sc_is_worth ck_is_worth rfl rfl
  have D_is_key : DefOk gi C K mg base ⟨("is_key" : PySem.Str), f_is_key, _, ([NF.str "key"] : List PySem.Str)⟩ TR.fn_is_key := defOk_mk F_is_key sc_is_key ck_is_key rfl rfl
  have D_is_deed : DefOk gi C K mg base ⟨("is_deed" : PySem.Str), f_is_deed, _, ([NF.str "deed"] : List PySem.Str)⟩ TR.fn_is_deed := defOk_mk F_is_deed sc_is_deed ck_is_deed rfl rfl
  have D_look_deeds : DefOk gi C K mg base ⟨("look_deeds" : PySem.Str), f_look_deeds, _, ([NF.str "deeds"] : List PySem.Str)⟩ TR.fn_look_deeds := defOk_mk F_look_deeds sc_look_deeds ck_look_deeds rfl rfl
  have D_in_order : DefOk gi C K mg base ⟨("in_order" : PySem.Str), f_in_order, _, ([NF.str "deeds"] : List PySem.Str)⟩ TR.fn_in_order := defOk_mk F_in_order sc_in_order ck_in_order rfl rfl
  have D_Row_init : DefOk gi C K mg base ⟨("__init__" : PySem.Str), f_Row_init, _, ([NF.str "self", NF.str "key", NF.str "name", NF.str "worth"] : List PySem.Str)⟩ TR.fn_Row_init := defOk_mk F_Row_init sc_Row_init ck_Row_init rfl rfl
  have D_all_rows : DefOk gi C K mg base ⟨("all_rows" : PySem.Str), f_all_rows, _, ([NF.str "deeds"] : List PySem.Str)⟩ TR.fn_all_rows := defOk_mk F_all_rows sc_all_rows ck_all_rows rfl rfl
  have D_there : DefOk gi C K mg base ⟨("there" : PySem.Str), f_there, _, ([NF.str "deeds"] : List PySem.Str)⟩ TR.fn_there := defOkL_mk F_there sc_there ck_there rfl rfl rfl (TB (cL, tL) (by simp))
  have D_named : DefOk gi C K mg base ⟨("named" : PySem.Str), f_named, _, ([NF.str "deeds"] : List PySem.Str)⟩ TR.fn_named := defOk_mk F_named sc_named ck_named rfl rfl
  have D_table : DefOk gi C K mg base ⟨("table" : PySem.Str), f_table, _, ([NF.str "deeds"] : List PySem.Str)⟩ TR.fn_table := defOk_mk F_table sc_table ck_table rfl rfl
  have D_fallen : DefOk gi C K mg base ⟨("fallen" : PySem.Str), f_fallen, _, ([NF.str "deeds"] : List PySem.Str)⟩ TR.fn_fallen := defOk_mk F_fallen sc_fallen ck_fallen rfl rfl
  have D_squeezed : DefOk gi C K mg base ⟨("squeezed" : PySem.Str), f_squeezed, _, ([NF.str "deeds"] : List PySem.Str)⟩ TR.fn_squeezed := defOk_mk F_squeezed sc_squeezed ck_squeezed rfl rfl
  have D__law_cell : DefOk gi C K mg base ⟨("_law_cell" : PySem.Str), f__law_cell, _, ([NF.str "_law_script", NF.str "_law_k"] : List PySem.Str)⟩ TR.fn__law_cell := defOk_mk F__law_cell sc__law_cell ck__law_cell rfl rfl
  have D__law_mix : DefOk gi C K mg base ⟨("_law_mix" : PySem.Str), f__law_mix, _, ([NF.str "_law_script", NF.str "_law_k"] : List PySem.Str)⟩ TR.fn__law_mix := defOk_mk F__law_mix sc__law_mix ck__law_mix rfl rfl
  have D__law_draw : DefOk gi C K mg base ⟨("_law_draw" : PySem.Str), f__law_draw, _, ([NF.str "_law_script", NF.str "_law_town", NF.str "_law_many"] : List PySem.Str)⟩ TR.fn__law_draw := defOk_mk F__law_draw sc__law_draw ck__law_draw rfl rfl
  have D__law_pick : DefOk gi C K mg base ⟨("_law_pick" : PySem.Str), f__law_pick, _, ([NF.str "_law_script", NF.str "_law_town", NF.str "_law_some"] : List PySem.Str)⟩ TR.fn__law_pick := defOk_mk F__law_pick sc__law_pick ck__law_pick rfl rfl
  have D__law_name : DefOk gi C K mg base ⟨("_law_name" : PySem.Str), f__law_name, _, ([NF.str "_law_script", NF.str "_law_town"] : List PySem.Str)⟩ TR.fn__law_name := defOk_mk F__law_name sc__law_name ck__law_name rfl rfl
  have D__law_deed : DefOk gi C K mg base ⟨("_law_deed" : PySem.Str), f__law_deed, _, ([NF.str "_law_script", NF.str "_law_town", NF.str "_law_rows", NF.str "_law_most"] : List PySem.Str)⟩ TR.fn__law_deed := defOk_mk F__law_deed sc__law_deed ck__law_deed rfl rfl
  have D__law_deeds : DefOk gi C K mg base ⟨("_law_deeds" : PySem.Str), f__law_deeds, _, ([NF.str "_law_script", NF.str "_law_town", NF.str "_law_count", NF.str "_law_most"] : List PySem.Str)⟩ TR.fn__law_deeds := defOk_mk F__law_deeds sc__law_deeds ck__law_deeds rfl rfl
  have D__law_there : DefOk gi C K mg base ⟨("_law_there" : PySem.Str), f__law_there, _, ([NF.str "_law_deeds_here"] : List PySem.Str)⟩ TR.fn__law_there := defOk_mk F__law_there sc__law_there ck__law_there rfl rfl
  have D__law_shown : DefOk gi C K mg base ⟨("_law_shown" : PySem.Str), f__law_shown, _, ([NF.str "_law_deeds_here"] : List PySem.Str)⟩ TR.fn__law_shown := defOk_mk F__law_shown sc__law_shown ck__law_shown rfl rfl
  have D__law_table : DefOk gi C K mg base ⟨("_law_table" : PySem.Str), f__law_table, _, ([NF.str "_law_deeds_here"] : List PySem.Str)⟩ TR.fn__law_table := defOk_mk F__law_table sc__law_table ck__law_table rfl rfl
  have D_law : DefOk gi C K mg base ⟨("law" : PySem.Str), fa, _, ([NF.str "_law_script"] : List PySem.Str)⟩ fn_law := defOk_mk F_law sc_law ck_law rfl rfl
  have TF : ∀ e ∈ fnTab, ∃ (fn : Fn) (fi : FI), Δ e.1 = some fn ∧ fi.name = NF.str e.1 ∧ fi.ps.length = e.2 ∧ DefOk gi C K mg base fi fn ∧ mg fi.name = some (.ref fi.addr) ∧ PySem.W.keepIn K (.ref fi.addr) = true ∧ Binds K fi.fd fi.ps [] := by
    exact List.forall_mem_cons.mpr ⟨⟨_, _, at_is_name, rfl, rfl, D_is_name, PySem.W.mg_of X G a_is_name, k_is_name, b_is_name⟩, List.forall_mem_cons.mpr ⟨⟨_, _, at_is_worth, rfl, rfl, D_is_worth, PySem.W.mg_of X G a_is_worth, k_is_worth, b_is_worth⟩, List.forall_mem_cons.mpr ⟨⟨_, _, at_is_key, rfl, rfl, D_is_key, PySem.W.mg_of X G a_is_key, k_is_key, b_is_key⟩, List.forall_mem_cons.mpr ⟨⟨_, _, at_is_deed, rfl, rfl, D_is_deed, PySem.W.mg_of X G a_is_deed, k_is_deed, b_is_deed⟩, List.forall_mem_cons.mpr ⟨⟨_, _, at_look_deeds, rfl, rfl, D_look_deeds, PySem.W.mg_of X G a_look_deeds, k_look_deeds, b_look_deeds⟩, List.forall_mem_cons.mpr ⟨⟨_, _, at_in_order, rfl, rfl, D_in_order, PySem.W.mg_of X G a_in_order, k_in_order, b_in_order⟩, List.forall_mem_cons.mpr ⟨⟨_, _, at_all_rows, rfl, rfl, D_all_rows, PySem.W.mg_of X G a_all_rows, k_all_rows, b_all_rows⟩, List.forall_mem_cons.mpr ⟨⟨_, _, at_there, rfl, rfl, D_there, PySem.W.mg_of X G a_there, k_there, b_there⟩, List.forall_mem_cons.mpr ⟨⟨_, _, at_named, rfl, rfl, D_named, PySem.W.mg_of X G a_named, k_named, b_named⟩, List.forall_mem_cons.mpr ⟨⟨_, _, at_table, rfl, rfl, D_table, PySem.W.mg_of X G a_table, k_table, b_table⟩, List.forall_mem_cons.mpr ⟨⟨_, _, at_fallen, rfl, rfl, D_fallen, PySem.W.mg_of X G a_fallen, k_fallen, b_fallen⟩, List.forall_mem_cons.mpr ⟨⟨_, _, at_squeezed, rfl, rfl, D_squeezed, PySem.W.mg_of X G a_squeezed, k_squeezed, b_squeezed⟩, List.forall_mem_cons.mpr ⟨⟨_, _, at__law_cell, rfl, rfl, D__law_cell, PySem.W.mg_of X G a__law_cell, k__law_cell, b__law_cell⟩, List.forall_mem_cons.mpr ⟨⟨_, _, at__law_mix, rfl, rfl, D__law_mix, PySem.W.mg_of X G a__law_mix, k__law_mix, b__law_mix⟩, List.forall_mem_cons.mpr ⟨⟨_, _, at__law_draw, rfl, rfl, D__law_draw, PySem.W.mg_of X G a__law_draw, k__law_draw, b__law_draw⟩, List.forall_mem_cons.mpr ⟨⟨_, _, at__law_pick, rfl, rfl, D__law_pick, PySem.W.mg_of X G a__law_pick, k__law_pick, b__law_pick⟩, List.forall_mem_cons.mpr ⟨⟨_, _, at__law_name, rfl, rfl, D__law_name, PySem.W.mg_of X G a__law_name, k__law_name, b__law_name⟩, List.forall_mem_cons.mpr ⟨⟨_, _, at__law_deed, rfl, rfl, D__law_deed, PySem.W.mg_of X G a__law_deed, k__law_deed, b__law_deed⟩, List.forall_mem_cons.mpr ⟨⟨_, _, at__law_deeds, rfl, rfl, D__law_deeds, PySem.W.mg_of X G a__law_deeds, k__law_deeds, b__law_deeds⟩, List.forall_mem_cons.mpr ⟨⟨_, _, at__law_there, rfl, rfl, D__law_there, PySem.W.mg_of X G a__law_there, k__law_there, b__law_there⟩, List.forall_mem_cons.mpr ⟨⟨_, _, at__law_shown, rfl, rfl, D__law_shown, PySem.W.mg_of X G a__law_shown, k__law_shown, b__law_shown⟩, List.forall_mem_cons.mpr ⟨⟨_, _, at__law_table, rfl, rfl, D__law_table, PySem.W.mg_of X G a__law_table, k__law_table, b__law_table⟩, List.forall_mem_cons.mpr ⟨⟨_, _, at_law, rfl, rfl, D_law, PySem.W.mg_of X G a_law, k_law, b_law⟩, fun _ hz => nomatch hz⟩⟩⟩⟩⟩⟩⟩⟩⟩⟩⟩⟩⟩⟩⟩⟩⟩⟩⟩⟩⟩⟩⟩
  have TM : ∀ e ∈ methTab, ∃ (fn : Fn) (fi : FI), Δ (e.1.1.dot e.1.2) = some fn ∧ fi.name = NF.str e.1.2 ∧ fi.ps.length = e.2 ∧ DefOk gi C K mg base fi fn ∧ Meth K (C.kad e.1.1) fi.name fi.addr ∧ Binds K fi.fd fi.ps [] ∧ Cls K (C.kad e.1.1) := by
    exact fun _ hz => nomatch hz
  have TK : ∀ e ∈ mkTab, ∃ (fn : Fn) (fi : FI), Δ (e.1.dot "__init__") = some fn ∧ fi.ps.length = e.2 ∧ DefOk gi C K mg base fi fn ∧ Mk K (C.kad e.1) fi.addr ∧ Binds K fi.fd fi.ps [] ∧ Cls K (C.kad e.1) ∧ (∀ f ∈ e.1.fields, NoAttr K (C.kad e.1) f) ∧ mg (NF.str e.1.name) = some (.ref (C.kad e.1)) := by
    exact List.forall_mem_cons.mpr ⟨⟨_, _, at_Row_init, rfl, D_Row_init, ⟨mk0, a_Row_init, i_Row_init, kc0⟩, b_Row_init, cl0, List.forall_mem_cons.mpr ⟨na0_0, List.forall_mem_cons.mpr ⟨na0_1, List.forall_mem_cons.mpr ⟨na0_2, List.forall_mem_cons.mpr ⟨na0_3, List.forall_mem_cons.mpr ⟨na0_4, fun _ hz => nomatch hz⟩⟩⟩⟩⟩, PySem.W.mg_of X G gC0⟩, fun _ hz => nomatch hz⟩
  have TX : ∀ e ∈ exTab, ∃ (bmB : List Value) (B newId initId : String), ExcBaseFacts B newId initId bmB ∧ PySem.W.excIn K (C.cad e) bmB newId = true ∧ mg (NF.str e.name) = some (.ref (C.cad e)) ∧ PySem.W.keepIn K (.ref (C.cad e)) = true ∧ PySem.W.subIn K (.ref (C.cad e)) (.type "BaseException") = some true ∧ PySem.W.typeIn K (.ref (C.cad e)) = some (.type "type") := by
    exact List.forall_mem_cons.mpr ⟨⟨_, _, _, _, PySem.F.excBase_ValueError, xX1, PySem.W.mg_of X G gX1, kX1, bX1, tX1⟩, fun _ hz => nomatch hz⟩
  have TC : ∀ e ∈ conTab, ∃ u, mg (NF.str e.1) = some u ∧ GlbV C e.2 u := by
    exact List.forall_mem_cons.mpr ⟨⟨_, PySem.W.mg_of X G con0, cov0⟩, List.forall_mem_cons.mpr ⟨⟨_, PySem.W.mg_of X G con1, cov1⟩, List.forall_mem_cons.mpr ⟨⟨_, PySem.W.mg_of X G con2, cov2⟩, List.forall_mem_cons.mpr ⟨⟨_, PySem.W.mg_of X G con3, cov3⟩, List.forall_mem_cons.mpr ⟨⟨_, PySem.W.mg_of X G con4, cov4⟩, List.forall_mem_cons.mpr ⟨⟨_, PySem.W.mg_of X G con5, ⟨a0, rfl, rfl⟩⟩, fun _ hz => nomatch hz⟩⟩⟩⟩⟩⟩
  have TB' : ∀ x ∈ bltNames, mg (NF.str x) = none := by
    exact List.forall_mem_cons.mpr ⟨PySem.W.mg_none_of X G blt0, List.forall_mem_cons.mpr ⟨PySem.W.mg_none_of X G blt1, List.forall_mem_cons.mpr ⟨PySem.W.mg_none_of X G blt2, List.forall_mem_cons.mpr ⟨PySem.W.mg_none_of X G blt3, List.forall_mem_cons.mpr ⟨PySem.W.mg_none_of X G blt4, List.forall_mem_cons.mpr ⟨PySem.W.mg_none_of X G blt5, List.forall_mem_cons.mpr ⟨PySem.W.mg_none_of X G blt6, List.forall_mem_cons.mpr ⟨PySem.W.mg_none_of X G blt7, List.forall_mem_cons.mpr ⟨PySem.W.mg_none_of X G blt8, List.forall_mem_cons.mpr ⟨PySem.W.mg_none_of X G blt9, List.forall_mem_cons.mpr ⟨PySem.W.mg_none_of X G blt10, List.forall_mem_cons.mpr ⟨PySem.W.mg_none_of X G blt11, List.forall_mem_cons.mpr ⟨PySem.W.mg_none_of X G blt12, List.forall_mem_cons.mpr ⟨PySem.W.mg_none_of X G blt13, fun _ hz => nomatch hz⟩⟩⟩⟩⟩⟩⟩⟩⟩⟩⟩⟩⟩⟩
  have T : TxtF gi Δ C w K mg base := { hw := rfl, fn := fun f n hq => TF (f, n) (find2_mem hq), meth := fun c m n hq => TM ((c, m), n) (find2_mem hq), mkn := fun c n hq => TK (c, n) (find2_mem hq), con := fun x d hq => TC (x, d) (by simpa [gi] using hq), blt := TB', ex := fun e hq => TX e (by simpa [gi] using hq) }
  exact law_fin (fi := ⟨("law" : PySem.Str), fa, _, ([NF.str "_law_script"] : List PySem.Str)⟩) T rfl hr at_law D_law rfl plain
end K12
end -- E12

section -- NfWp
set_option linter.all false
set_option autoImplicit false
/-! A calculus for the language's plain meaning: what holds of every answer. -/
namespace NF
theorem nrfl {α : Type} {a b : α} (h : a = b) : a = b := h
section
variable {α β : Type}
/-- an answer, not bad: Q of what is handed back, X of what is raised -/
def wp (m : M α) (S : Store) (Q : α → Store → Prop) (X : Ex → Store → Prop) : Prop := match m S with
  | .ok a S' => Q a S'
  | .exn c S' => X c S'
  | .bad => False
def wpS (m : SM) (S : Store) (Q : Fl → Store → Prop) (X : Ex → Env → Store → Prop) : Prop := match m S with
  | .ok f S' => Q f S'
  | .exn c ρ S' => X c ρ S'
  | .bad => False
abbrev noX : Ex → Store → Prop := fun _ _ => False
variable {S : Store} {Q : α → Store → Prop} {X : Ex → Store → Prop}
theorem wp_ret {a : α} : wp (ret a) S Q X = Q a S := nrfl rfl
theorem wp_bad : wp (bad : M α) S Q X = False := nrfl rfl
theorem wp_bnd {m : M β} {f : β → M α} : wp (bnd m f) S Q X = wp m S (fun a S' => wp (f a) S' Q X) X := by
  unfold wp bnd
  cases m S <;> rfl
theorem wp_orS {a : α} : wp (orBad (some a)) S Q X = Q a S := nrfl rfl
theorem wp_orN : wp (orBad (none : Option α)) S Q X = False := nrfl rfl
theorem wp_new {o : O} {Q : D → Store → Prop} : wp (new o) S Q X = Q (.ref S.length) (S ++ [o]) := nrfl rfl
theorem wp_put {n : Nat} {o : O} {Q : Unit → Store → Prop} : wp (put n o) S Q X = Q () (S.set n o) := nrfl rfl
theorem wp_obj {n : Nat} {o : O} {Q : O → Store → Prop} (h : S[n]? = some o) : wp (obj n) S Q X = Q o S := by
  unfold wp obj
  rw [h]
theorem wp_ite {c : Prop} [Decidable c] {m m' : M α} : wp (if c then m else m') S Q X = if c then wp m S Q X else wp m' S Q X := by split <;> rfl
theorem wp_mono {m : M α} {Q' : α → Store → Prop} {X' : Ex → Store → Prop} (h : wp m S Q X) (hq : ∀ a S', Q a S' → Q' a S') (hx : ∀ c S', X c S' → X' c S') : wp m S Q' X' := by
  unfold wp at *
  cases hm : m S with
  | ok a S' => rw [hm] at h; exact hq a S' h
  | exn c S' => rw [hm] at h; exact hx c S' h
  | bad => rw [hm] at h; exact h
theorem wp_imp {m : M α} {Q' : α → Store → Prop} (h : wp m S Q noX) (hq : ∀ a S', Q a S' → Q' a S') : wp m S Q' X := wp_mono h hq fun _ _ z => z.elim
theorem wp_ok {m : M α} {a : α} {S' : Store} (h : m S = .ok a S') : wp m S Q X = Q a S' := by
  unfold wp
  rw [h]
theorem of_wp {m : M α} (h : wp m S Q noX) : ∃ a S', m S = .ok a S' ∧ Q a S' := by
  unfold wp at h
  cases hm : m S with
  | ok a S' => rw [hm] at h; exact ⟨a, S', rfl, h⟩
  | exn c S' => rw [hm] at h; exact h.elim
  | bad => rw [hm] at h; exact h.elim
theorem wp_noExn {m : M α} : wp (noExn m) S Q X = wp m S Q noX := by
  unfold wp noExn
  cases m S <;> rfl
theorem wp_fun {f : Store → Res α} : wp (fun S => f S) S Q X = match f S with | .ok a S' => Q a S' | .exn c S' => X c S' | .bad => False := nrfl rfl
variable {QS : Fl → Store → Prop} {XS : Ex → Env → Store → Prop}
theorem wpS_lift {m : M α} {ρ : Env} {k : α → SM} : wpS (liftM m ρ k) S QS XS = wp m S (fun a S' => wpS (k a) S' QS XS) (fun c S' => XS c ρ S') := by
  unfold wpS wp liftM
  cases m S <;> rfl
theorem wpS_sret {f : Fl} : wpS (sret f) S QS XS = QS f S := rfl
theorem wpS_bad : wpS sbad S QS XS = False := rfl
theorem wpS_seq {m : SM} {k : Env → SM} : wpS (seq m k) S QS XS = wpS m S (fun f S' => match f with | .nx ρ => wpS (k ρ) S' QS XS | f => QS f S') XS := by
  unfold wpS seq
  cases m S with
  | ok f S' => cases f <;> rfl
  | exn c ρ S' => rfl
  | bad => rfl
theorem wpS_ite {c : Prop} [Decidable c] {m m' : SM} : wpS (if c then m else m') S QS XS = if c then wpS m S QS XS else wpS m' S QS XS := by split <;> rfl
theorem wpS_mono {m : SM} {QS' : Fl → Store → Prop} {XS' : Ex → Env → Store → Prop} (h : wpS m S QS XS) (hq : ∀ a S', QS a S' → QS' a S') (hx : ∀ c ρ S', XS c ρ S' → XS' c ρ S') : wpS m S QS' XS' := by
  unfold wpS at *
  cases hm : m S with
  | ok a S' => rw [hm] at h; exact hq a S' h
  | exn c ρ S' => rw [hm] at h; exact hx c ρ S' h
  | bad => rw [hm] at h; exact h
theorem wpS_raise {c : Ex} {ρ : Env} : wpS (fun S => SR.exn c ρ S) S QS XS = XS c ρ S := rfl
end
/-! ### calls -/
section
variable {Δ : String → Option Fn} {S : Store} {Q : D → Store → Prop} {X : Ex → Store → Prop}
theorem wp_run {cl : Or} {fn : Fn} {ds : List D} (h : ds.length = fn.ps) : wp (fn.run cl ds) S Q X = wpS (semSs cl fn.body (ds.map some ++ List.replicate (fn.ns - fn.ps) none)) S (fun f S' => match f with | .rt d => Q d S' | .nx _ => Q .non S' | .ct _ => False) (fun c _ S' => X c S') := by
  unfold wp wpS Fn.run
  rw [if_pos h]
  cases hm : semSs cl fn.body (ds.map some ++ List.replicate (fn.ns - fn.ps) none) S with
  | ok f S' => cases f <;> rfl
  | exn c ρ S' => rfl
  | bad => rfl
theorem wp_call {k : Nat} {f : String} {fn : Fn} {ds : List D} (hd : Δ f = some fn) (h : ds.length = fn.ps) : wp (callF Δ (k + 1) f ds) S Q X = wpS (semSs (callF Δ k) fn.body (ds.map some ++ List.replicate (fn.ns - fn.ps) none)) S (fun f S' => match f with | .rt d => Q d S' | .nx _ => Q .non S' | .ct _ => False) (fun c _ S' => X c S') := by
  rw [← wp_run h]
  simp only [callF, hd]
end
/-! ### what stays of a store -/
/-- S' is S but for what stands in W, and for what is new -/
def Sub (W : List Nat) (S S' : Store) : Prop := S.length ≤ S'.length ∧ ∀ n, n < S.length → n ∉ W → S'[n]? = S[n]?
section
variable {W V : List Nat} {S S1 S2 : Store} {n : Nat} {o : O}
theorem Sub.refl (W : List Nat) (S : Store) : Sub W S S := ⟨Nat.le_refl _, fun _ _ _ => rfl⟩
theorem Sub.get (h : Sub W S S1) (e : S[n]? = some o) (hn : n ∉ W) : S1[n]? = some o := by
  rw [h.2 n (List.getElem?_eq_some_iff.mp e).1 hn]
  exact e
theorem Sub.get0 (h : Sub [] S S1) (e : S[n]? = some o) : S1[n]? = some o := h.get e (by simp)
theorem Sub.trans (a : Sub W S S1) (b : Sub W S1 S2) : Sub W S S2 := ⟨Nat.le_trans a.1 b.1, fun n h hn => by rw [b.2 n (Nat.lt_of_lt_of_le h a.1) hn, a.2 n h hn]⟩
theorem Sub.mono (a : Sub W S S1) (h : ∀ n, n ∈ W → n ∈ V) : Sub V S S1 := ⟨a.1, fun n hn hm => a.2 n hn fun z => hm (h n z)⟩
theorem Sub.any (a : Sub [] S S1) : Sub W S S1 := a.mono fun _ h => by cases h
theorem Sub.app (S T : Store) : Sub W S (S ++ T) := ⟨by simp, fun n h _ => List.getElem?_append_left h⟩
theorem Sub.put (h : n ∈ W ∨ S.length ≤ n) (o : O) : Sub W S (S.set n o) := ⟨by simp, fun m hm hW => by
  rw [List.getElem?_set_ne]
  rintro rfl
  rcases h with h | h
  · exact hW h
  · omega⟩
/-- a new object may be written -/
theorem Sub.putNew (a : Sub W S S1) (h : S.length ≤ n) (o : O) : Sub W S (S1.set n o) := ⟨by rw [List.length_set]; exact a.1, fun m hm hW => by
  rw [List.getElem?_set_ne (by omega), a.2 m hm hW]⟩
theorem Sub.putIn (a : Sub W S S1) (h : n ∈ W) (o : O) : Sub W S (S1.set n o) := ⟨by rw [List.length_set]; exact a.1, fun m hm hW => by
  rw [List.getElem?_set_ne (by rintro rfl; exact hW h), a.2 m hm hW]⟩
theorem get_new (S : Store) (o : O) : (S ++ [o])[S.length]? = some o := by simp
theorem get_set (h : n < S.length) (o : O) : (S.set n o)[n]? = some o := by simp [h]
theorem get_lt (h : S[n]? = some o) : n < S.length := (List.getElem?_eq_some_iff.mp h).1
end
/-! ### lists -/
section
variable {S : Store} {n : Nat} {ds : List D} {X : Ex → Store → Prop}
/-- a list stands at n -/
def LstAt (S : Store) (n : Nat) (ds : List D) : Prop := S[n]? = some (.lst ds) ∨ S[n]? = some (.rol ds)
theorem wp_lst {Q : List D → Store → Prop} (h : LstAt S n ds) : wp (lstOf (.ref n)) S Q X = Q ds S := by
  unfold lstOf
  rcases h with h | h <;> rw [wp_bnd, wp_obj h, wp_ret]
theorem wp_lst1 {Q : List D → Store → Prop} (h : S[n]? = some (.lst ds)) : wp (lstOf (.ref n)) S Q X = Q ds S := wp_lst (.inl h)
theorem LstAt.sub {W : List Nat} {S' : Store} (h : LstAt S n ds) (s : Sub W S S') (hn : n ∉ W) : LstAt S' n ds := h.elim (fun h => .inl (s.get h hn)) fun h => .inr (s.get h hn)
theorem LstAt.lt (h : LstAt S n ds) : n < S.length := h.elim get_lt get_lt
theorem wp_mlst {Q : Nat × List D → Store → Prop} (h : S[n]? = some (.lst ds)) : wp (mlst (.ref n)) S Q X = Q (n, ds) S := by
  unfold mlst
  rw [wp_bnd, wp_obj h, wp_ret]
/-- what is walked stands still -/
def Stil (wk : Wk) (S : Store) : Prop := match wk with
  | .lst n ds => LstAt S n ds
  | _ => True
theorem wp_still {wk : Wk} {Q : Unit → Store → Prop} (h : Stil wk S) : wp wk.still S Q X = Q () S := by
  cases wk with
  | lst n ds =>
    unfold Wk.still
    rw [wp_bnd, wp_lst h, if_pos rfl, wp_ret]
  | fix ds => rfl
  | dict n kvs ds => rfl
/-! ### loops -/
theorem wpS_loop {m : SM} {k : Env → SM} {S : Store} {Q : Fl → Store → Prop} {X : Ex → Env → Store → Prop} (h : wpS m S (fun f S' => match f with | .nx ρ' => wpS (k ρ') S' Q X | .ct ρ' => wpS (k ρ') S' Q X | .rt d => Q (.rt d) S') X) :
    wpS (fun S => match m S with
    | .ok (.nx ρ') S' => k ρ' S'
    | .ok (.ct ρ') S' => k ρ' S'
    | .ok (.rt d) S' => .ok (.rt d) S'
    | .exn c ρ' S' => .exn c ρ' S'
    | .bad => .bad) S Q X := by
  unfold wpS at *
  cases hm : m S with
  | ok f S' => rw [hm] at h; cases f <;> simpa [hm] using h
  | exn c ρ' S' => rw [hm] at h; simpa [hm] using h
  | bad => rw [hm] at h; exact h.elim
theorem wpS_for {wk : Wk} {body : D → Env → SM} {full : List D} {ρ : Env} {Q : Fl → Store → Prop} {XS : Ex → Env → Store → Prop} (I : List D → Env → Store → Prop) (h0 : I [] ρ S) (still : ∀ done ρ S, I done ρ S → Stil wk S)
    (step : ∀ done x rest ρ S, full = done ++ x :: rest → I done ρ S → wpS (body x ρ) S (fun f S' => match f with | .nx ρ' => I (done ++ [x]) ρ' S' | .ct ρ' => I (done ++ [x]) ρ' S' | .rt d => Q (.rt d) S') XS) (fin : ∀ ρ S, I full ρ S → Q (.nx ρ) S) :
    wpS (forL wk body full ρ) S Q XS := by
  have key : ∀ (rest done : List D) (ρ : Env) (S : Store), full = done ++ rest → I done ρ S → wpS (forL wk body rest ρ) S Q XS := by
    intro rest
    induction rest with
    | nil =>
      intro done ρ S e h
      unfold forL
      rw [wpS_lift, wp_still (still done ρ S h), wpS_sret]
      rw [List.append_nil] at e
      exact fin ρ S (e ▸ h)
    | cons x rest ih =>
      intro done ρ S e h
      unfold forL
      rw [wpS_lift, wp_still (still done ρ S h)]
      refine wpS_loop (k := forL wk body rest) (wpS_mono (step done x rest ρ S e h) (fun f S' st => ?_) fun _ _ _ z => z)
      cases f with
      | nx ρ' => exact ih (done ++ [x]) ρ' S' (by rw [e]; simp) st
      | ct ρ' => exact ih (done ++ [x]) ρ' S' (by rw [e]; simp) st
      | rt d => exact st
  exact key full [] ρ S rfl h0
theorem wp_collect {wk : Wk} {turn : D → M (Option D)} {full : List D} {Q : List D → Store → Prop} (I : List D → List D → Store → Prop) (h0 : I [] [] S) (still : ∀ done out S, I done out S → Stil wk S)
    (step : ∀ done x rest out S, full = done ++ x :: rest → I done out S → wp (turn x) S (fun o S' => I (done ++ [x]) (out ++ o.toList) S') X) (fin : ∀ out S, I full out S → Q out S) : wp (collect wk turn full) S Q X := by
  have key : ∀ (rest done out : List D) (S : Store), full = done ++ rest → I done out S → wp (collect wk turn rest) S (fun ds S' => Q (out ++ ds) S') X := by
    intro rest
    induction rest with
    | nil =>
      intro done out S e h
      unfold collect
      rw [wp_bnd, wp_still (still done out S h), wp_ret, List.append_nil]
      rw [List.append_nil] at e
      exact fin out S (e ▸ h)
    | cons x rest ih =>
      intro done out S e h
      unfold collect
      rw [wp_bnd, wp_still (still done out S h), wp_bnd]
      refine wp_mono (step done x rest out S e h) (fun o S' h' => ?_) fun _ _ z => z
      rw [wp_bnd]
      refine wp_mono (ih (done ++ [x]) (out ++ o.toList) S' (by rw [e]; simp) h') (fun ds S2 q => ?_) fun _ _ z => z
      rw [wp_ret]
      cases o with
      | none => simpa using q
      | some d => simpa using q
  have := key full [] [] S rfl h0
  simpa using this
/-- a comprehension whose turns keep J and hand back f -/
theorem wp_gather {wk : Wk} {turn : D → M (Option D)} {full : List D} {Q : List D → Store → Prop} (J : Store → Prop) (f : D → Option D) (h0 : J S) (still : ∀ S, J S → Stil wk S)
    (step : ∀ x S, x ∈ full → J S → wp (turn x) S (fun o S' => o = f x ∧ J S') X) (fin : ∀ S, J S → Q (full.filterMap f) S) : wp (collect wk turn full) S Q X := by
  refine wp_collect (fun done out S => out = done.filterMap f ∧ J S) ⟨rfl, h0⟩ (fun _ _ S h => still S h.2) (fun done x rest out S e h => ?_) fun out S h => by rw [h.1]; exact fin S h.2
  refine wp_mono (step x S (by rw [e]; simp) h.2) (fun o S' h' => ⟨?_, h'.2⟩) fun _ _ z => z
  rw [List.filterMap_append, h.1, h'.1]
  cases hf : f x <;> simp [hf]
theorem wpS_whl {c : Env → M Bool} {body : Env → SM} {n : Nat} {ρ : Env} {Q : Fl → Store → Prop} {XS : Ex → Env → Store → Prop} (I : Nat → Env → Store → Prop) (m : Nat) (hm : m < n) (h0 : I m ρ S)
    (step : ∀ j ρ S, I j ρ S → wp (c ρ) S (fun b S' => if b then 0 < j ∧ wpS (body ρ) S' (fun f S2 => match f with | .nx ρ' => ∃ i, i < j ∧ I i ρ' S2 | .ct ρ' => ∃ i, i < j ∧ I i ρ' S2 | .rt d => Q (.rt d) S2) XS else Q (.nx ρ) S') (fun e S' => XS e ρ S')) :
    wpS (whlL c body n ρ) S Q XS := by
  induction n generalizing m ρ S with
  | zero => omega
  | succ n ih =>
    unfold whlL
    rw [wpS_lift]
    refine wp_mono (step m ρ S h0) (fun b S' h => ?_) fun _ _ z => z
    cases b with
    | false => exact h
    | true =>
      simp only [if_true] at h ⊢
      obtain ⟨hj, h⟩ := h
      refine wpS_loop (k := whlL c body n) (wpS_mono h (fun f S2 h => ?_) fun _ _ _ z => z)
      cases f with
      | nx ρ' => obtain ⟨i, hi, h⟩ := h; exact ih i (by omega) h
      | ct ρ' => obtain ⟨i, hi, h⟩ := h; exact ih i (by omega) h
      | rt d => exact h
end
end NF
end -- NfWp

section -- NfWp2
set_option linter.all false
set_option autoImplicit false
set_option maxRecDepth 10000
/-! The calculus, construct by construct. -/
namespace NF
theorem wp_congr {α : Type} {m m' : M α} {S : Store} {Q : α → Store → Prop} {X : Ex → Store → Prop} (h : m = m') : wp m S Q X = wp m' S Q X := by rw [h]
theorem wpS_congr {m m' : SM} {S : Store} {Q : Fl → Store → Prop} {X : Ex → Env → Store → Prop} (h : m = m') : wpS m S Q X = wpS m' S Q X := by rw [h]
theorem bnd_congr {α β : Type} {m m' : M α} {f : α → M β} (h : m = m') : bnd m f = bnd m' f := by rw [h]
theorem bnd_ret {α β : Type} (a : α) (f : α → M β) : bnd (ret a) f = f a := nrfl rfl
section
variable {cl : Or} {ρ : Env} {S : Store} {Q : D → Store → Prop} {X : Ex → Store → Prop}
theorem we_var {i : Nat} : wp (semE cl (.var i) ρ) S Q X = wp (orBad (ρ[i]?.join)) S Q X := by simp only [semE]
theorem we_int {i : Int} : wp (semE cl (.int i) ρ) S Q X = Q (.int i) S := by simp only [semE, wp_ret]
theorem we_str {x : List Nat} : wp (semE cl (.str x) ρ) S Q X = Q (.str x) S := by simp only [semE, wp_ret]
theorem we_bl {b : Bool} : wp (semE cl (.bl b) ρ) S Q X = Q (.bl b) S := by simp only [semE, wp_ret]
theorem we_non : wp (semE cl .non ρ) S Q X = Q .non S := by simp only [semE, wp_ret]
theorem we_neg {i : Int} : wp (semE cl (.neg i) ρ) S Q X = Q (.int (-i)) S := by simp only [semE, wp_ret]
theorem we_glb {x : String} {d : D} : wp (semE cl (.glb x d) ρ) S Q X = Q d S := by simp only [semE, wp_ret]
theorem we_tup {es : List E} : wp (semE cl (.tup es) ρ) S Q X = wp (semEs cl es ρ) S (fun ds S' => Q (.tup ds) S') X := by simp only [semE, wp_bnd, wp_ret]
theorem we_lst {es : List E} : wp (semE cl (.lst es) ρ) S Q X = wp (semEs cl es ρ) S (fun ds S' => Q (.ref S'.length) (S' ++ [.lst ds])) X := by simp only [semE, wp_bnd, wp_new]
theorem we_dctT : wp (semE cl .dctT ρ) S Q X = Q (.ref S.length) (S ++ [.dct []]) := by simp only [semE, wp_new]
theorem we_dctK : wp (semE cl .dctK ρ) S Q X = Q (.ref S.length) (S ++ [.dck []]) := by simp only [semE, wp_new]
theorem we_bin {op : Bop} {a b : E} : wp (semE cl (.bin op a b) ρ) S Q X = wp (semE cl a ρ) S (fun x S1 => wp (semE cl b ρ) S1 (fun y S2 => wp (binD op x y) S2 Q X) X) X := by simp only [semE, wp_bnd]
theorem we_cmp {op : Cop} {a b : E} : wp (semE cl (.cmp op a b) ρ) S Q X = wp (semE cl a ρ) S (fun x S1 => wp (semE cl b ρ) S1 (fun y S2 => wp (cmpM op x y) S2 Q X) X) X := by simp only [semE, wp_bnd]
/-- a truth decides -/
def ifB (d : D) (p q : Prop) : Prop := match d with
  | .bl true => p
  | .bl false => q
  | _ => False
theorem ifB_bl {b : Bool} {p q : Prop} : ifB (.bl b) p q = if b = true then p else q := by cases b <;> simp [ifB]
theorem we_chain {o p : Cop} {a b c : E} : wp (semE cl (.chain o p a b c) ρ) S Q X = wp (semE cl a ρ) S (fun x S1 => wp (semE cl b ρ) S1 (fun y S2 => wp (cmpM o x y) S2 (fun d S3 => ifB d (wp (semE cl c ρ) S3 (fun z S4 => wp (cmpM p y z) S4 Q X) X) (Q (.bl false) S3)) X) X) X := by
  simp only [semE, wp_bnd]
  congr 1; funext x S1; congr 1; funext y S2; congr 1; funext d S3
  unfold ifB
  split <;> simp only [wp_bnd, wp_ret, wp_bad]
theorem we_isn {neg : Bool} {a : E} : wp (semE cl (.isn neg a) ρ) S Q X = wp (semE cl a ρ) S (fun x S1 => Q (.bl (if neg then !isN x else isN x)) S1) X := by simp only [semE, wp_bnd, wp_ret]
theorem we_andv {es : List E} : wp (semE cl (.andv es) ρ) S Q X = wp (semAnd cl es ρ) S Q X := by simp only [semE]
theorem we_orv {es : List E} : wp (semE cl (.orv es) ρ) S Q X = wp (semOr cl es ρ) S Q X := by simp only [semE]
theorem wand1 {e : E} : wp (semAnd cl [e] ρ) S Q X = wp (semE cl e ρ) S Q X := by simp only [semAnd]
theorem wand2 {e f : E} {es : List E} : wp (semAnd cl (e :: f :: es) ρ) S Q X = wp (semE cl e ρ) S (fun d S1 => ifB d (wp (semAnd cl (f :: es) ρ) S1 Q X) (Q (.bl false) S1)) X := by
  simp only [semAnd, wp_bnd]
  congr 1; funext d S1
  unfold ifB
  split <;> simp only [wp_ret, wp_bad]
theorem wor1 {e : E} : wp (semOr cl [e] ρ) S Q X = wp (semE cl e ρ) S Q X := by simp only [semOr]
theorem wor2 {e f : E} {es : List E} : wp (semOr cl (e :: f :: es) ρ) S Q X = wp (semE cl e ρ) S (fun d S1 => ifB d (Q (.bl true) S1) (wp (semOr cl (f :: es) ρ) S1 Q X)) X := by
  simp only [semOr, wp_bnd]
  congr 1; funext d S1
  unfold ifB
  split <;> split <;> simp_all [wp_ret, wp_bad]
theorem we_notv {a : E} : wp (semE cl (.notv a) ρ) S Q X = wp (semE cl a ρ) S (fun d S1 => ifB d (Q (.bl false) S1) (Q (.bl true) S1)) X := by
  simp only [semE, wp_bnd]
  congr 1; funext d S1
  unfold ifB
  split <;> split <;> simp_all [wp_ret, wp_bad]
theorem we_ife {c : T} {a b : E} : wp (semE cl (.ife c a b) ρ) S Q X = wp (semT cl c ρ) S (fun k S1 => if k = true then wp (semE cl a ρ) S1 Q X else wp (semE cl b ρ) S1 Q X) X := by simp only [semE, wp_bnd, wp_ite]
theorem we_idx {a b : E} : wp (semE cl (.idx a b) ρ) S Q X = wp (semE cl a ρ) S (fun x S1 => wp (semE cl b ρ) S1 (fun y S2 => wp (idxM x y) S2 Q X) X) X := by simp only [semE, wp_bnd]
theorem we_dix {a b : E} : wp (semE cl (.dix a b) ρ) S Q X = wp (semE cl a ρ) S (fun x S1 => wp (semE cl b ρ) S1 (fun y S2 => wp (dixM x y) S2 Q X) X) X := by simp only [semE, wp_bnd]
theorem we_slc {a : E} {lo hi : Option E} : wp (semE cl (.slc a lo hi) ρ) S Q X = wp (semE cl a ρ) S (fun x S1 => wp (semO cl lo ρ) S1 (fun l S2 => wp (semO cl hi ρ) S2 (fun h S3 => wp (slcM x l h) S3 Q X) X) X) X := by simp only [semE, wp_bnd]
theorem wo_none {Q : Option Int → Store → Prop} : wp (semO cl none ρ) S Q X = Q none S := by simp only [semO, wp_ret]
theorem wo_some {e : E} {Q : Option Int → Store → Prop} : wp (semO cl (some e) ρ) S Q X = wp (semE cl e ρ) S (fun d S1 => wp (intO (some d)) S1 Q X) X := by simp only [semO, wp_bnd]
theorem we_rev {a : E} : wp (semE cl (.rev a) ρ) S Q X = wp (semE cl a ρ) S (fun x S1 => wp (lstOf x) S1 (fun ds S2 => Q (.ref S2.length) (S2 ++ [.lst ds.reverse])) X) X := by simp only [semE, wp_bnd, wp_new]
theorem we_att {c : Cl} {i : Nat} {a : E} : wp (semE cl (.att c i a) ρ) S Q X = wp (semE cl a ρ) S (fun x S1 => wp (insOf c x) S1 (fun p S2 => wp (orBad (p.2[i]?)) S2 Q X) X) X := by simp only [semE, wp_bnd]
theorem we_call {f : String} {es : List E} : wp (semE cl (.call f es) ρ) S Q X = wp (semEs cl es ρ) S (fun ds S1 => wp (cl f ds) S1 Q X) X := by simp only [semE, wp_bnd]
theorem we_mk {c : Cl} {es : List E} : wp (semE cl (.mk c es) ρ) S Q X = wp (semEs cl es ρ) S (fun ds S1 => wp (cl (c.dot "__init__") (.ref S1.length :: ds)) (S1 ++ [.ins c []]) (fun r S2 => if isN r = true then Q (.ref S1.length) S2 else False) X) X := by
  simp only [semE, wp_bnd, wp_new, wp_ite, wp_ret, wp_bad]
theorem we_meth {c : Cl} {m : String} {a : E} {es : List E} : wp (semE cl (.meth c m a es) ρ) S Q X = wp (semE cl a ρ) S (fun x S1 => wp (insOf c x) S1 (fun _ S2 => wp (semEs cl es ρ) S2 (fun ds S3 => wp (cl (c.dot m) (x :: ds)) S3 Q X) X) X) X := by simp only [semE, wp_bnd]
theorem we_bi {b : Bi} {es : List E} : wp (semE cl (.bi b es) ρ) S Q X = wp (semEs cl es ρ) S (fun ds S1 => wp (biM b ds) S1 Q X) X := by simp only [semE, wp_bnd]
theorem we_bm {m : Bm} {a : E} {es : List E} : wp (semE cl (.bm m a es) ρ) S Q X = wp (semE cl a ρ) S (fun x S1 => wp (bmTy m x) S1 (fun _ S2 => wp (semEs cl es ρ) S2 (fun ds S3 => wp (bmM m x ds) S3 Q X) X) X) X := by simp only [semE, wp_bnd]
theorem we_lenset {a : E} : wp (semE cl (.lenset a) ρ) S Q X = wp (semE cl a ρ) S (fun x S1 => wp (lstOf x) S1 (fun ds S2 => if setOk ds = true then Q (.int (dedup ds).length) S2 else False) X) X := by simp only [semE, wp_bnd, wp_ite, wp_ret, wp_bad]
theorem we_sortset {a : E} : wp (semE cl (.sortset a) ρ) S Q X = wp (semE cl a ρ) S (fun x S1 => wp (lstOf x) S1 (fun ds S2 => if setOk ds = true then wp (sortM ds) S2 (fun es S3 => Q (.ref S3.length) (S3 ++ [.lst (dedup es)])) X else False) X) X := by simp only [semE, wp_bnd, wp_ite, wp_new, wp_bad]
theorem we_sortk {p : Nat} {a body : E} : wp (semE cl (.sortk p a body) ρ) S Q X = wp (semE cl a ρ) S (fun x S1 => wp (lstOf x) S1 (fun ds S2 => wp (sortKM (fun d => semE cl body [some d]) ds) S2 Q X) X) X := by simp only [semE, wp_bnd]
theorem we_sortf {f : String} {a : E} : wp (semE cl (.sortf f a) ρ) S Q X = wp (semE cl a ρ) S (fun x S1 => wp (lstOf x) S1 (fun ds S2 => wp (sortKM (fun d => cl f [d]) ds) S2 Q X) X) X := by simp only [semE, wp_bnd]
theorem we_isTy {a : E} {t : Ty} : wp (semE cl (.isTy a t) ρ) S Q X = wp (semE cl a ρ) S (fun x S1 => wp (isTyD x t) S1 (fun b S2 => Q (.bl b) S2) X) X := by simp only [semE, wp_bnd, wp_ret]
theorem we_isEx {a : E} {c : Ex} : wp (semE cl (.isEx a c) ρ) S Q X = wp (semE cl a ρ) S (fun x S1 => wp (isExD x c) S1 (fun b S2 => Q (.bl b) S2) X) X := by simp only [semE, wp_bnd, wp_ret]
/-- the dict of pairs at n -/
theorem wp_dct {α : Type} {n : Nat} {kvs : List ((Int × Int) × D)} {f : O → M α} {Q : α → Store → Prop} (h : S[n]? = some (.dct kvs)) : wp (bnd (obj n) f) S Q X = wp (f (.dct kvs)) S Q X := by rw [wp_bnd, wp_obj h]
def skM (x : D) : M D := match x with
    | .ref n => bnd (obj n) fun o => match o with
      | .dct kvs => bnd (sortM (kvs.map fun kv => pairD kv.1)) fun es => new (.lst es)
      | _ => bad
    | _ => bad
def lkM (x : D) : M D := match x with
    | .ref n => bnd (obj n) fun o => match o with
      | .dct kvs => new (.lst (kvs.map fun kv => pairD kv.1))
      | _ => bad
    | _ => bad
theorem we_sortkeys {a : E} : wp (semE cl (.sortkeys a) ρ) S Q X = wp (semE cl a ρ) S (fun x S1 => wp (skM x) S1 Q X) X := by
  have e : semE cl (.sortkeys a) ρ = bnd (semE cl a ρ) skM := by simp only [semE]; rfl
  rw [e, wp_bnd]
theorem we_listkeys {a : E} : wp (semE cl (.listkeys a) ρ) S Q X = wp (semE cl a ρ) S (fun x S1 => wp (lkM x) S1 Q X) X := by
  have e : semE cl (.listkeys a) ρ = bnd (semE cl a ρ) lkM := by simp only [semE]; rfl
  rw [e, wp_bnd]
theorem wp_skM {n : Nat} {kvs : List ((Int × Int) × D)} (h : S[n]? = some (.dct kvs)) : wp (skM (.ref n)) S Q X = wp (sortM (kvs.map fun kv => pairD kv.1)) S (fun es S1 => Q (.ref S1.length) (S1 ++ [.lst es])) X := by
  unfold skM
  rw [wp_dct h, wp_bnd]
  simp only [wp_new]
theorem wp_lkM {n : Nat} {kvs : List ((Int × Int) × D)} (h : S[n]? = some (.dct kvs)) : wp (lkM (.ref n)) S Q X = Q (.ref S.length) (S ++ [.lst (kvs.map fun kv => pairD kv.1)]) := by
  unfold lkM
  rw [wp_dct h, wp_new]
/-- a turn of a comprehension -/
def turnE (cl : Or) (elt : E) (tg : Tg) (cond : Option T) (ρ : Env) (d : D) : M (Option D) := noExn (bnd (tg.bind d ρ) fun ρ' => bnd (semC cl cond ρ') fun b => if b then bnd (semE cl elt ρ') fun y => ret (some y) else ret none)
theorem we_lc {elt : E} {tg : Tg} {k : Ik} {its : List E} {cond : Option T} {own : List Nat} : wp (semE cl (.lc elt tg k its cond own) ρ) S Q X = wp (semEs cl its ρ) S (fun vs S1 => wp (wkOf k vs) S1 (fun wk S2 => wp (collect wk (turnE cl elt tg cond (wipeE ρ own)) wk.items) S2 (fun ds S3 => wp wk.leave S3 (fun _ S4 => if ds.length ≤ line then Q (.ref S4.length) (S4 ++ [.lst ds]) else False) X) X) X) X := by
  simp only [semE, wp_bnd, wp_ite, wp_new, wp_bad]
  rfl
theorem w_turn {elt : E} {tg : Tg} {cond : Option T} {d : D} {Q : Option D → Store → Prop} : wp (turnE cl elt tg cond ρ d) S Q X = wp (tg.bind d ρ) S (fun ρ' S1 => wp (semC cl cond ρ') S1 (fun b S2 => if b = true then wp (semE cl elt ρ') S2 (fun y S3 => Q (some y) S3) noX else Q none S2) noX) noX := by
  unfold turnE
  rw [wp_noExn]
  simp only [wp_bnd, wp_ite, wp_ret]
theorem wes_nil {Q : List D → Store → Prop} : wp (semEs cl [] ρ) S Q X = Q [] S := by simp only [semEs, wp_ret]
theorem wes_cons {e : E} {es : List E} {Q : List D → Store → Prop} : wp (semEs cl (e :: es) ρ) S Q X = wp (semE cl e ρ) S (fun d S1 => wp (semEs cl es ρ) S1 (fun ds S2 => Q (d :: ds) S2) X) X := by simp only [semEs, wp_bnd, wp_ret]
theorem wc_none {Q : Bool → Store → Prop} : wp (semC cl none ρ) S Q X = Q true S := by simp only [semC, wp_ret]
theorem wc_some {t : T} {Q : Bool → Store → Prop} : wp (semC cl (some t) ρ) S Q X = wp (semT cl t ρ) S Q X := by simp only [semC]
theorem wb_nm {i : Nat} {d : D} {Q : Env → Store → Prop} : wp (Tg.bind (.nm i) d ρ) S Q X = Q (ρ.set i (some d)) S := nrfl rfl
theorem wb_tup {is : List Nat} {ds : List D} {Q : Env → Store → Prop} (h : ds.length = is.length) : wp (Tg.bind (.tup is) (.tup ds) ρ) S Q X = Q (setAll is ds ρ) S := by
  unfold Tg.bind
  simp only [if_pos h, wp_ret]
section
variable {Q : Bool → Store → Prop}
theorem wt_ex {e : E} : wp (semT cl (.ex e) ρ) S Q X = wp (semE cl e ρ) S (fun d S1 => wp (truthM d) S1 Q X) X := by simp only [semT, wp_bnd]
theorem wt_not {t : T} : wp (semT cl (.not t) ρ) S Q X = wp (semT cl t ρ) S (fun b S1 => Q (!b) S1) X := by simp only [semT, wp_bnd, wp_ret]
theorem wt_and {ts : List T} : wp (semT cl (.and ts) ρ) S Q X = wp (semTAnd cl ts ρ) S Q X := by simp only [semT]
theorem wt_or {ts : List T} : wp (semT cl (.or ts) ρ) S Q X = wp (semTOr cl ts ρ) S Q X := by simp only [semT]
theorem wt_ife {c a b : T} : wp (semT cl (.ife c a b) ρ) S Q X = wp (semT cl c ρ) S (fun k S1 => if k = true then wp (semT cl a ρ) S1 Q X else wp (semT cl b ρ) S1 Q X) X := by simp only [semT, wp_bnd, wp_ite]
theorem wtand_nil : wp (semTAnd cl [] ρ) S Q X = Q true S := by simp only [semTAnd, wp_ret]
theorem wtand_cons {t : T} {ts : List T} : wp (semTAnd cl (t :: ts) ρ) S Q X = wp (semT cl t ρ) S (fun b S1 => if b = true then wp (semTAnd cl ts ρ) S1 Q X else Q false S1) X := by simp only [semTAnd, wp_bnd, wp_ite, wp_ret]
theorem wtor_nil : wp (semTOr cl [] ρ) S Q X = Q false S := by simp only [semTOr, wp_ret]
theorem wtor_cons {t : T} {ts : List T} : wp (semTOr cl (t :: ts) ρ) S Q X = wp (semT cl t ρ) S (fun b S1 => if b = true then Q true S1 else wp (semTOr cl ts ρ) S1 Q X) X := by simp only [semTOr, wp_bnd, wp_ite, wp_ret]
theorem wtr_bl {b : Bool} : wp (truthM (.bl b)) S Q X = Q b S := nrfl rfl
theorem wtr_int {i : Int} : wp (truthM (.int i)) S Q X = Q (i != 0) S := nrfl rfl
theorem wtr_ref {n : Nat} : wp (truthM (.ref n)) S Q X = wp (lstOf (.ref n)) S (fun ds S1 => Q (!ds.isEmpty) S1) X := by
  unfold truthM
  rw [wp_bnd]
  rfl
end
section
variable {QS : Fl → Store → Prop} {XS : Ex → Env → Store → Prop}
/-- what follows a statement -/
def goS (cl : Or) (ss : List St) (QS : Fl → Store → Prop) (XS : Ex → Env → Store → Prop) : Fl → Store → Prop := fun f S' => match f with
  | .nx ρ => wpS (semSs cl ss ρ) S' QS XS
  | f => QS f S'
theorem goS_nx {ss : List St} : goS cl ss QS XS (.nx ρ) S = wpS (semSs cl ss ρ) S QS XS := rfl
theorem goS_ct {ss : List St} : goS cl ss QS XS (.ct ρ) S = QS (.ct ρ) S := rfl
theorem goS_rt {ss : List St} {d : D} : goS cl ss QS XS (.rt d) S = QS (.rt d) S := rfl
theorem ws_nil : wpS (semSs cl [] ρ) S QS XS = QS (.nx ρ) S := by simp only [semSs, wpS_sret]
theorem ws_cons {s : St} {ss : List St} : wpS (semSs cl (s :: ss) ρ) S QS XS = wpS (semS cl s ρ) S (goS cl ss QS XS) XS := by
  simp only [semSs, wpS_seq]
  rfl
theorem ws_asg {i : Nat} {e : E} : wpS (semS cl (.asg i e) ρ) S QS XS = wp (semE cl e ρ) S (fun d S1 => QS (.nx (ρ.set i (some d))) S1) (fun c S1 => XS c ρ S1) := by simp only [semS, wpS_lift, wpS_sret]
theorem ws_unp {is : List Nat} {e : E} : wpS (semS cl (.unp is e) ρ) S QS XS = wp (semE cl e ρ) S (fun d S1 => wp (unpM is.length d) S1 (fun ds S2 => QS (.nx (setAll is ds ρ)) S2) (fun c S1 => XS c ρ S1)) (fun c S1 => XS c ρ S1) := by simp only [semS, wpS_lift, wpS_sret, wp_bnd]
theorem ws_par {is : List Nat} {es : List E} : wpS (semS cl (.par is es) ρ) S QS XS = wp (semEs cl es ρ) S (fun ds S1 => if ds.length = is.length then QS (.nx (setAll is ds ρ)) S1 else False) (fun c S1 => XS c ρ S1) := by simp only [semS, wpS_lift, wpS_sret, wpS_ite, wpS_bad]
theorem ws_sat {c : Cl} {i : Nat} {o e : E} : wpS (semS cl (.sat c i o e) ρ) S QS XS = wp (semE cl e ρ) S (fun d S1 => wp (semE cl o ρ) S1 (fun x S2 => wp (satM c i x d) S2 (fun _ S3 => QS (.nx ρ) S3) (fun c S1 => XS c ρ S1)) (fun c S1 => XS c ρ S1)) (fun c S1 => XS c ρ S1) := by simp only [semS, wpS_lift, wpS_sret, wp_bnd]
theorem ws_ssub {o ix e : E} : wpS (semS cl (.ssub o ix e) ρ) S QS XS = wp (semE cl e ρ) S (fun d S1 => wp (semE cl o ρ) S1 (fun x S2 => wp (semE cl ix ρ) S2 (fun y S3 => wp (ssubM x y d) S3 (fun _ S4 => QS (.nx ρ) S4) (fun c S1 => XS c ρ S1)) (fun c S1 => XS c ρ S1)) (fun c S1 => XS c ρ S1)) (fun c S1 => XS c ρ S1) := by simp only [semS, wpS_lift, wpS_sret, wp_bnd]
theorem ws_dsub {o ix e : E} : wpS (semS cl (.dsub o ix e) ρ) S QS XS = wp (semE cl e ρ) S (fun d S1 => wp (semE cl o ρ) S1 (fun x S2 => wp (semE cl ix ρ) S2 (fun y S3 => wp (dsubM x y d) S3 (fun _ S4 => QS (.nx ρ) S4) (fun c S1 => XS c ρ S1)) (fun c S1 => XS c ρ S1)) (fun c S1 => XS c ρ S1)) (fun c S1 => XS c ρ S1) := by simp only [semS, wpS_lift, wpS_sret, wp_bnd]
theorem ws_exp {e : E} : wpS (semS cl (.exp e) ρ) S QS XS = wp (semE cl e ρ) S (fun _ S1 => QS (.nx ρ) S1) (fun c S1 => XS c ρ S1) := by simp only [semS, wpS_lift, wpS_sret]
theorem ws_ret {e : E} : wpS (semS cl (.ret e) ρ) S QS XS = wp (semE cl e ρ) S (fun d S1 => QS (.rt d) S1) (fun c S1 => XS c ρ S1) := by simp only [semS, wpS_lift, wpS_sret]
theorem ws_retN : wpS (semS cl .retN ρ) S QS XS = QS (.rt .non) S := by simp only [semS, wpS_sret]
theorem ws_pass : wpS (semS cl .pass ρ) S QS XS = QS (.nx ρ) S := by simp only [semS, wpS_sret]
theorem ws_cont : wpS (semS cl .cont ρ) S QS XS = QS (.ct ρ) S := by simp only [semS, wpS_sret]
theorem ws_ife {c : T} {a b : List St} : wpS (semS cl (.ife c a b) ρ) S QS XS = wp (semT cl c ρ) S (fun k S1 => if k = true then wpS (semSs cl a ρ) S1 QS XS else wpS (semSs cl b ρ) S1 QS XS) (fun c S1 => XS c ρ S1) := by simp only [semS, wpS_lift, wpS_ite]
theorem ws_raise {c : Ex} : wpS (semS cl (.raise c) ρ) S QS XS = XS c ρ S := by simp only [semS, wpS_raise]
/-- a turn of a for -/
def bodyS (cl : Or) (tg : Tg) (body : List St) (d : D) (ρ : Env) : SM := liftM (tg.bind d ρ) ρ fun ρ2 => semSs cl body ρ2
theorem ws_for {tg : Tg} {k : Ik} {its : List E} {body : List St} : wpS (semS cl (.for_ tg k its body) ρ) S QS XS = wp (semEs cl its ρ) S (fun vs S1 => wp (wkOf k vs) S1 (fun wk S2 => wpS (forL wk (bodyS cl tg body) wk.items ρ) S2 (fun f S3 => match f with
    | .nx ρ' => wp wk.leave S3 (fun _ S4 => QS (.nx ρ') S4) (fun c S4 => XS c ρ' S4)
    | f => QS f S3) XS) (fun c S1 => XS c ρ S1)) (fun c S1 => XS c ρ S1) := by
  simp only [semS, wpS_lift, wp_bnd, wpS_seq, wpS_sret]
  rfl
theorem w_body {tg : Tg} {body : List St} {d : D} : wpS (bodyS cl tg body d ρ) S QS XS = wp (tg.bind d ρ) S (fun ρ2 S1 => wpS (semSs cl body ρ2) S1 QS XS) (fun c S1 => XS c ρ S1) := by
  unfold bodyS
  rw [wpS_lift]
theorem ws_whl {n : Nat} {c : T} {body : List St} : wpS (semS cl (.whl n c body) ρ) S QS XS = wpS (whlL (semT cl c) (semSs cl body) n ρ) S QS XS := by simp only [semS]
theorem ws_tryA {body : List St} {c : Ex} {i v : Nat} : wpS (semS cl (.tryA body c i v) ρ) S QS XS = wpS (semSs cl body ρ) S QS (fun e ρ' S' => if subEx e c = true then QS (.nx (ρ'.set v (some (.ref S'.length)))) (S' ++ [.exc e]) else XS e ρ' S') := by
  simp only [semS, wpS]
  cases hm : semSs cl body ρ S with
  | ok f S' => rfl
  | exn e ρ' S' =>
    simp only [bnd, new, ret]
    by_cases he : subEx e c = true
    · rw [if_pos he, if_pos he]
    · rw [if_neg he, if_neg he]
  | bad => rfl
theorem ws_tryF {body : List St} {c : Ex} {i : Nat} {e : E} : wpS (semS cl (.tryF body c i e) ρ) S QS XS = wpS (semSs cl body ρ) S QS (fun x ρ' S' => if subEx x c = true then wp (semE cl e ρ') S' (fun d S2 => QS (.nx (ρ'.set i (some d))) S2) (fun c S2 => XS c ρ' S2) else XS x ρ' S') := by
  simp only [semS, wpS]
  cases hm : semSs cl body ρ S with
  | ok f S' => rfl
  | exn x ρ' S' =>
    have := wpS_lift (m := semE cl e ρ') (ρ := ρ') (k := fun d => sret (.nx (ρ'.set i (some d)))) (S := S') (QS := QS) (XS := XS)
    simp only [wpS_sret] at this
    simp only
    rw [← this]
    by_cases he : subEx x c = true
    · rw [if_pos he, if_pos he]
      rfl
    · rw [if_neg he, if_neg he]
  | bad => rfl
end
end
end NF
end -- NfWp2

section -- NfWp3
set_option linter.all false
set_option autoImplicit false
set_option maxRecDepth 10000
/-! The calculus: values. -/
namespace NF
open PySem (PyData)
/-! ### trees of data -/
inductive V0 where
  | non | int (i : Int) | str (x : List Nat) | tup (vs : List V0) | lst (vs : List V0)
  deriving Inhabited
mutual
def V0.pd : V0 → PyData
  | .non => .none
  | .int i => .int i
  | .str x => .str (strOf x)
  | .tup vs => .tuple (V0.pds vs)
  | .lst vs => .list (V0.pds vs)
def V0.pds : List V0 → List PyData
  | [] => []
  | v :: vs => v.pd :: V0.pds vs
end
mutual
def V0.beq : V0 → V0 → Bool
  | .non, .non => true
  | .int a, .int b => decide (a = b)
  | .str a, .str b => decide (a = b)
  | .tup a, .tup b => V0.beqs a b
  | .lst a, .lst b => V0.beqs a b
  | _, _ => false
def V0.beqs : List V0 → List V0 → Bool
  | [], [] => true
  | a :: r, b :: q => V0.beq a b && V0.beqs r q
  | _, _ => false
end
mutual
theorem V0.beq_iff : ∀ a b : V0, V0.beq a b = true ↔ a = b
  | .non, b => by cases b <;> simp [V0.beq]
  | .int _, b => by cases b <;> simp [V0.beq]
  | .str _, b => by cases b <;> simp [V0.beq]
  | .tup a, b => by
    cases b with
    | tup b => simp only [V0.beq, V0.tup.injEq]; exact V0.beqs_iff a b
    | _ => simp [V0.beq]
  | .lst a, b => by
    cases b with
    | lst b => simp only [V0.beq, V0.lst.injEq]; exact V0.beqs_iff a b
    | _ => simp [V0.beq]
theorem V0.beqs_iff : ∀ a b : List V0, V0.beqs a b = true ↔ a = b
  | [], b => by cases b <;> simp [V0.beqs]
  | a :: r, b => by
    cases b with
    | nil => simp [V0.beqs]
    | cons b q =>
      simp only [V0.beqs, Bool.and_eq_true, List.cons.injEq]
      rw [V0.beq_iff a b, V0.beqs_iff r q]
end
instance : DecidableEq V0 := fun a b => if h : V0.beq a b = true then isTrue ((V0.beq_iff a b).mp h) else isFalse fun e => h ((V0.beq_iff a b).mpr e)
theorem str_eqv' (x y : List Nat) : PyData.eqv (.str (strOf x)) (.str (strOf y)) = decide (x = y) := by
  rw [str_eqv]
  by_cases h : x = y <;> simp [h]
mutual
theorem V0.eqv : ∀ a b : V0, PyData.eqv a.pd b.pd = decide (a = b)
  | .non, b => by cases b <;> simp [V0.pd, PyData.eqv]
  | .int i, b => by cases b <;> simp [V0.pd, PyData.eqv, Bool.beq_eq_decide_eq]
  | .str x, b => by
    cases b with
    | str y => simp only [V0.pd]; rw [str_eqv']; simp
    | _ => simp [V0.pd, PyData.eqv]
  | .tup a, b => by
    cases b with
    | tup b => simp only [V0.pd, PyData.eqv]; rw [V0.eqvs a b]; simp
    | _ => simp [V0.pd, PyData.eqv]
  | .lst a, b => by
    cases b with
    | lst b => simp only [V0.pd, PyData.eqv]; rw [V0.eqvs a b]; simp
    | _ => simp [V0.pd, PyData.eqv]
theorem V0.eqvs : ∀ a b : List V0, PyData.eqvAll (V0.pds a) (V0.pds b) = decide (a = b)
  | [], b => by cases b <;> simp [V0.pds, PyData.eqvAll]
  | a :: r, b => by
    cases b with
    | nil => simp [V0.pds, PyData.eqvAll]
    | cons b q =>
      simp only [V0.pds, PyData.eqvAll]
      rw [V0.eqv a b, V0.eqvs r q]
      by_cases h : a = b <;> by_cases g : r = q <;> simp [h, g]
end
/-- a datum's tree, to a depth -/
def tv (S : Store) : Nat → D → Option V0
  | _, .non => some .non
  | _, .int i => some (.int i)
  | _, .str x => some (.str x)
  | k + 1, .tup ds => (mapO (tv S k) ds).map .tup
  | k + 1, .ref n => match S[n]? with
    | some (.lst ds) => (mapO (tv S k) ds).map .lst
    | some (.rol ds) => (mapO (tv S k) ds).map .lst
    | _ => none
  | _, _ => none
theorem mapO_cons' {α β : Type} {f : α → Option β} {a : α} {r : List α} {bs : List β} (h : mapO f (a :: r) = some bs) : ∃ b cs, f a = some b ∧ mapO f r = some cs ∧ bs = b :: cs := by
  simp only [mapO] at h
  cases hf : f a with
  | none => simp [hf] at h
  | some b =>
    cases hr : mapO f r with
    | none => simp [hf, hr] at h
    | some cs =>
      simp [hf, hr] at h
      exact ⟨b, cs, rfl, rfl, h.symm⟩
theorem mapO_pd {S : Store} {k : Nat} (ih : ∀ d v, tv S k d = some v → tree S k d = some v.pd) : ∀ (ds : List D) (vs : List V0), mapO (tv S k) ds = some vs → mapO (tree S k) ds = some (V0.pds vs)
  | [], vs, h => by cases h; rfl
  | d :: ds, vs, h => by
    obtain ⟨v, r, h1, h2, rfl⟩ := mapO_cons' h
    simp only [mapO, ih d v h1, mapO_pd ih ds r h2, V0.pds]
theorem tv_tree (S : Store) : ∀ (k : Nat) (d : D) (v : V0), tv S k d = some v → tree S k d = some v.pd := by
  intro k
  induction k with
  | zero =>
    intro d v h
    cases d <;> simp [tv] at h <;> subst h <;> simp [tree, V0.pd]
  | succ k ih =>
    intro d v h
    cases d with
    | non => simp [tv] at h; subst h; simp [tree, V0.pd]
    | int i => simp [tv] at h; subst h; simp [tree, V0.pd]
    | str x => simp [tv] at h; subst h; simp [tree, V0.pd]
    | bl b => simp [tv] at h
    | tup ds =>
      simp only [tv, Option.map_eq_some_iff] at h
      obtain ⟨vs, h, rfl⟩ := h
      simp only [tree, mapO_pd ih ds vs h, V0.pd, Option.map_some]
    | ref n =>
      simp only [tv] at h
      split at h
      · rename_i ds hn
        simp only [Option.map_eq_some_iff] at h
        obtain ⟨vs, h, rfl⟩ := h
        simp only [tree, hn, mapO_pd ih ds vs h, V0.pd, Option.map_some]
      · rename_i ds hn
        simp only [Option.map_eq_some_iff] at h
        obtain ⟨vs, h, rfl⟩ := h
        simp only [tree, hn, mapO_pd ih ds vs h, V0.pd, Option.map_some]
      · cases h
theorem eqT_tv {S : Store} {x y : D} {a b : V0} (hx : tv S 8 x = some a) (hy : tv S 8 y = some b) : eqT S x y = some (decide (a = b)) := by
  unfold eqT
  rw [tv_tree S 8 x a hx, tv_tree S 8 y b hy]
  simp only [V0.eqv]
/-- pure data as a tree -/
def d0 : Nat → D → V0
  | _, .int i => .int i
  | _, .str x => .str x
  | k + 1, .tup ds => .tup (ds.map (d0 k))
  | _, _ => .non
theorem mapO_map {α β : Type} {f : α → Option β} {g : α → β} : ∀ {l : List α}, (∀ x ∈ l, f x = some (g x)) → mapO f l = some (l.map g)
  | [], _ => rfl
  | x :: l, h => by simp only [mapO, h x List.mem_cons_self, mapO_map fun y hy => h y (List.mem_cons_of_mem _ hy), List.map_cons]
theorem tv_pure (S : Store) : ∀ (k j : Nat) (d : D), pureN k d = true → k ≤ j → tv S j d = some (d0 k d) := by
  intro k
  induction k with
  | zero => intro j d h hj; cases d <;> simp [pureN] at h <;> cases j <;> simp [tv, d0]
  | succ k ih =>
    intro j d h hj
    cases j with
    | zero => omega
    | succ j =>
      cases d with
      | int i => simp [tv, d0]
      | str x => simp [tv, d0]
      | tup ds =>
        rw [pureN] at h
        simp only [tv, d0]
        rw [mapO_map fun x hx => ih j x (List.all_eq_true.mp h x hx) (by omega)]
        rfl
      | _ => simp [pureN] at h
theorem d0_inj : ∀ (k : Nat) (d e : D), pureN k d = true → pureN k e = true → d0 k d = d0 k e → d = e := by
  intro k
  induction k with
  | zero => intro d e hd he h; cases d <;> cases e <;> simp [pureN] at hd he <;> simp [d0] at h <;> rw [h]
  | succ k ih =>
    intro d e hd he h
    cases d <;> cases e <;> simp only [pureN, Bool.false_eq_true] at hd he <;> simp only [d0, V0.int.injEq, V0.str.injEq, V0.tup.injEq, reduceCtorEq] at h
    · rw [h]
    · rw [h]
    · rename_i as bs
      have all : ∀ (as bs : List D), as.all (pureN k) = true → bs.all (pureN k) = true → as.map (d0 k) = bs.map (d0 k) → as = bs := by
        intro as
        induction as with
        | nil => intro bs _ _ h; cases bs with | nil => rfl | cons => simp at h
        | cons a as ih2 =>
          intro bs h1 h2 h
          cases bs with
          | nil => simp at h
          | cons b bs =>
            rw [List.all_cons, Bool.and_eq_true] at h1 h2
            simp only [List.map_cons, List.cons.injEq] at h
            rw [ih a b h1.1 h2.1 h.1, ih2 bs h1.2 h2.2 h.2]
      rw [all as bs hd he h]
theorem eqT_pure {S : Store} {x y : D} (hx : pureD x = true) (hy : pureD y = true) : eqT S x y = some (decide (x = y)) := by
  rw [eqT_tv (tv_pure S 8 8 x hx (Nat.le_refl _)) (tv_pure S 8 8 y hy (Nat.le_refl _))]
  congr 1
  apply decide_eq_decide.mpr
  exact ⟨d0_inj 8 x y hx hy, fun h => by rw [h]⟩
theorem pureN_mono : ∀ (k j : Nat) (d : D), pureN k d = true → k ≤ j → pureN j d = true := by
  intro k
  induction k with
  | zero => intro j d h hj; cases d <;> simp [pureN] at h <;> cases j <;> simp [pureN]
  | succ k ih =>
    intro j d h hj
    cases j with
    | zero => omega
    | succ j =>
      cases d with
      | int i => simp [pureN]
      | str x => simp [pureN]
      | tup ds =>
        rw [pureN] at h ⊢
        exact List.all_eq_true.mpr fun x hx => ih j x (List.all_eq_true.mp h x hx) (by omega)
      | _ => simp [pureN] at h
/-! ### operators -/
section
variable {S : Store} {Q : D → Store → Prop} {X : Ex → Store → Prop}
theorem cmp_ok (a b : Int) : (pureD (.int a) && pureD (.int b) && cmpb (.int a) (.int b)) = true := by simp [pureN, cmpb]
theorem cmp_le (a b : Int) : cmpM .le (.int a) (.int b) = ret (.bl (decide (a ≤ b))) := by
  show (if (pureD (.int a) && pureD (.int b) && cmpb (.int a) (.int b)) = true then ret (D.bl (cmpI a b != .gt)) else bad) = _
  rw [if_pos (cmp_ok a b)]
  congr 2
  unfold cmpI
  by_cases h1 : a < b
  · rw [if_pos h1, decide_eq_true (show a ≤ b by omega)]; rfl
  · rw [if_neg h1]
    by_cases h2 : b < a
    · rw [if_pos h2, decide_eq_false (show ¬ a ≤ b by omega)]; rfl
    · rw [if_neg h2, decide_eq_true (show a ≤ b by omega)]; rfl
theorem cmp_lt (a b : Int) : cmpM .lt (.int a) (.int b) = ret (.bl (decide (a < b))) := by
  show (if (pureD (.int a) && pureD (.int b) && cmpb (.int a) (.int b)) = true then ret (D.bl (cmpI a b == .lt)) else bad) = _
  rw [if_pos (cmp_ok a b), cmpI_lt]
theorem cmp_gt (a b : Int) : cmpM .gt (.int a) (.int b) = ret (.bl (decide (b < a))) := by
  show (if (pureD (.int a) && pureD (.int b) && cmpb (.int a) (.int b)) = true then ret (D.bl (cmpI a b == .gt)) else bad) = _
  rw [if_pos (cmp_ok a b), cmpI_gt]
theorem cmp_ge (a b : Int) : cmpM .ge (.int a) (.int b) = ret (.bl (decide (b ≤ a))) := by
  show (if (pureD (.int a) && pureD (.int b) && cmpb (.int a) (.int b)) = true then ret (D.bl (cmpI a b != .lt)) else bad) = _
  rw [if_pos (cmp_ok a b)]
  congr 2
  unfold cmpI
  by_cases h1 : a < b
  · rw [if_pos h1, decide_eq_false (show ¬ b ≤ a by omega)]; rfl
  · rw [if_neg h1, decide_eq_true (show b ≤ a by omega)]
    split <;> rfl
theorem cmp_eqP {x y : D} (hx : pureD x = true) (hy : pureD y = true) : cmpM .eq x y = ret (.bl (decide (x = y))) := by
  funext S
  show blM (eqT S x y) S = _
  rw [eqT_pure hx hy]
  rfl
theorem cmp_neP {x y : D} (hx : pureD x = true) (hy : pureD y = true) : cmpM .ne x y = ret (.bl (decide (x ≠ y))) := by
  funext S
  show blM ((eqT S x y).map (!·)) S = _
  rw [eqT_pure hx hy]
  simp [blM]
theorem cmp_eqI (a b : Int) : cmpM .eq (.int a) (.int b) = ret (.bl (decide (a = b))) := by rw [cmp_eqP rfl rfl]; simp
theorem cmp_neI (a b : Int) : cmpM .ne (.int a) (.int b) = ret (.bl (decide (a ≠ b))) := by rw [cmp_neP rfl rfl]; simp
theorem cmp_eqS (a b : List Nat) : cmpM .eq (.str a) (.str b) = ret (.bl (decide (a = b))) := by rw [cmp_eqP rfl rfl]; simp
theorem cmp_neS (a b : List Nat) : cmpM .ne (.str a) (.str b) = ret (.bl (decide (a ≠ b))) := by rw [cmp_neP rfl rfl]; simp
/-- == by trees -/
theorem wp_eqV {x y : D} {a b : V0} (hx : tv S 8 x = some a) (hy : tv S 8 y = some b) : wp (cmpM .eq x y) S Q X = Q (.bl (decide (a = b))) S := by
  show wp (fun S => blM (eqT S x y) S) S Q X = _
  rw [wp_fun, eqT_tv hx hy]
  rfl
theorem wp_neV {x y : D} {a b : V0} (hx : tv S 8 x = some a) (hy : tv S 8 y = some b) : wp (cmpM .ne x y) S Q X = Q (.bl (decide (a ≠ b))) S := by
  show wp (fun S => blM ((eqT S x y).map (!·)) S) S Q X = _
  rw [wp_fun, eqT_tv hx hy]
  simp [blM, ret]
/-- the order of pure data that may be compared -/
theorem cmp_ltP {x y : D} (hx : pureD x = true) (hy : pureD y = true) (hc : cmpb x y = true) : cmpM .lt x y = ret (.bl (ltD x y)) := by
  show (if (pureD x && pureD y && cmpb x y) = true then ret (D.bl (cmpD x y == .lt)) else bad) = _
  rw [if_pos (by rw [hx, hy, hc]; rfl)]
  rfl
theorem cmp_gtP {x y : D} (hx : pureD x = true) (hy : pureD y = true) (hc : cmpb x y = true) : cmpM .gt x y = ret (.bl (cmpD x y == .gt)) := by
  show (if (pureD x && pureD y && cmpb x y) = true then ret (D.bl (cmpD x y == .gt)) else bad) = _
  rw [if_pos (by rw [hx, hy, hc]; rfl)]
theorem cmp_geP {x y : D} (hx : pureD x = true) (hy : pureD y = true) (hc : cmpb x y = true) : cmpM .ge x y = ret (.bl (!ltD x y)) := by
  show (if (pureD x && pureD y && cmpb x y) = true then ret (D.bl (cmpD x y != .lt)) else bad) = _
  rw [if_pos (by rw [hx, hy, hc]; rfl)]
  rfl
theorem in_sign (c : Nat) (z : List Nat) : cmpM .inn (.str [c]) (.str z) = ret (.bl (z.contains c)) := nrfl rfl
theorem add_int (a b : Int) : binD .add (.int a) (.int b) = ret (.int (a + b)) := nrfl rfl
theorem sub_int (a b : Int) : binD .sub (.int a) (.int b) = ret (.int (a - b)) := nrfl rfl
theorem add_str {a b : List Nat} (h : a.length + b.length ≤ line) : binD .add (.str a) (.str b) = ret (.str (a ++ b)) := if_pos h
theorem add_tup {a b : List D} (h : a.length + b.length ≤ line) : binD .add (.tup a) (.tup b) = ret (.tup (a ++ b)) := if_pos h
theorem mul_int {a b : Int} (h : (small b || small a) = true) : binD .mul (.int a) (.int b) = ret (.int (a * b)) := if_pos h
theorem md_int {a b : Int} (h : 0 < b) : binD .md (.int a) (.int b) = ret (.int (a % b)) := if_pos h
theorem fd_int {a b : Int} (h : 0 < b) (h2 : b < 1073741824) : binD .fd (.int a) (.int b) = ret (.int (a / b)) := if_pos (by simp [h, h2])
theorem pw_int {a b : Int} (h : 0 ≤ b) (h2 : b ≤ 1000) (h3 : small a = true) : binD .pw (.int a) (.int b) = ret (.int (a ^ b.toNat)) := if_pos (by simp [h, h2, h3])
theorem wp_addL {n m : Nat} {a b : List D} (hn : S[n]? = some (.lst a)) (hm : S[m]? = some (.lst b)) (h : a.length + b.length ≤ line) : wp (binD .add (.ref n) (.ref m)) S Q X = Q (.ref S.length) (S ++ [.lst (a ++ b)]) := by
  show wp (bnd (obj n) fun o => bnd (obj m) fun u => match o, u with
    | .lst a, .lst b => if a.length + b.length ≤ line then new (.lst (a ++ b)) else bad
    | _, _ => bad) S Q X = _
  rw [wp_bnd, wp_obj hn, wp_bnd, wp_obj hm]
  simp only [if_pos h, wp_new]
/-! ### built-ins -/
theorem len_str {x : List Nat} (h : x.length ≤ line) : biM .len [.str x] = ret (.int x.length) := if_pos h
theorem len_tup (ds : List D) : biM .len [.tup ds] = ret (.int ds.length) := nrfl rfl
theorem wp_len {n : Nat} {ds : List D} (h : LstAt S n ds) : wp (biM .len [.ref n]) S Q X = Q (.int ds.length) S := by
  show wp (bnd (lstOf (.ref n)) fun ds => ret (.int ds.length)) S Q X = _
  rw [wp_bnd, wp_lst h, wp_ret]
theorem mapO_bls : ∀ bs : List Bool, mapO blO (bs.map .bl) = some bs
  | [] => rfl
  | b :: bs => by simp only [List.map_cons, mapO, blO, mapO_bls bs]
theorem wp_all {n : Nat} {bs : List Bool} (h : LstAt S n (bs.map .bl)) : wp (biM .all [.ref n]) S Q X = Q (.bl (bs.all id)) S := by
  show wp (bnd (lstOf (.ref n)) fun ds => bnd (orBad (mapO blO ds)) fun bs => ret (.bl (bs.all id))) S Q X = _
  rw [wp_bnd, wp_lst h, wp_bnd, mapO_bls, wp_orS, wp_ret]
theorem wp_any {n : Nat} {bs : List Bool} (h : LstAt S n (bs.map .bl)) : wp (biM .any [.ref n]) S Q X = Q (.bl (bs.any id)) S := by
  show wp (bnd (lstOf (.ref n)) fun ds => bnd (orBad (mapO blO ds)) fun bs => ret (.bl (bs.any id))) S Q X = _
  rw [wp_bnd, wp_lst h, wp_bnd, mapO_bls, wp_orS, wp_ret]
theorem wp_sortM {ds : List D} {Q : List D → Store → Prop} (h : allCmp ds = true) : wp (sortM ds) S Q X = Q (sortBy ltD ds) S := by
  unfold sortM
  rw [if_pos h, wp_ret]
theorem wp_sorted {n : Nat} {ds : List D} (h : LstAt S n ds) (hc : allCmp ds = true) : wp (biM .sorted [.ref n]) S Q X = Q (.ref S.length) (S ++ [.lst (sortBy ltD ds)]) := by
  show wp (bnd (lstOf (.ref n)) fun ds => bnd (sortM ds) fun es => new (.lst es)) S Q X = _
  rw [wp_bnd, wp_lst h, wp_bnd, wp_sortM hc, wp_new]
theorem wp_list {n : Nat} {ds : List D} (h : LstAt S n ds) : wp (biM .list [.ref n]) S Q X = Q (.ref S.length) (S ++ [.lst ds]) := by
  show wp (bnd (lstOf (.ref n)) fun ds => new (.lst ds)) S Q X = _
  rw [wp_bnd, wp_lst h, wp_new]
theorem list_tup (ds : List D) : wp (biM .list [.tup ds]) S Q X = Q (.ref S.length) (S ++ [.lst ds]) := nrfl rfl
theorem str_int {i : Int} (h : i.natAbs < 1000000) : biM .str [.int i] = ret (.str (numL i)) := if_pos h
theorem str_str (x : List Nat) : biM .str [.str x] = ret (.str x) := nrfl rfl
theorem int_bl (b : Bool) : biM .int [.bl b] = ret (.int (if b then 1 else 0)) := nrfl rfl
theorem int_int (i : Int) : biM .int [.int i] = ret (.int i) := nrfl rfl
theorem max2_int (i j : Int) : biM .max2 [.int i, .int j] = ret (.int (if j > i then j else i)) := nrfl rfl
theorem min2_int (i j : Int) : biM .min2 [.int i, .int j] = ret (.int (if j < i then j else i)) := nrfl rfl
/-! ### subscripts -/
theorem idx_tup (ds : List D) (i : Int) : idxM (.tup ds) (.int i) = orBad ((ixOf ds.length i).bind fun j => ds[j]?) := rfl
theorem idx_str {z : List Nat} (h : z.length ≤ line) (i : Int) : idxM (.str z) (.int i) = orBad ((ixOf z.length i).bind fun j => z[j]?.map fun c => .str [c]) := if_pos h
theorem wp_idxL {n : Nat} {ds : List D} (h : LstAt S n ds) (i : Int) : wp (idxM (.ref n) (.int i)) S Q X = wp (orBad ((ixOf ds.length i).bind fun j => ds[j]?)) S Q X := by
  show wp (bnd (lstOf (.ref n)) fun ds => orBad ((ixOf ds.length i).bind fun j => ds[j]?)) S Q X = _
  rw [wp_bnd, wp_lst h]
theorem ix_nat {n j : Nat} (h : j < n) : ixOf n (j : Int) = some j := by
  unfold ixOf
  rw [if_pos (by omega), if_pos (by omega)]
  simp
theorem ix_last {n : Nat} (h : 0 < n) : ixOf n (-1) = some (n - 1) := by
  unfold ixOf
  rw [if_neg (by omega), if_pos (by omega)]
  congr 1
  omega
theorem slc_tup (ds : List D) (lo hi : Option Int) : slcM (.tup ds) lo hi = ret (.tup (cut ds lo hi)) := rfl
theorem slc_str {z : List Nat} (h : z.length ≤ line) (lo hi : Option Int) : slcM (.str z) lo hi = ret (.str (cut z lo hi)) := if_pos h
theorem wp_slcL {n : Nat} {ds : List D} (h : LstAt S n ds) (lo hi : Option Int) : wp (slcM (.ref n) lo hi) S Q X = Q (.ref S.length) (S ++ [.lst (cut ds lo hi)]) := by
  show wp (bnd (lstOf (.ref n)) fun ds => new (.lst (cut ds lo hi))) S Q X = _
  rw [wp_bnd, wp_lst h, wp_new]
theorem intO_int {i : Int} (h : small i = true) : intO (some (.int i)) = ret (some i) := if_pos h
theorem wp_dixT {n : Nat} {kvs : List ((Int × Int) × D)} (h : S[n]? = some (.dct kvs)) (a b : Int) : wp (dixM (.ref n) (.tup [.int a, .int b])) S Q X = wp (orBad (kvGet kvs (a, b))) S Q X := by
  show wp (bnd (obj n) _) S Q X = _
  rw [wp_bnd, wp_obj h]
  rfl
theorem wp_dixR {n : Nat} {kvs : List (List Nat × D)} (h : S[n]? = some (.rod kvs)) (x : List Nat) : wp (dixM (.ref n) (.str x)) S Q X = wp (orBad (kvGet kvs x)) S Q X := by
  show wp (bnd (obj n) _) S Q X = _
  rw [wp_bnd, wp_obj h]
theorem wp_dixK {n : Nat} {kvs : List (List Nat × D)} (h : S[n]? = some (.dck kvs)) (x : List Nat) : wp (dixM (.ref n) (.str x)) S Q X = wp (orBad (kvGet kvs x)) S Q X := by
  show wp (bnd (obj n) _) S Q X = _
  rw [wp_bnd, wp_obj h]
theorem wp_inT {n : Nat} {kvs : List ((Int × Int) × D)} (h : S[n]? = some (.dct kvs)) (a b : Int) : wp (cmpM .inn (.tup [.int a, .int b]) (.ref n)) S Q X = Q (.bl (kvGet kvs (a, b)).isSome) S := by
  show wp (bnd (inD (.tup [.int a, .int b]) (.ref n)) fun b => ret (.bl b)) S Q X = _
  rw [wp_bnd]
  show wp (bnd (obj n) _) S _ X = _
  rw [wp_bnd, wp_obj h]
  rfl
theorem wp_ninT {n : Nat} {kvs : List ((Int × Int) × D)} (h : S[n]? = some (.dct kvs)) (a b : Int) : wp (cmpM .nin (.tup [.int a, .int b]) (.ref n)) S Q X = Q (.bl (!(kvGet kvs (a, b)).isSome)) S := by
  show wp (bnd (inD (.tup [.int a, .int b]) (.ref n)) fun b => ret (.bl (!b))) S Q X = _
  rw [wp_bnd]
  show wp (bnd (obj n) _) S _ X = _
  rw [wp_bnd, wp_obj h]
  rfl
theorem wp_ninR {n : Nat} {kvs : List (List Nat × D)} (h : S[n]? = some (.rod kvs)) (x : List Nat) : wp (cmpM .nin (.str x) (.ref n)) S Q X = Q (.bl (!(kvGet kvs x).isSome)) S := by
  show wp (bnd (inD (.str x) (.ref n)) fun b => ret (.bl (!b))) S Q X = _
  rw [wp_bnd]
  show wp (bnd (obj n) _) S _ X = _
  rw [wp_bnd, wp_obj h, wp_ret, wp_ret]
/-- in a list of pure data -/
theorem mapO_eqT {x : D} (hx : pureD x = true) : ∀ {ds : List D}, ds.all pureD = true → mapO (fun y => eqT S y x) ds = some (ds.map fun y => decide (y = x))
  | [], _ => rfl
  | d :: ds, h => by
    rw [List.all_cons, Bool.and_eq_true] at h
    simp only [mapO, eqT_pure h.1 hx, mapO_eqT hx h.2, List.map_cons]
theorem any_dec {x : D} : ∀ ds : List D, (ds.map fun y => decide (y = x)).any id = ds.contains x
  | [] => rfl
  | d :: ds => by
    rw [List.map_cons, List.any_cons, any_dec ds, List.contains_cons]
    congr 1
    by_cases h : d = x
    · subst h; simp
    · simp [h, Ne.symm h]
theorem wp_inD {n : Nat} {ds : List D} {x : D} {Q : Bool → Store → Prop} (h : S[n]? = some (.lst ds)) (hx : pureD x = true) (hd : ds.all pureD = true) : wp (inD x (.ref n)) S Q X = Q (ds.contains x) S := by
  show wp (bnd (obj n) _) S Q X = _
  rw [wp_bnd, wp_obj h]
  show wp (fun S => match tree S 8 x, mapO (fun y => eqT S y x) ds with
    | some _, some bs => Res.ok (bs.any id) S
    | _, _ => .bad) S Q X = _
  rw [wp_fun, tv_tree S 8 x _ (tv_pure S 8 8 x hx (Nat.le_refl _)), mapO_eqT hx hd]
  simp only [any_dec]
theorem wp_inL {n : Nat} {ds : List D} {x : D} (h : S[n]? = some (.lst ds)) (hx : pureD x = true) (hd : ds.all pureD = true) : wp (cmpM .inn x (.ref n)) S Q X = Q (.bl (ds.contains x)) S := by
  show wp (bnd (inD x (.ref n)) fun b => ret (.bl b)) S Q X = _
  rw [wp_bnd, wp_inD h hx hd, wp_ret]
theorem wp_ninL {n : Nat} {ds : List D} {x : D} (h : S[n]? = some (.lst ds)) (hx : pureD x = true) (hd : ds.all pureD = true) : wp (cmpM .nin x (.ref n)) S Q X = Q (.bl (!ds.contains x)) S := by
  show wp (bnd (inD x (.ref n)) fun b => ret (.bl (!b))) S Q X = _
  rw [wp_bnd, wp_inD h hx hd, wp_ret]
/-! ### objects -/
theorem wp_ins {c : Cl} {n : Nat} {fs : List D} {Q : Nat × List D → Store → Prop} (h : S[n]? = some (.ins c fs)) : wp (insOf c (.ref n)) S Q X = Q (n, fs) S := by
  show wp (bnd (obj n) _) S Q X = _
  rw [wp_bnd, wp_obj h]
  simp only [if_true, wp_ret]
theorem wp_sat {c : Cl} {i n : Nat} {fs : List D} {d : D} {Q : Unit → Store → Prop} (h : S[n]? = some (.ins c fs)) (hi : i < fs.length) : wp (satM c i (.ref n) d) S Q X = Q () (S.set n (.ins c (fs.set i d))) := by
  unfold satM
  rw [wp_bnd, wp_ins h]
  simp only [if_pos hi, wp_put]
theorem wp_satNew {c : Cl} {n : Nat} {fs : List D} {d : D} {Q : Unit → Store → Prop} (h : S[n]? = some (.ins c fs)) : wp (satM c fs.length (.ref n) d) S Q X = Q () (S.set n (.ins c (fs ++ [d]))) := by
  unfold satM
  rw [wp_bnd, wp_ins h]
  simp only [if_neg (Nat.lt_irrefl _), if_true, wp_put]
/-! ### methods of lists -/
theorem bmTy_lst {m : Bm} {n : Nat} {ds : List D} {Q : Unit → Store → Prop} (hm : (match m with | .append | .extend | .insert | .count | .index | .pop1 | .pop0 => true | _ => false) = true) (h : LstAt S n ds) : wp (bmTy m (.ref n)) S Q X = Q () S := by
  have e : bmTy m (.ref n) = bnd (lstOf (.ref n)) fun _ => ret () := by cases m <;> first | rfl | cases hm
  rw [e, wp_bnd, wp_lst h, wp_ret]
theorem wp_append {n : Nat} {ds : List D} {d : D} (h : S[n]? = some (.lst ds)) (hl : ds.length < line) : wp (bmM .append (.ref n) [d]) S Q X = Q .non (S.set n (.lst (ds ++ [d]))) := by
  show wp (bnd (mlst (.ref n)) fun p => if p.2.length < line then bnd (put p.1 (.lst (p.2 ++ [d]))) fun _ => ret .non else bad) S Q X = _
  rw [wp_bnd, wp_mlst h]
  simp only [if_pos hl, wp_bnd, wp_put, wp_ret]
theorem count_dec {x : D} : ∀ ds : List D, (ds.map fun y => decide (y = x)).count true = ds.count x
  | [] => rfl
  | d :: ds => by
    rw [List.map_cons, List.count_cons, List.count_cons, count_dec ds]
    congr 1
    by_cases h : d = x <;> simp [h]
theorem wp_count {n : Nat} {ds : List D} {x : D} (h : LstAt S n ds) (hx : pureD x = true) (hd : ds.all pureD = true) : wp (bmM .count (.ref n) [x]) S Q X = Q (.int (ds.count x)) S := by
  show wp (bnd (lstOf (.ref n)) fun ds => fun S => bnd (orBad (eqAll S x ds)) (fun bs => ret (.int (bs.count true))) S) S Q X = _
  rw [wp_bnd, wp_lst h]
  have e : eqAll S x ds = some (ds.map fun y => decide (y = x)) := by
    unfold eqAll
    rw [tv_tree S 8 x _ (tv_pure S 8 8 x hx (Nat.le_refl _)), mapO_eqT hx hd]
  have e2 : (fun S => bnd (orBad (eqAll S x ds)) (fun bs => ret (D.int (bs.count true))) S) S = Res.ok (.int (ds.count x)) S := by
    simp only [e, ← count_dec]
    rfl
  exact wp_ok e2
/-! ### dicts -/
theorem wp_dsubT {n : Nat} {kvs : List ((Int × Int) × D)} {a b : Int} {d : D} {Q : Unit → Store → Prop} (h : S[n]? = some (.dct kvs)) (hl : kvs.length < line) : wp (dsubM (.ref n) (.tup [.int a, .int b]) d) S Q X = Q () (S.set n (.dct (kvPut kvs (a, b) d))) := by
  show wp (bnd (obj n) _) S Q X = _
  rw [wp_bnd, wp_obj h]
  show wp (if kvs.length < line then put n (.dct (kvPut kvs (a, b) d)) else bad) S Q X = _
  rw [if_pos hl, wp_put]
theorem wk_seqL {n : Nat} {ds : List D} {Q : Wk → Store → Prop} (h : LstAt S n ds) : wp (wkOf .seq [.ref n]) S Q X = Q (.lst n ds) S := by
  show wp (bnd (lstOf (.ref n)) fun ds => ret (.lst n ds)) S Q X = _
  rw [wp_bnd, wp_lst h, wp_ret]
theorem wk_seqT (ds : List D) {Q : Wk → Store → Prop} : wp (wkOf .seq [.tup ds]) S Q X = Q (.fix ds) S := nrfl rfl
theorem wk_seqS (x : List Nat) {Q : Wk → Store → Prop} : wp (wkOf .seq [.str x]) S Q X = Q (.fix (x.map fun c => .str [c])) S := nrfl rfl
theorem wk_rng1 {j : Int} (h : small j = true) {Q : Wk → Store → Prop} : wp (wkOf .rng1 [.int j]) S Q X = Q (.fix ((List.range j.toNat).map fun (i : Nat) => .int (0 + (i : Int)))) S := by
  show wp (if small j then ret _ else bad) S Q X = _
  rw [if_pos h, wp_ret]
theorem wk_rng2 {i j : Int} (h : small i = true) (h2 : small j = true) {Q : Wk → Store → Prop} : wp (wkOf .rng2 [.int i, .int j]) S Q X = Q (.fix ((List.range (j - i).toNat).map fun (k : Nat) => .int (i + (k : Int)))) S := by
  show wp (if small i && small j then ret _ else bad) S Q X = _
  rw [if_pos (by rw [h, h2]; rfl), wp_ret]
theorem wkw_vals {n : Nat} {kvs : List ((Int × Int) × D)} {Q : Wk → Store → Prop} (h : S[n]? = some (.dct kvs)) : wp (wkOf .vals [.ref n]) S Q X = Q (.dict n kvs (kvs.map (·.2))) (S.set n (.lck kvs)) := by
  show wp (bnd (obj n) _) S Q X = _
  rw [wp_bnd, wp_obj h]
  show wp (bnd (put n (.lck kvs)) fun _ => ret _) S Q X = _
  rw [wp_bnd, wp_put, wp_ret]
theorem wkw_keys {n : Nat} {kvs : List ((Int × Int) × D)} {Q : Wk → Store → Prop} (h : S[n]? = some (.dct kvs)) : wp (wkOf .keys [.ref n]) S Q X = Q (.dict n kvs (kvs.map fun kv => pairD kv.1)) (S.set n (.lck kvs)) := by
  show wp (bnd (obj n) _) S Q X = _
  rw [wp_bnd, wp_obj h]
  show wp (bnd (put n (.lck kvs)) fun _ => ret _) S Q X = _
  rw [wp_bnd, wp_put, wp_ret]
theorem lv_lst {n : Nat} {ds : List D} {Q : Unit → Store → Prop} : wp (Wk.leave (.lst n ds)) S Q X = Q () S := nrfl rfl
theorem lv_fix {ds : List D} {Q : Unit → Store → Prop} : wp (Wk.leave (.fix ds)) S Q X = Q () S := nrfl rfl
theorem lv_dict {n : Nat} {kvs kvs' : List ((Int × Int) × D)} {ds : List D} {Q : Unit → Store → Prop} (h : S[n]? = some (.lck kvs')) : wp (Wk.leave (.dict n kvs ds)) S Q X = Q () (S.set n (.dct kvs)) := by
  show wp (bnd (obj n) _) S Q X = _
  rw [wp_bnd, wp_obj h]
  show wp (put n (.dct kvs)) S Q X = _
  rw [wp_put]
end
end NF
end -- NfWp3

section -- NfWp4
set_option linter.all false
set_option autoImplicit false
set_option maxRecDepth 10000
/-! The calculus: loops over what a model tells; dicts; sorts. -/
namespace NF
open SrtO
section
variable {A : Type} {S : Store} {X : Ex → Store → Prop}
theorem split_map {g : A → D} : ∀ {a : List D} {x : D} {r : List D} {xs : List A}, xs.map g = a ++ x :: r → ∃ u y v, xs = u ++ y :: v ∧ a = u.map g ∧ x = g y ∧ r = v.map g
  | [], x, r, [], h => by simp at h
  | [], x, r, y :: xs, h => by
    simp only [List.map_cons, List.nil_append, List.cons.injEq] at h
    exact ⟨[], y, xs, rfl, rfl, h.1.symm, h.2.symm⟩
  | a :: as, x, r, [], h => by simp at h
  | a :: as, x, r, y :: xs, h => by
    simp only [List.map_cons, List.cons_append, List.cons.injEq] at h
    obtain ⟨u, z, v, e1, e2, e3, e4⟩ := split_map h.2
    exact ⟨y :: u, z, v, by rw [e1]; rfl, by rw [e2, ← h.1]; rfl, e3, e4⟩
theorem wpS_forM {wk : Wk} {body : D → Env → SM} {g : A → D} {ρ : Env} {Q : Fl → Store → Prop} {XS : Ex → Env → Store → Prop} (xs : List A) (I : List A → Env → Store → Prop) (h0 : I [] ρ S) (still : ∀ done ρ S, I done ρ S → Stil wk S)
    (step : ∀ done x rest ρ S, xs = done ++ x :: rest → I done ρ S → wpS (body (g x) ρ) S (fun f S' => match f with | .nx ρ' => I (done ++ [x]) ρ' S' | .ct ρ' => I (done ++ [x]) ρ' S' | .rt d => Q (.rt d) S') XS) (fin : ∀ ρ S, I xs ρ S → Q (.nx ρ) S) :
    wpS (forL wk body (xs.map g) ρ) S Q XS := by
  have key : ∀ (rest done : List A) (ρ : Env) (S : Store), xs = done ++ rest → I done ρ S → wpS (forL wk body (rest.map g) ρ) S Q XS := by
    intro rest
    induction rest with
    | nil =>
      intro done ρ S e h
      show wpS (forL wk body [] ρ) S Q XS
      unfold forL
      rw [wpS_lift, wp_still (still done ρ S h), wpS_sret]
      rw [List.append_nil] at e
      exact fin ρ S (e ▸ h)
    | cons x rest ih =>
      intro done ρ S e h
      show wpS (forL wk body (g x :: rest.map g) ρ) S Q XS
      unfold forL
      rw [wpS_lift, wp_still (still done ρ S h)]
      refine wpS_loop (k := forL wk body (rest.map g)) (wpS_mono (step done x rest ρ S e h) (fun f S' st => ?_) fun _ _ _ z => z)
      cases f with
      | nx ρ' => exact ih (done ++ [x]) ρ' S' (by rw [e]; simp) st
      | ct ρ' => exact ih (done ++ [x]) ρ' S' (by rw [e]; simp) st
      | rt d => exact st
  exact key xs [] ρ S rfl h0
theorem fm_some {B C : Type} (f : B → C) (xs : List B) : (xs.filterMap fun a => some (f a)) = xs.map f := by
  induction xs with
  | nil => rfl
  | cons x xs ih => simp [ih]
theorem wp_collectM {wk : Wk} {turn : D → M (Option D)} {g : A → D} {Q : List D → Store → Prop} (xs : List A) (I : List A → List D → Store → Prop) (h0 : I [] [] S) (still : ∀ done out S, I done out S → Stil wk S)
    (step : ∀ done x rest out S, xs = done ++ x :: rest → I done out S → wp (turn (g x)) S (fun o S' => I (done ++ [x]) (out ++ o.toList) S') X) (fin : ∀ out S, I xs out S → Q out S) : wp (collect wk turn (xs.map g)) S Q X := by
  refine wp_collect (fun done out S => ∃ u v, xs = u ++ v ∧ done = u.map g ∧ I u out S) ⟨[], xs, rfl, rfl, h0⟩ (fun done out S h => ?_) (fun done x rest out S e h => ?_) fun out S h => ?_
  · obtain ⟨u, v, _, _, h⟩ := h
    exact still u out S h
  · obtain ⟨u, v, e1, e2, h⟩ := h
    rw [e1, e2, List.map_append] at e
    have e' := List.append_cancel_left e
    cases v with
    | nil => simp at e'
    | cons y v =>
      simp only [List.map_cons, List.cons.injEq] at e'
      rw [← e'.1]
      refine wp_mono (step u y v out S e1 h) (fun o S' h' => ⟨u ++ [y], v, by rw [e1]; simp, by rw [e2]; simp, h'⟩) fun _ _ z => z
  · obtain ⟨u, v, e1, e2, h⟩ := h
    rw [e1, List.map_append] at e2
    have : v = [] := by
      cases v with
      | nil => rfl
      | cons y v =>
        have := congrArg List.length e2
        simp at this
    subst this
    rw [List.append_nil] at e1
    exact fin out S (e1 ▸ h)
theorem wp_gatherM {wk : Wk} {turn : D → M (Option D)} {g : A → D} {Q : List D → Store → Prop} (xs : List A) (J : Store → Prop) (f : A → Option D) (h0 : J S) (still : ∀ S, J S → Stil wk S)
    (step : ∀ x S, x ∈ xs → J S → wp (turn (g x)) S (fun o S' => o = f x ∧ J S') X) (fin : ∀ S, J S → Q (xs.filterMap f) S) : wp (collect wk turn (xs.map g)) S Q X := by
  refine wp_collectM xs (fun done out S => out = done.filterMap f ∧ J S) ⟨rfl, h0⟩ (fun _ _ S h => still S h.2) (fun done x rest out S e h => ?_) fun out S h => by rw [h.1]; exact fin S h.2
  refine wp_mono (step x S (by rw [e]; simp) h.2) (fun o S' h' => ⟨?_, h'.2⟩) fun _ _ z => z
  rw [List.filterMap_append, h.1, h'.1]
  cases hf : f x <;> simp [hf]
/-- a comprehension that leaves the store alone -/
theorem wp_gather0 {wk : Wk} {turn : D → M (Option D)} {g : A → D} {Q : List D → Store → Prop} (xs : List A) (f : A → Option D) (still : Stil wk S)
    (step : ∀ x, x ∈ xs → wp (turn (g x)) S (fun o S' => o = f x ∧ S' = S) X) (fin : Q (xs.filterMap f) S) : wp (collect wk turn (xs.map g)) S Q X :=
  wp_gatherM xs (· = S) f rfl (fun S' e => by rw [e]; exact still) (fun x S' hx e => by rw [e]; exact step x hx) fun S' e => by rw [e]; exact fin
theorem wp_gatherD {wk : Wk} {turn : D → M (Option D)} {Q : List D → Store → Prop} (ds : List D) (f : D → Option D) (still : Stil wk S)
    (step : ∀ x, x ∈ ds → wp (turn x) S (fun o S' => o = f x ∧ S' = S) X) (fin : Q (ds.filterMap f) S) : wp (collect wk turn ds) S Q X := by
  have := wp_gather0 (g := id) (Q := Q) (X := X) (S := S) (wk := wk) (turn := turn) ds f still step fin
  rwa [List.map_id] at this
end
/-! ### dicts -/
section
variable {κ : Type} [DecidableEq κ] {kvs : List (κ × D)} {k j : κ} {v : D}
theorem kvGet_none : kvGet kvs k = none ↔ k ∉ kvs.map (·.1) := by
  unfold kvGet
  rw [Option.map_eq_none_iff, List.find?_eq_none]
  simp only [decide_eq_true_eq, List.mem_map, not_exists, not_and]
theorem kvGet_cons {kv : κ × D} : kvGet (kv :: kvs) k = if kv.1 = k then some kv.2 else kvGet kvs k := by
  unfold kvGet
  rw [List.find?_cons]
  by_cases h : kv.1 = k
  · simp [h]
  · simp [h]
theorem kvGet_mem (h : kvGet kvs k = some v) : (k, v) ∈ kvs := by
  induction kvs with
  | nil => cases h
  | cons kv kvs ih =>
    rw [kvGet_cons] at h
    split at h
    · cases h
      rename_i e
      rw [← e]
      exact List.mem_cons_self
    · exact List.mem_cons_of_mem _ (ih h)
theorem kvGet_of_mem (hn : (kvs.map (·.1)).Nodup) (h : (k, v) ∈ kvs) : kvGet kvs k = some v := by
  induction kvs with
  | nil => cases h
  | cons kv kvs ih =>
    rw [kvGet_cons]
    rw [List.map_cons, List.nodup_cons] at hn
    rcases List.mem_cons.mp h with e | e
    · subst e
      simp
    · rw [if_neg, ih hn.2 e]
      intro z
      exact hn.1 (List.mem_map.mpr ⟨_, e, z.symm⟩)
theorem kvPut_new (h : k ∉ kvs.map (·.1)) : kvPut kvs k v = kvs ++ [(k, v)] := by
  unfold kvPut
  rw [if_neg]
  intro z
  obtain ⟨kv, h1, h2⟩ := List.any_eq_true.mp z
  exact h (List.mem_map.mpr ⟨kv, h1, of_decide_eq_true h2⟩)
theorem kvPut_keys : (kvPut kvs k v).map (·.1) = if k ∈ kvs.map (·.1) then kvs.map (·.1) else kvs.map (·.1) ++ [k] := by
  by_cases h : k ∈ kvs.map (·.1)
  · rw [if_pos h]
    unfold kvPut
    rw [if_pos]
    · rw [List.map_map]
      apply List.map_congr_left
      intro kv _
      show (if kv.1 = k then (kv.1, v) else kv).1 = kv.1
      split <;> rfl
    · obtain ⟨kv, h1, h2⟩ := List.mem_map.mp h
      exact List.any_eq_true.mpr ⟨kv, h1, decide_eq_true h2⟩
  · rw [if_neg h, kvPut_new h, List.map_append]
    rfl
theorem kvGet_app {l m : List (κ × D)} : kvGet (l ++ m) k = (kvGet l k).or (kvGet m k) := by
  unfold kvGet
  rw [List.find?_append]
  cases l.find? fun kv => decide (kv.1 = k) <;> simp
theorem kvGet_rep : kvGet (kvs.map fun kv => if kv.1 = k then (kv.1, v) else kv) j = if j = k ∧ k ∈ kvs.map (·.1) then some v else kvGet kvs j := by
  induction kvs with
  | nil => simp [kvGet]
  | cons kv kvs ih =>
    rw [List.map_cons, kvGet_cons, kvGet_cons, ih]
    by_cases e : kv.1 = k
    · subst e
      by_cases ej : kv.1 = j
      · subst ej; simp
      · have := Ne.symm ej
        simp [ej, this]
    · simp only [if_neg e]
      have e' := Ne.symm e
      by_cases ej : kv.1 = j
      · subst ej; simp [e, e']
      · simp only [if_neg ej, List.map_cons, List.mem_cons, e', false_or]
theorem kvGet_put : kvGet (kvPut kvs k v) j = if j = k then some v else kvGet kvs j := by
  by_cases h : k ∈ kvs.map (·.1)
  · have e : kvPut kvs k v = kvs.map fun kv => if kv.1 = k then (kv.1, v) else kv := by
      unfold kvPut
      rw [if_pos]
      obtain ⟨kv, h1, h2⟩ := List.mem_map.mp h
      exact List.any_eq_true.mpr ⟨kv, h1, decide_eq_true h2⟩
    rw [e, kvGet_rep]
    simp only [h, and_true]
  · rw [kvPut_new h, kvGet_app, kvGet_cons]
    by_cases ej : j = k
    · subst ej
      rw [kvGet_none.mpr h]
      simp
    · rw [if_neg ej, if_neg (Ne.symm ej)]
      show (kvGet kvs j).or none = _
      simp
theorem kvPut_len : (kvPut kvs k v).length ≤ kvs.length + 1 := by
  have := congrArg List.length (kvPut_keys (kvs := kvs) (k := k) (v := v))
  rw [List.length_map] at this
  split at this <;> simp at this <;> omega
theorem kvPut_nodup (h : (kvs.map (·.1)).Nodup) : ((kvPut kvs k v).map (·.1)).Nodup := by
  rw [kvPut_keys]
  split
  · exact h
  · rename_i e
    refine List.nodup_append.mpr ⟨h, by simp, ?_⟩
    intro a ha b hb z
    simp at hb
    subst hb
    subst z
    exact e ha
end
theorem asPair_pairD (k : Int × Int) : asPair (pairD k) = some k := rfl
theorem pairD_inj {k j : Int × Int} (h : pairD k = pairD j) : k = j := by
  have := asPair_pairD k
  rw [h, asPair_pairD] at this
  exact (Option.some.inj this).symm
/-! ### sorts -/
section
variable {α : Type} {lt : α → α → Bool}
theorem sort_id (O : Swo lt) {l : List α} (h : Srtd lt l) : sortBy lt l = l := stb_unique O (sort_sorted O l) h (sort_stb O l)
theorem sort_mapB {β : Type} {lt : α → α → Bool} {lt' : β → β → Bool} (g : α → β) (h : ∀ a b, lt' (g a) (g b) = lt a b) : ∀ l : List α, sortBy lt' (l.map g) = (sortBy lt l).map g
  | [] => rfl
  | x :: r => by
    show sortBy.insBy lt' (g x) (sortBy lt' (r.map g)) = (sortBy.insBy lt x (sortBy lt r)).map g
    rw [sort_mapB g h r]
    generalize sortBy lt r = l
    induction l with
    | nil => rfl
    | cons y l ih =>
      simp only [List.map_cons, sortBy.insBy, h]
      split
      · rw [List.map_cons, ih]
      · rfl
/-- sorted without ties, and the same members: the same list -/
theorem strict_unique {r : α → α → Prop} (irr : ∀ a, ¬ r a a) (asym : ∀ a b, r a b → r b a → False) : ∀ {l m : List α}, l.Pairwise r → m.Pairwise r → (∀ x, x ∈ l ↔ x ∈ m) → l = m
  | [], [], _, _, _ => rfl
  | [], y :: m, _, _, h => by simpa using h y
  | x :: l, [], _, _, h => by simpa using h x
  | x :: l, y :: m, h1, h2, h => by
    obtain ⟨a1, a2⟩ := List.pairwise_cons.mp h1
    obtain ⟨b1, b2⟩ := List.pairwise_cons.mp h2
    have e : x = y := by
      rcases List.mem_cons.mp ((h x).mp List.mem_cons_self) with e | e
      · exact e
      · rcases List.mem_cons.mp ((h y).mpr List.mem_cons_self) with z | z
        · exact z.symm
        · exact (asym _ _ (b1 x e) (a1 y z)).elim
    subst e
    rw [strict_unique irr asym a2 b2 fun z => ?_]
    constructor
    · intro hz
      rcases List.mem_cons.mp ((h z).mp (List.mem_cons_of_mem _ hz)) with e | e
      · subst e; exact (irr _ (a1 _ hz)).elim
      · exact e
    · intro hz
      rcases List.mem_cons.mp ((h z).mpr (List.mem_cons_of_mem _ hz)) with e | e
      · subst e; exact (irr _ (b1 _ hz)).elim
      · exact e
end
end NF
end -- NfWp4

section -- NfPl
set_option linter.all false
set_option autoImplicit false
set_option maxRecDepth 10000
/-! The deeds as the document tells them: a plain model, no program in sight. -/
namespace NF
open SrtO
abbrev Key := Int × Int
inductive Act where
  | new (x : List Nat) (w : Int) | name (t : Key) (x : List Nat) | worth (t : Key) (w : Int) | drop (t : Key)
  deriving DecidableEq
abbrev Deed := Key × Act
def sNew : List Nat := [110, 101, 119]
def sName : List Nat := [110, 97, 109, 101]
def sWorth : List Nat := [119, 111, 114, 116, 104]
def sDrop : List Nat := [100, 114, 111, 112]
def Act.ds : Act → List D
  | .new x w => [.str sNew, .str x, .int w]
  | .name t x => [.str sName, pairD t, .str x]
  | .worth t w => [.str sWorth, pairD t, .int w]
  | .drop t => [.str sDrop, pairD t]
def dD (d : Deed) : D := .tup (.int d.1.1 :: .int d.1.2 :: d.2.ds)
/-- at what row a deed is aimed -/
def Act.at : Act → Option Key
  | .new _ _ => none
  | .name t _ => some t
  | .worth t _ => some t
  | .drop t => some t
def ltK (a b : Key) : Bool := decide (a.1 < b.1) || (decide (a.1 = b.1) && decide (a.2 < b.2))
theorem ltK_irr (a : Key) : ltK a a = false := by simp [ltK]
theorem ltK_tr {a b c : Key} (h1 : ltK a b = true) (h2 : ltK b c = true) : ltK a c = true := by
  simp only [ltK, Bool.or_eq_true, Bool.and_eq_true, decide_eq_true_eq] at *
  omega
theorem ltK_asym {a b : Key} (h1 : ltK a b = true) (h2 : ltK b a = true) : False := by
  have := ltK_tr h1 h2
  rw [ltK_irr] at this
  cases this
theorem ltK_tri {a b : Key} (h : a ≠ b) : ltK a b = true ∨ ltK b a = true := by
  simp only [ltK, Bool.or_eq_true, Bool.and_eq_true, decide_eq_true_eq]
  have : ¬ (a.1 = b.1 ∧ a.2 = b.2) := fun z => h (Prod.ext z.1 z.2)
  omega
theorem cmpI_eq0 (a b : Int) : (cmpI a b == .eq) = decide (a = b) := by
  unfold cmpI
  by_cases h1 : a < b
  · rw [if_pos h1, decide_eq_false (by omega)]; rfl
  · rw [if_neg h1]
    by_cases h2 : b < a
    · rw [if_pos h2, decide_eq_false (by omega)]; rfl
    · rw [if_neg h2, decide_eq_true (by omega)]; rfl
/-- the first pair of two tuples decides, where it differs -/
theorem ltD_pre (a b : Key) (r q : List D) : ltD (.tup (.int a.1 :: .int a.2 :: r)) (.tup (.int b.1 :: .int b.2 :: q)) = (ltK a b || (decide (a = b) && ltD (.tup r) (.tup q))) := by
  unfold ltD ltK
  simp only [cmpD, cmpDs]
  unfold cmpI
  by_cases h1 : a.1 < b.1
  · simp [h1]
  · by_cases h2 : b.1 < a.1
    · have : ¬ a.1 = b.1 := by omega
      have e : ¬ a = b := fun z => this (by rw [z])
      simp [h1, h2, this, e]
    · have e1 : a.1 = b.1 := by omega
      by_cases h3 : a.2 < b.2
      · simp [h1, h2, h3, e1]
      · by_cases h4 : b.2 < a.2
        · have : ¬ a.2 = b.2 := by omega
          have e : ¬ a = b := fun z => this (by rw [z])
          simp [h1, h2, h3, h4, e1, e]
        · have e2 : a.2 = b.2 := by omega
          have e : a = b := Prod.ext e1 e2
          simp [h1, h2, h3, h4, e1, e]
theorem ltD_pairD (a b : Key) : ltD (pairD a) (pairD b) = ltK a b := by
  unfold pairD
  rw [ltD_pre]
  simp [ltD, cmpD, cmpDs]
theorem ltD_dD {d e : Deed} (h : d.1 ≠ e.1) : ltD (dD d) (dD e) = ltK d.1 e.1 := by
  unfold dD
  rw [ltD_pre]
  simp [h]
/-! ### good deeds -/
def okName (x : List Nat) : Bool := decide (1 ≤ x.length) && (decide (x.length ≤ 4) && x.all fun c => [97, 98, 99, 100, 101, 102, 103, 104, 105, 106, 107, 108, 109, 110, 111, 112, 113, 114, 115, 116, 117, 118, 119, 120, 121, 122].contains c)
def okWorth (w : Int) : Bool := decide (0 ≤ w) && decide (w ≤ 99)
def okKey (k : Key) : Bool := decide (1 ≤ k.1) && decide (k.1 ≤ 999) && (decide (1 ≤ k.2) && decide (k.2 ≤ 5))
def okAct (k : Key) : Act → Bool
  | .new x w => okName x && okWorth w
  | .name t x => okKey t && ltK t k && okName x
  | .worth t w => okKey t && ltK t k && okWorth w
  | .drop t => okKey t && ltK t k
def okDeed (d : Deed) : Bool := okKey d.1 && okAct d.1 d.2
theorem pure_pairD (k : Key) : pureD (pairD k) = true := rfl
theorem pure_dD (d : Deed) : pureD (dD d) = true := by
  obtain ⟨k, a⟩ := d
  cases a <;> rfl
theorem cmpb_ints (a b : Key) (r q : List D) (h : a = b → cmpbs r q = true) : cmpb (.tup (.int a.1 :: .int a.2 :: r)) (.tup (.int b.1 :: .int b.2 :: q)) = true := by
  simp only [cmpb, cmpbs]
  by_cases h1 : cmpD (.int a.1) (.int b.1) = .eq
  · rw [if_pos h1]
    by_cases h2 : cmpD (.int a.2) (.int b.2) = .eq
    · rw [if_pos h2]
      have e1 := cmpD_eq.mp h1
      have e2 := cmpD_eq.mp h2
      simp only [D.int.injEq] at e1 e2
      exact h (Prod.ext e1 e2)
    · rw [if_neg h2]
  · rw [if_neg h1]
theorem cmpb_pairD (a b : Key) : cmpb (pairD a) (pairD b) = true := cmpb_ints a b [] [] fun _ => rfl
theorem allCmp_pairs (ks : List Key) : allCmp (ks.map pairD) = true := by
  unfold allCmp
  rw [List.all_eq_true]
  intro x hx
  obtain ⟨k, _, rfl⟩ := List.mem_map.mp hx
  simp only [Bool.and_eq_true]
  refine ⟨⟨pure_pairD k, rfl⟩, List.all_eq_true.mpr fun y hy => ?_⟩
  obtain ⟨j, _, rfl⟩ := List.mem_map.mp hy
  exact cmpb_pairD k j
/-- one deed of a key -/
def Fnl (L : List Deed) : Prop := ∀ a ∈ L, ∀ b ∈ L, a.1 = b.1 → a = b
/-- P is L in the order of keys, each once -/
structure IsOrd (P L : List Deed) : Prop where
  srt : P.Pairwise fun a b => ltK a.1 b.1 = true
  mem : ∀ d, d ∈ P ↔ d ∈ L
theorem IsOrd.fnl {P L : List Deed} (o : IsOrd P L) : Fnl L := by
  have key : ∀ {P : List Deed}, P.Pairwise (fun a b => ltK a.1 b.1 = true) → ∀ a ∈ P, ∀ b ∈ P, a.1 = b.1 → a = b := by
    intro P h
    induction h with
    | nil => intro a ha; cases ha
    | cons h1 h2 ih =>
      rename_i x P
      intro a ha b hb e
      rcases List.mem_cons.mp ha with ea | ea <;> rcases List.mem_cons.mp hb with eb | eb
      · rw [ea, eb]
      · have := h1 b eb
        rw [← ea, e, ltK_irr] at this
        cases this
      · have := h1 a ea
        rw [← eb, e, ltK_irr] at this
        cases this
      · exact ih a ea b eb e
  intro a ha b hb e
  exact key o.srt a ((o.mem a).mpr ha) b ((o.mem b).mpr hb) e
theorem IsOrd.of_mem {P L M : List Deed} (o : IsOrd P L) (h : ∀ d, d ∈ M ↔ d ∈ L) : IsOrd P M := ⟨o.srt, fun d => (o.mem d).trans (h d).symm⟩
theorem IsOrd.uniq {P P' L : List Deed} (o : IsOrd P L) (o' : IsOrd P' L) : P = P' :=
  strict_unique (r := fun a b => ltK a.1 b.1 = true) (fun a h => by rw [ltK_irr] at h; cases h) (fun _ _ => ltK_asym) o.srt o'.srt fun d => (o.mem d).trans (o'.mem d).symm
/-- a deed put into its place -/
def insK (d : Deed) : List Deed → List Deed
  | [] => [d]
  | e :: r => if ltK d.1 e.1 then d :: e :: r else if d.1 = e.1 then e :: r else e :: insK d r
def ordL : List Deed → List Deed
  | [] => []
  | d :: r => insK d (ordL r)
theorem insK_mem {d e : Deed} : ∀ {P : List Deed}, e ∈ insK d P → e = d ∨ e ∈ P
  | [], h => by simpa [insK] using h
  | f :: r, h => by
    unfold insK at h
    split at h
    · simpa using h
    · split at h
      · exact .inr h
      · rcases List.mem_cons.mp h with z | z
        · exact .inr (z ▸ List.mem_cons_self)
        · exact (insK_mem z).imp id fun z => List.mem_cons_of_mem _ z
theorem insK_old {d e : Deed} : ∀ {P : List Deed}, e ∈ P → e ∈ insK d P
  | f :: r, h => by
    unfold insK
    split
    · exact List.mem_cons_of_mem _ h
    · split
      · exact h
      · rcases List.mem_cons.mp h with z | z
        · exact z ▸ List.mem_cons_self
        · exact List.mem_cons_of_mem _ (insK_old z)
theorem insK_new {d : Deed} : ∀ {P : List Deed}, (∀ e ∈ P, d.1 = e.1 → d = e) → d ∈ insK d P
  | [], _ => by simp [insK]
  | f :: r, h => by
    unfold insK
    split
    · exact List.mem_cons_self
    · split
      · rename_i e
        rw [← h f List.mem_cons_self e]
        exact List.mem_cons_self
      · exact List.mem_cons_of_mem _ (insK_new fun e he => h e (List.mem_cons_of_mem _ he))
theorem insK_srt {d : Deed} : ∀ {P : List Deed}, P.Pairwise (fun a b => ltK a.1 b.1 = true) → (insK d P).Pairwise fun a b => ltK a.1 b.1 = true
  | [], _ => by simp [insK]
  | f :: r, h => by
    unfold insK
    obtain ⟨h1, h2⟩ := List.pairwise_cons.mp h
    split
    · rename_i e
      refine List.pairwise_cons.mpr ⟨fun x hx => ?_, h⟩
      rcases List.mem_cons.mp hx with z | z
      · rw [z]; exact e
      · exact ltK_tr e (h1 x z)
    · split
      · exact h
      · rename_i e1 e2
        refine List.pairwise_cons.mpr ⟨fun x hx => ?_, insK_srt h2⟩
        rcases insK_mem hx with z | z
        · rw [z]
          exact (ltK_tri (Ne.symm e2)).resolve_right e1
        · exact h1 x z
theorem ordL_ord : ∀ {L : List Deed}, Fnl L → IsOrd (ordL L) L
  | [], _ => ⟨List.Pairwise.nil, fun d => Iff.rfl⟩
  | d :: r, h => by
    have ih := ordL_ord (L := r) fun a ha b hb => h a (List.mem_cons_of_mem _ ha) b (List.mem_cons_of_mem _ hb)
    refine ⟨insK_srt ih.srt, fun e => ⟨fun he => ?_, fun he => ?_⟩⟩
    · rcases insK_mem he with z | z
      · rw [z]; exact List.mem_cons_self
      · exact List.mem_cons_of_mem _ ((ih.mem e).mp z)
    · rcases List.mem_cons.mp he with z | z
      · rw [z]
        exact insK_new fun f hf => h d List.mem_cons_self f (List.mem_cons_of_mem _ ((ih.mem f).mp hf))
      · exact insK_old ((ih.mem e).mpr z)
theorem IsOrd.keys_nodup {P L : List Deed} (o : IsOrd P L) : (P.map (·.1)).Nodup := by
  unfold List.Nodup
  rw [List.pairwise_map]
  exact o.srt.imp fun h z => by rw [z, ltK_irr] at h; cases h
theorem srt_pairs {ks : List Key} (h : ks.Pairwise fun a b => ltK a b = true) : sortBy ltD (ks.map pairD) = ks.map pairD := by
  refine sort_id swo_ltD ?_
  unfold Srtd
  rw [List.pairwise_map]
  refine h.imp fun {a b} e => ?_
  rw [ltD_pairD]
  cases z : ltK b a with
  | false => rfl
  | true => exact (ltK_asym e z).elim
theorem pairs_nodup {ks : List Key} (h : ks.Nodup) : (ks.map pairD).Nodup := by
  unfold List.Nodup at *
  rw [List.pairwise_map]
  exact h.imp fun h z => h (pairD_inj z)
/-- keys however laid: sorted, those of P -/
theorem sort_keys {P L : List Deed} {ks : List Key} (o : IsOrd P L) (hn : ks.Nodup) (hm : ∀ k, k ∈ ks ↔ k ∈ L.map (·.1)) : sortBy ltD (ks.map pairD) = P.map fun d => pairD d.1 := by
  have p : ks.Perm (P.map (·.1)) := by
    refine (List.perm_ext_iff_of_nodup hn o.keys_nodup).mpr fun k => ?_
    rw [hm k]
    simp only [List.mem_map]
    constructor <;> rintro ⟨d, h1, h2⟩
    · exact ⟨d, (o.mem d).mpr h1, h2⟩
    · exact ⟨d, (o.mem d).mp h1, h2⟩
  rw [sort_same (p.map pairD), srt_pairs (by rw [List.pairwise_map]; exact o.srt), List.map_map]
  rfl
end NF
end -- NfPl

section -- NfWd
set_option linter.all false
set_option autoImplicit false
set_option maxRecDepth 10000
/-! The walk of the deeds' functions. -/
namespace NF
section
variable {S : Store} {Q : D → Store → Prop} {X : Ex → Store → Prop}
theorem wb_t2 {i j : Nat} {a b : D} {ρ : Env} {Q : Env → Store → Prop} : wp (Tg.bind (.tup [i, j]) (.tup [a, b]) ρ) S Q X = Q ((ρ.set i (some a)).set j (some b)) S := nrfl rfl
theorem wb_t3 {i j k : Nat} {a b c : D} {ρ : Env} {Q : Env → Store → Prop} : wp (Tg.bind (.tup [i, j, k]) (.tup [a, b, c]) ρ) S Q X = Q (((ρ.set i (some a)).set j (some b)).set k (some c)) S := nrfl rfl
theorem wb_t4 {i j k l : Nat} {a b c d : D} {ρ : Env} {Q : Env → Store → Prop} : wp (Tg.bind (.tup [i, j, k, l]) (.tup [a, b, c, d]) ρ) S Q X = Q ((((ρ.set i (some a)).set j (some b)).set k (some c)).set l (some d)) S := nrfl rfl
theorem ix_lit {n : Nat} (j : Nat) (h : j < n) : ixOf n (j : Int) = some j := ix_nat h
theorem idx_t0 (a : D) (r : List D) : idxM (.tup (a :: r)) (.int 0) = ret a := by rw [idx_tup, show (0 : Int) = ((0 : Nat) : Int) from rfl, ix_nat (by simp)]; rfl
theorem idx_t1 (a b : D) (r : List D) : idxM (.tup (a :: b :: r)) (.int 1) = ret b := by rw [idx_tup, show (1 : Int) = ((1 : Nat) : Int) from rfl, ix_nat (by simp)]; rfl
theorem idx_t2 (a b c : D) (r : List D) : idxM (.tup (a :: b :: c :: r)) (.int 2) = ret c := by rw [idx_tup, show (2 : Int) = ((2 : Nat) : Int) from rfl, ix_nat (by simp)]; rfl
theorem idx_t3 (a b c d : D) (r : List D) : idxM (.tup (a :: b :: c :: d :: r)) (.int 3) = ret d := by rw [idx_tup, show (3 : Int) = ((3 : Nat) : Int) from rfl, ix_nat (by simp)]; rfl
theorem idx_t4 (a b c d e : D) (r : List D) : idxM (.tup (a :: b :: c :: d :: e :: r)) (.int 4) = ret e := by rw [idx_tup, show (4 : Int) = ((4 : Nat) : Int) from rfl, ix_nat (by simp)]; rfl
theorem slc_t2 (a b : D) (r : List D) : slcM (.tup (a :: b :: r)) none (some 2) = ret (.tup [a, b]) := by
  rw [slc_tup]
  congr 2
theorem intO_2 : intO (some (.int 2)) = ret (some 2) := nrfl rfl
end
local macro_rules | `(tactic| walk_at "nf") => `(tactic| simp only [↓ws_nil, ↓ws_cons, ↓ws_asg, ↓ws_unp, ↓ws_par, ↓ws_sat, ↓ws_ssub, ↓ws_dsub, ↓ws_exp, ↓ws_ret, ↓ws_retN, ↓ws_pass, ↓ws_cont, ↓ws_ife, ↓ws_raise, ↓ws_for, ↓goS_nx, ↓goS_ct, ↓goS_rt, ↓we_var, ↓we_int, ↓we_str, ↓we_bl, ↓we_non, ↓we_neg, ↓we_glb, ↓we_tup, ↓we_lst, ↓we_dctT, ↓we_dctK, ↓we_bin, ↓we_cmp, ↓we_chain, ↓we_isn, ↓we_andv, ↓we_orv, ↓wand1, ↓wand2, ↓wor1, ↓wor2, ↓we_notv, ↓we_ife, ↓we_idx, ↓we_dix, ↓we_slc, ↓we_rev, ↓we_att, ↓we_call, ↓we_mk, ↓we_meth, ↓we_bi, ↓we_bm, ↓we_lenset, ↓we_sortset, ↓we_sortk, ↓we_sortf, ↓we_sortkeys, ↓we_listkeys, ↓we_isTy, ↓we_isEx, ↓we_lc, ↓wo_none, ↓wo_some, ↓wes_nil, ↓wes_cons, ↓wc_none, ↓wc_some, ↓wb_nm, ↓wt_ex, ↓wt_not, ↓wt_and, ↓wt_or, ↓wt_ife, ↓wtand_nil, ↓wtand_cons, ↓wtor_nil, ↓wtor_cons, ↓wtr_bl, ↓wtr_int, ↓w_turn, ↓w_body, ↓ifB_bl, ↓wp_ret, ↓wp_orS, ↓wp_bnd, List.getElem?_cons_zero, List.getElem?_cons_succ, Option.join_some, List.set_cons_zero, List.set_cons_succ, List.map_cons, List.map_nil, List.cons_append, List.nil_append, List.length_cons, List.length_nil, List.replicate_succ, List.replicate_zero, wipeE, cmp_le, cmp_lt, cmp_gt, cmp_ge, cmp_eqS, cmp_neS, cmp_eqI, cmp_neI, add_int, sub_int, len_tup, list_tup, ↓wk_seqT, ↓wk_seqS, ↓lv_lst, ↓lv_fix, isN, idx_t0, idx_t1, idx_t2, idx_t3, idx_t4, slc_t2, intO_2, Nat.reduceSub, Nat.reduceAdd, Bool.false_eq_true, if_true, if_false, Bool.not_true, Bool.not_false, Wk.items, decide_eq_true_eq, Bool.not_eq_true', decide_eq_false_iff_not, List.cons.injEq, Nat.reduceEqDiff, reduceCtorEq, and_false, false_and, and_true, true_and, decide_true, decide_false, not_true_eq_false, not_false_eq_true, Int.cast_ofNat_Int, Int.reduceLT, Int.reduceLE, Int.reduceEq, Int.reduceNe, Option.isSome_some, Option.isSome_none, sNew, sName, sWorth, sDrop, ne_eq, ↓wb_t2, ↓wb_t3, ↓wb_t4])
def siz : List (List Nat × D) := [(sNew, .int 5), (sName, .int 5), (sWorth, .int 5), (sDrop, .int 4)]
/-- what stands in every store -/
def Bse (S : Store) : Prop := S[0]? = some (.rod siz)
theorem Bse.sub {S S' : Store} {W : List Nat} (b : Bse S) (s : Sub W S S') (h : 0 ∉ W) : Bse S' := s.get b h
structure HDeeds (Δ : String → Option Fn) : Prop where
  is_name : Δ "is_name" = some TR.fn_is_name
  is_worth : Δ "is_worth" = some TR.fn_is_worth
  is_key : Δ "is_key" = some TR.fn_is_key
  is_deed : Δ "is_deed" = some TR.fn_is_deed
  look_deeds : Δ "look_deeds" = some TR.fn_look_deeds
  in_order : Δ "in_order" = some TR.fn_in_order
section
variable {Δ : String → Option Fn} {k n : Nat} {S : Store} {Q : D → Store → Prop} {X : Ex → Store → Prop}
theorem is_worth_eq (hΔ : HDeeds Δ) {w : Int} : wp (callF Δ (k + 1) "is_worth" [.int w]) S Q X = Q (.bl (okWorth w)) S := by
  rw [wp_call hΔ.is_worth rfl]
  unfold TR.fn_is_worth
  walk_at "nf"
  unfold okWorth
  by_cases h : 0 ≤ w <;> simp [h]
theorem is_key_eq (hΔ : HDeeds Δ) {p : Key} : wp (callF Δ (k + 1) "is_key" [pairD p]) S Q X = Q (.bl (okKey p)) S := by
  rw [wp_call hΔ.is_key rfl]
  unfold TR.fn_is_key pairD
  walk_at "nf"
  unfold okKey
  by_cases h1 : 1 ≤ p.1 <;> by_cases h2 : p.1 ≤ 999 <;> by_cases h3 : 1 ≤ p.2 <;> simp [h1, h2, h3]
theorem is_name_ok (hΔ : HDeeds Δ) {x : List Nat} (hl : x.length ≤ line) (h : ∀ S', Sub [] S S' → Q (.bl (okName x)) S') : wp (callF Δ (k + 1) "is_name" [.str x]) S Q X := by
  rw [wp_call hΔ.is_name rfl]
  unfold TR.fn_is_name
  walk_at "nf"
  rw [len_str hl]
  walk_at "nf"
  unfold okName at h
  by_cases h1 : 1 ≤ x.length
  · by_cases h2 : x.length ≤ 4
    · rw [if_pos (by omega), if_pos (by omega)]
      refine wp_gather0 x (fun c => some (.bl ([97, 98, 99, 100, 101, 102, 103, 104, 105, 106, 107, 108, 109, 110, 111, 112, 113, 114, 115, 116, 117, 118, 119, 120, 121, 122].contains c))) trivial (fun c _ => ?_) ?_
      · walk_at "nf"
        rw [in_sign]
        walk_at "nf"
      · have e : (x.filterMap fun c => some (D.bl ([97, 98, 99, 100, 101, 102, 103, 104, 105, 106, 107, 108, 109, 110, 111, 112, 113, 114, 115, 116, 117, 118, 119, 120, 121, 122].contains c))) = (x.map fun c => [97, 98, 99, 100, 101, 102, 103, 104, 105, 106, 107, 108, 109, 110, 111, 112, 113, 114, 115, 116, 117, 118, 119, 120, 121, 122].contains c).map D.bl := by
          rw [List.map_map, fm_some]
          rfl
        rw [e]
        rw [if_pos (by simpa using hl), wp_all (.inl (get_new _ _)), List.all_map]
        have := h (S ++ [.lst ((x.map fun c => [97, 98, 99, 100, 101, 102, 103, 104, 105, 106, 107, 108, 109, 110, 111, 112, 113, 114, 115, 116, 117, 118, 119, 120, 121, 122].contains c).map D.bl)]) (Sub.app _ _)
        rw [decide_eq_true h1, decide_eq_true h2] at this
        exact this
    · rw [if_pos (by omega), if_neg (by omega)]
      have := h S (Sub.refl _ _)
      rw [decide_eq_true h1, decide_eq_false h2] at this
      exact this
  · rw [if_neg (by omega)]
    have := h S (Sub.refl _ _)
    rw [decide_eq_false h1] at this
    exact this
theorem siz_new : kvGet siz [110, 101, 119] = some (.int 5) := rfl
theorem siz_name : kvGet siz [110, 97, 109, 101] = some (.int 5) := rfl
theorem siz_worth : kvGet siz [119, 111, 114, 116, 104] = some (.int 5) := rfl
theorem siz_drop : kvGet siz [100, 114, 111, 112] = some (.int 4) := rfl
theorem sz_nin (b : Bse S) {x : List Nat} : wp (cmpM .nin (.str x) (.ref 0)) S Q X = Q (.bl (!(kvGet siz x).isSome)) S := wp_ninR b x
theorem sz_dix (b : Bse S) {x : List Nat} : wp (dixM (.ref 0) (.str x)) S Q X = wp (orBad (kvGet siz x)) S Q X := wp_dixR b x
theorem name_line {x : List Nat} (h : okName x = true) : x.length ≤ line := by
  unfold okName at h
  simp only [Bool.and_eq_true, decide_eq_true_eq] at h
  unfold line
  omega
theorem ge_keys (a b : Key) : cmpM .ge (.tup [.int a.1, .int a.2]) (.tup [.int b.1, .int b.2]) = ret (.bl (!ltK a b)) := by
  have h := cmp_geP (pure_pairD a) (pure_pairD b) (cmpb_pairD a b)
  rw [ltD_pairD] at h
  exact h
theorem lt_keys (a b : Key) : cmpM .lt (.tup [.int a.1, .int a.2]) (.tup [.int b.1, .int b.2]) = ret (.bl (ltK a b)) := by
  have h := cmp_ltP (pure_pairD a) (pure_pairD b) (cmpb_pairD a b)
  rw [ltD_pairD] at h
  exact h
theorem is_deed_ok (hΔ : HDeeds Δ) {d : Deed} (b : Bse S) (ok : okDeed d = true) (h : ∀ S', Sub [] S S' → Q (.bl true) S') : wp (callF Δ (k + 2) "is_deed" [dD d]) S Q X := by
  obtain ⟨p, a⟩ := d
  unfold okDeed at ok
  rw [Bool.and_eq_true] at ok
  obtain ⟨ok1, ok2⟩ := ok
  dsimp only at ok1 ok2
  rw [wp_call hΔ.is_deed rfl]
  unfold TR.fn_is_deed
  have hk : ∀ {q : Key} {S : Store} {Q : D → Store → Prop} {X : Ex → Store → Prop}, wp (callF Δ (k + 1) "is_key" [.tup [.int q.1, .int q.2]]) S Q X = Q (.bl (okKey q)) S := is_key_eq hΔ
  have hw : ∀ {w : Int} {S : Store} {Q : D → Store → Prop} {X : Ex → Store → Prop}, wp (callF Δ (k + 1) "is_worth" [.int w]) S Q X = Q (.bl (okWorth w)) S := is_worth_eq hΔ
  cases a with
  | new x w =>
    unfold dD Act.ds
    unfold okAct at ok2
    simp only [Bool.and_eq_true] at ok2
    repeat (first | walk_at "nf" | simp only [sz_nin b, sz_dix b, siz_new, hk, ok1])
    refine is_name_ok hΔ (name_line ok2.1) fun S' s => ?_
    rw [ok2.1]
    repeat (first | walk_at "nf" | simp only [hw, ok2.2])
    exact h S' s
  | name t x =>
    unfold dD Act.ds pairD
    unfold okAct at ok2
    simp only [Bool.and_eq_true] at ok2
    repeat (first | walk_at "nf" | simp only [sz_nin b, sz_dix b, siz_name, hk, ok1, ok2.1.1, ge_keys, ok2.1.2])
    refine is_name_ok hΔ (name_line ok2.2) fun S' s => ?_
    rw [ok2.2]
    exact h S' s
  | worth t w =>
    unfold dD Act.ds pairD
    unfold okAct at ok2
    simp only [Bool.and_eq_true] at ok2
    repeat (first | walk_at "nf" | simp only [sz_nin b, sz_dix b, siz_worth, hk, ok1, ok2.1.1, ge_keys, ok2.1.2, hw, ok2.2])
    exact h S (Sub.refl _ _)
  | drop t =>
    unfold dD Act.ds pairD
    unfold okAct at ok2
    simp only [Bool.and_eq_true] at ok2
    repeat (first | walk_at "nf" | simp only [sz_nin b, sz_dix b, siz_drop, hk, ok1, ok2.1, ge_keys, ok2.2])
    exact h S (Sub.refl _ _)
end
end NF
end -- NfWd

section -- NfWd2
set_option linter.all false
set_option autoImplicit false
set_option maxRecDepth 10000
/-! The walk of look_deeds and in_order. -/
namespace NF
open SrtO
local macro_rules | `(tactic| walk_at "nf") => `(tactic| simp only [↓ws_nil, ↓ws_cons, ↓ws_asg, ↓ws_unp, ↓ws_par, ↓ws_sat, ↓ws_ssub, ↓ws_dsub, ↓ws_exp, ↓ws_ret, ↓ws_retN, ↓ws_pass, ↓ws_cont, ↓ws_ife, ↓ws_raise, ↓ws_for, ↓goS_nx, ↓goS_ct, ↓goS_rt, ↓we_var, ↓we_int, ↓we_str, ↓we_bl, ↓we_non, ↓we_neg, ↓we_glb, ↓we_tup, ↓we_lst, ↓we_dctT, ↓we_dctK, ↓we_bin, ↓we_cmp, ↓we_chain, ↓we_isn, ↓we_andv, ↓we_orv, ↓wand1, ↓wand2, ↓wor1, ↓wor2, ↓we_notv, ↓we_ife, ↓we_idx, ↓we_dix, ↓we_slc, ↓we_rev, ↓we_att, ↓we_call, ↓we_mk, ↓we_meth, ↓we_bi, ↓we_bm, ↓we_lenset, ↓we_sortset, ↓we_sortk, ↓we_sortf, ↓we_sortkeys, ↓we_listkeys, ↓we_isTy, ↓we_isEx, ↓we_lc, ↓wo_none, ↓wo_some, ↓wes_nil, ↓wes_cons, ↓wc_none, ↓wc_some, ↓wb_nm, ↓wt_ex, ↓wt_not, ↓wt_and, ↓wt_or, ↓wt_ife, ↓wtand_nil, ↓wtand_cons, ↓wtor_nil, ↓wtor_cons, ↓wtr_bl, ↓wtr_int, ↓w_turn, ↓w_body, ↓ifB_bl, ↓wp_ret, ↓wp_orS, ↓wp_bnd, List.getElem?_cons_zero, List.getElem?_cons_succ, Option.join_some, List.set_cons_zero, List.set_cons_succ, List.map_cons, List.map_nil, List.cons_append, List.nil_append, List.length_cons, List.length_nil, List.replicate_succ, List.replicate_zero, wipeE, cmp_le, cmp_lt, cmp_gt, cmp_ge, cmp_eqS, cmp_neS, cmp_eqI, cmp_neI, add_int, sub_int, len_tup, list_tup, ↓wk_seqT, ↓wk_seqS, ↓lv_lst, ↓lv_fix, isN, idx_t0, idx_t1, idx_t2, idx_t3, idx_t4, slc_t2, intO_2, Nat.reduceSub, Nat.reduceAdd, Bool.false_eq_true, if_true, if_false, Bool.not_true, Bool.not_false, Wk.items, decide_eq_true_eq, Bool.not_eq_true', decide_eq_false_iff_not, List.cons.injEq, Nat.reduceEqDiff, reduceCtorEq, and_false, false_and, and_true, true_and, decide_true, decide_false, not_true_eq_false, not_false_eq_true, Int.cast_ofNat_Int, Int.reduceLT, Int.reduceLE, Int.reduceEq, Int.reduceNe, Option.isSome_some, Option.isSome_none, sNew, sName, sWorth, sDrop, ne_eq, ↓wb_t2, ↓wb_t3, ↓wb_t4])
section
variable {Δ : String → Option Fn} {k n : Nat} {S : Store} {Q : D → Store → Prop} {X : Ex → Store → Prop}
theorem dD_new (p : Key) (x : List Nat) (w : Int) : dD (p, .new x w) = .tup [.int p.1, .int p.2, .str sNew, .str x, .int w] := rfl
theorem dD_name (p t : Key) (x : List Nat) : dD (p, .name t x) = .tup [.int p.1, .int p.2, .str sName, pairD t, .str x] := rfl
theorem dD_worth (p t : Key) (w : Int) : dD (p, .worth t w) = .tup [.int p.1, .int p.2, .str sWorth, pairD t, .int w] := rfl
theorem dD_drop (p t : Key) : dD (p, .drop t) = .tup [.int p.1, .int p.2, .str sDrop, pairD t] := rfl
theorem pair_eta (p : Key) : D.tup [.int p.1, .int p.2] = pairD p := rfl
theorem wp_inK {n : Nat} {kvs : List ((Int × Int) × D)} (h : S[n]? = some (.dct kvs)) (t : Key) : wp (cmpM .inn (pairD t) (.ref n)) S Q X = Q (.bl (kvGet kvs t).isSome) S := wp_inT h t.1 t.2
theorem wp_ninK {n : Nat} {kvs : List ((Int × Int) × D)} (h : S[n]? = some (.dct kvs)) (t : Key) : wp (cmpM .nin (pairD t) (.ref n)) S Q X = Q (.bl (!(kvGet kvs t).isSome)) S := wp_ninT h t.1 t.2
theorem wp_dixP {n : Nat} {kvs : List ((Int × Int) × D)} (h : S[n]? = some (.dct kvs)) (t : Key) : wp (dixM (.ref n) (pairD t)) S Q X = wp (orBad (kvGet kvs t)) S Q X := wp_dixT h t.1 t.2
theorem wp_dsubK {n : Nat} {kvs : List ((Int × Int) × D)} {t : Key} {d : D} {Q : Unit → Store → Prop} (h : S[n]? = some (.dct kvs)) (hl : kvs.length < line) : wp (dsubM (.ref n) (pairD t) d) S Q X = Q () (S.set n (.dct (kvPut kvs t d))) := wp_dsubT h hl
theorem slc_dD (d : Deed) : slcM (dD d) none (some 2) = ret (pairD d.1) := slc_t2 _ _ _
theorem dedup_len {A : Type} {f g : A → D} : ∀ {L : List A}, (∀ a ∈ L, ∀ b ∈ L, f a = f b ↔ g a = g b) → (dedup (L.map f)).length = (dedup (L.map g)).length
  | [], _ => rfl
  | x :: r, h => by
    have ih := dedup_len (f := f) (g := g) (L := r) fun a ha b hb => h a (List.mem_cons_of_mem _ ha) b (List.mem_cons_of_mem _ hb)
    simp only [List.map_cons, dedup]
    have e : ((r.map f).any fun e => decide (cmpD (f x) e = .eq)) = ((r.map g).any fun e => decide (cmpD (g x) e = .eq)) := by
      rw [List.any_map, List.any_map]
      rw [Bool.eq_iff_iff, List.any_eq_true, List.any_eq_true]
      constructor <;> rintro ⟨y, hy, e⟩ <;> refine ⟨y, hy, ?_⟩ <;> simp only [Function.comp, decide_eq_true_eq, cmpD_eq] at e ⊢
      · exact (h x List.mem_cons_self y (List.mem_cons_of_mem _ hy)).mp e
      · exact (h x List.mem_cons_self y (List.mem_cons_of_mem _ hy)).mpr e
    rw [e]
    split
    · exact ih
    · simp [ih]
theorem dD_key {d e : Deed} (h : dD d = dD e) : d.1 = e.1 := by
  unfold dD at h
  simp only [D.tup.injEq, List.cons.injEq, D.int.injEq] at h
  exact Prod.ext h.1 h.2.1
theorem Act.ds_inj {a b : Act} (h : a.ds = b.ds) : a = b := by
  cases a <;> cases b <;> simp only [Act.ds, List.cons.injEq, D.str.injEq, D.int.injEq, sNew, sName, sWorth, sDrop, Nat.reduceEqDiff, reduceCtorEq, false_and, and_false, and_true, true_and] at h
  · rw [h.1, h.2]
  · rw [pairD_inj h.1, h.2]
  · rw [pairD_inj h.1, h.2]
  · rw [pairD_inj h]
theorem dD_inj {d e : Deed} (h : dD d = dD e) : d = e := by
  have hk := dD_key h
  unfold dD at h
  simp only [D.tup.injEq, List.cons.injEq] at h
  exact Prod.ext hk (Act.ds_inj h.2.2)
theorem setOk_map {A : Type} {f : A → D} {L : List A} (hp : ∀ a ∈ L, pureD (f a) = true) (ht : ∀ a ∈ L, isTupD (f a) = true) (h : L.length < 64) : setOk (L.map f) = true := by
  unfold setOk
  have e1 : (L.map f).all pureD = true := by
    rw [List.all_map, List.all_eq_true]
    exact hp
  have e2 : (L.map f).all isTupD = true := by
    rw [List.all_map, List.all_eq_true]
    exact ht
  rw [e1, e2, List.length_map, decide_eq_true h]
  rfl
theorem look_ok (hΔ : HDeeds Δ) {L : List Deed} (b : Bse S) (hl : LstAt S n (L.map dD)) (ok : ∀ d ∈ L, okDeed d = true) (f : Fnl L) (sz : L.length < 64) (h : ∀ S', Sub [] S S' → Q .non S') : wp (callF Δ (k + 3) "look_deeds" [.ref n]) S Q X := by
  rw [wp_call hΔ.look_deeds rfl]
  unfold TR.fn_look_deeds
  walk_at "nf"
  rw [wk_seqL hl]
  walk_at "nf"
  refine wp_gatherM L (fun S' => Sub [] S S') (fun _ => some (.bl true)) (Sub.refl _ _) (fun S' s => hl.sub s (by simp)) (fun d S' hd s => ?_) fun S1 s1 => ?_
  · walk_at "nf"
    exact is_deed_ok hΔ (b.sub s (by simp)) (ok d hd) fun S2 s2 => ⟨rfl, s.trans s2⟩
  · skip
    have hll : L.length ≤ line := by unfold line; omega
    have e : (L.filterMap fun _ => some (D.bl true)) = (L.map fun _ => true).map D.bl := by
      rw [fm_some, List.map_map]
      rfl
    rw [e, if_pos (by simpa using hll), wp_all (.inl (get_new _ _))]
    have e : (L.map fun _ => true).all id = true := by simp
    rw [e]
    walk_at "nf"
    have s2 : Sub [] S (S1 ++ [O.lst (List.map D.bl (List.map (fun x => true) L))]) := s1.trans (Sub.app _ _)
    generalize S1 ++ [O.lst (List.map D.bl (List.map (fun x => true) L))] = S2 at s2
    have hl2 := hl.sub s2 (by simp)
    rw [wk_seqL hl2]
    walk_at "nf"
    refine wp_gather0 L (fun d => some (pairD d.1)) hl2 (fun d _ => ?_) ?_
    · walk_at "nf"
      rw [slc_dD]
      walk_at "nf"
    · skip
      rw [fm_some, if_pos (by simpa using hll), wp_lst1 (get_new _ _), if_pos (setOk_map (fun _ _ => pure_pairD _) (fun _ _ => rfl) sz)]
      have hl3 := hl2.sub (Sub.app (W := []) S2 [.lst (L.map fun d => pairD d.1)]) (by simp)
      rw [wp_lst hl3, if_pos (setOk_map (fun d _ => pure_dD d) (fun _ _ => rfl) sz)]
      rw [if_neg]
      · exact h _ (s2.trans (Sub.app _ _))
      · rw [dedup_len (f := fun d : Deed => pairD d.1) (g := dD)]
        · omega
        · intro a ha b hb
          constructor
          · intro z
            rw [f a ha b hb (pairD_inj z)]
          · intro z
            rw [dD_key z]
theorem in_order_ok (hΔ : HDeeds Δ) {P L : List Deed} (o : IsOrd P L) (hl : LstAt S n (L.map dD)) (sz : L.length < 64) (h : ∀ S' m, Sub [] S S' → S.length ≤ m → S'[m]? = some (.lst (P.map dD)) → Q (.ref m) S') : wp (callF Δ (k + 1) "in_order" [.ref n]) S Q X := by
  rw [wp_call hΔ.in_order rfl]
  unfold TR.fn_in_order
  walk_at "nf"
  have hl1 := hl.sub (Sub.app (W := []) S [.dct []]) (by simp)
  rw [wk_seqL hl1]
  walk_at "nf"
  refine wpS_forM L (fun done ρ S' => ∃ kvs d0, ρ = [some (.ref n), some (.ref S.length), d0, none] ∧ Sub [] S S' ∧ S'[S.length]? = some (.dct kvs) ∧ (kvs.map (·.1)).Nodup ∧ kvs.length ≤ done.length ∧ (∀ j, j ∈ kvs.map (·.1) ↔ j ∈ done.map (·.1)) ∧ ∀ d ∈ done, kvGet kvs d.1 = some (dD d)) ?_ ?_ ?_ ?_
  · exact ⟨[], none, rfl, Sub.app _ _, get_new _ _, List.nodup_nil, Nat.le_refl _, fun _ => Iff.rfl, fun d hd => by cases hd⟩
  · rintro done ρ S' ⟨kvs, d0, rfl, s, _⟩
    exact hl.sub s (by simp)
  · rintro done d rest ρ S' e ⟨kvs, d0, rfl, s, hk, hn, hlen, hm, hg⟩
    walk_at "nf"
    rw [slc_dD]
    walk_at "nf"
    unfold pairD
    have hlt : done.length < L.length := by rw [e]; simp
    rw [wp_dsubT hk (by unfold line; omega)]
    refine ⟨kvPut kvs d.1 (dD d), some (dD d), rfl, s.putNew (Nat.le_refl _) _, get_set (get_lt hk) _, kvPut_nodup hn, ?_, fun j => ?_, fun d' hd' => ?_⟩
    · rw [List.length_append]
      have := kvPut_len (kvs := kvs) (k := d.1) (v := dD d)
      simp
      omega
    · rw [kvPut_keys, List.map_append, List.mem_append]
      split
      · rename_i z
        rw [hm j]
        simp only [List.map_cons, List.map_nil, List.mem_singleton]
        constructor
        · exact .inl
        · rintro (z' | z')
          · exact z'
          · rw [z', ← hm]; exact z
      · rw [List.mem_append, hm j]
        rfl
    · rw [kvGet_put]
      rcases List.mem_append.mp hd' with z | z
      · split
        · rename_i e1
          rw [o.fnl d' (by rw [e]; exact List.mem_append_left _ z) d (by rw [e]; simp) e1]
        · exact hg d' z
      · rw [List.mem_singleton.mp z, if_pos rfl]
  · rintro ρ S1 ⟨kvs, d0, rfl, s, hk, hn, hlen, hm, hg⟩
    walk_at "nf"
    rw [wp_skM hk]
    have e1 : (kvs.map fun kv => pairD kv.1) = (kvs.map (·.1)).map pairD := by rw [List.map_map]; rfl
    rw [e1, wp_sortM (allCmp_pairs _), sort_keys o hn hm]
    rw [wk_seqL (.inl (get_new _ _))]
    walk_at "nf"
    refine wp_gather0 P (fun d => some (dD d)) (.inl (get_new _ _)) (fun d hd => ?_) ?_
    · walk_at "nf"
      unfold pairD
      rw [wp_dixT ((Sub.app (W := []) _ _).get0 hk), hg d ((o.mem d).mp hd)]
      walk_at "nf"
    · skip
      rw [fm_some]
      have hp : P.length ≤ line := by
        have : P.length ≤ kvs.length := by
          have p : (P.map (·.1)).Perm (kvs.map (·.1)) := by
            refine (List.perm_ext_iff_of_nodup o.keys_nodup hn).mpr fun k => ?_
            rw [hm k]
            simp only [List.mem_map]
            constructor <;> rintro ⟨d, h1, h2⟩
            · exact ⟨d, (o.mem d).mp h1, h2⟩
            · exact ⟨d, (o.mem d).mpr h1, h2⟩
          have := p.length_eq
          simp at this
          omega
        unfold line
        omega
      rw [if_pos (by simpa using hp)]
      refine h _ _ ((s.trans (Sub.app _ _)).trans (Sub.app _ _)) ?_ (get_new _ _)
      simp
      exact Nat.le_succ_of_le s.1
end
end NF
end -- NfWd2

section -- NfPl2
set_option linter.all false
set_option autoImplicit false
set_option maxRecDepth 10000
/-! The rows as the program keeps them. -/
namespace NF
open SrtO
structure RowSt where
  key : Key
  name : List Nat
  since : Key
  worth : Int
  gone : Bool
def RowSt.fs (r : RowSt) : List D := [pairD r.key, .str r.name, pairD r.since, .int r.worth, .bl r.gone]
def new0 (d : Deed) : Option RowSt := match d.2 with
  | .new x w => some ⟨d.1, x, d.1, w, false⟩
  | _ => none
def upd (r : RowSt) (d : Deed) : RowSt := match d.2 with
  | .new _ _ => r
  | .name _ x => { r with since := if r.name = x then r.since else d.1, name := x }
  | .worth _ w => { r with worth := w }
  | .drop _ => { r with gone := true }
def step (r : RowSt) (d : Deed) : RowSt := if d.2.at = some r.key then upd r d else r
theorem upd_key (r : RowSt) (d : Deed) : (upd r d).key = r.key := by
  unfold upd
  cases d.2 <;> rfl
theorem step_key (r : RowSt) (d : Deed) : (step r d).key = r.key := by
  unfold step
  split
  · exact upd_key r d
  · rfl
theorem fold_key (P : List Deed) : ∀ r : RowSt, (P.foldl step r).key = r.key := by
  induction P with
  | nil => intro r; rfl
  | cons d P ih => intro r; rw [List.foldl_cons, ih, step_key]
def rowsM (P : List Deed) : List RowSt := (P.filterMap new0).map fun r => P.foldl step r
def nameSince (r : RowSt) : D := .tup [.str r.name, pairD r.since]
def thereM (P : List Deed) : List RowSt := sortBy (fun a b => ltD (nameSince a) (nameSince b)) ((rowsM P).filter fun r => !r.gone)
/-- the last name, how often, what was shown -/
def nmStep (s : Option (List Nat) × Nat × List (List Nat × RowSt)) (r : RowSt) : Option (List Nat) × Nat × List (List Nat × RowSt) :=
  let c := if some r.name = s.1 then s.2.1 + 1 else 1
  (some r.name, c, s.2.2 ++ [(if c = 1 then r.name else r.name ++ numL c, r)])
def nmAll (rs : List RowSt) : Option (List Nat) × Nat × List (List Nat × RowSt) := rs.foldl nmStep (none, 0, [])
def namedM (P : List Deed) : List (List Nat × RowSt) := (nmAll (thereM P)).2.2
def tableM (P : List Deed) : List D := sortBy ltD ((namedM P).map fun z => .tup [.str z.1, pairD z.2.key, .int z.2.worth])
def fallenM (P : List Deed) : List D := sortBy ltD (((namedM P).filter fun z => z.1 != z.2.name).map fun z => pairD z.2.key)
def wantedM (P : List Deed) : List D := ((dedup (sortBy ltD ((thereM P).map fun r => .str r.name))).filterMap fun d => if ((thereM P).map fun r => D.str r.name).count d > 1 then some (.tup [d, .int (((thereM P).map fun r => D.str r.name).count d)]) else none)
def waits (P : List Deed) (d : Deed) : Bool := match d.2.at with
  | none => false
  | some t => !decide (t ∈ (rowsM P).map (·.key))
def waitingM (P : List Deed) : List D := (P.filter (waits P)).map dD
theorem new0_key {d : Deed} {r : RowSt} (h : new0 d = some r) : r.key = d.1 := by
  unfold new0 at h
  split at h
  · cases h; rfl
  · cases h
theorem rows_keys (P : List Deed) : (rowsM P).map (·.key) = (P.filterMap new0).map (·.key) := by
  unfold rowsM
  rw [List.map_map]
  apply List.map_congr_left
  intro r _
  exact fold_key P r
theorem news_nodup {P : List Deed} (h : P.Pairwise fun a b => ltK a.1 b.1 = true) : ((P.filterMap new0).map (·.key)).Nodup := by
  unfold List.Nodup
  rw [List.pairwise_map, List.pairwise_filterMap]
  refine h.imp fun {a b} hab r hr q hq z => ?_
  rw [new0_key hr, new0_key hq] at z
  rw [z, ltK_irr] at hab
  cases hab
theorem okName_of {d : Deed} (h : okDeed d = true) : (match d.2 with | .new x _ => okName x = true | .name _ x => okName x = true | _ => True) := by
  obtain ⟨k, a⟩ := d
  unfold okDeed at h
  rw [Bool.and_eq_true] at h
  cases a with
  | new x w => have := h.2; unfold okAct at this; rw [Bool.and_eq_true] at this; exact this.1
  | name t x => have := h.2; unfold okAct at this; rw [Bool.and_eq_true] at this; exact this.2
  | worth t w => trivial
  | drop t => trivial
theorem new0_ok {d : Deed} {r : RowSt} (ok : okDeed d = true) (h : new0 d = some r) : okName r.name = true := by
  have := okName_of ok
  unfold new0 at h
  split at h
  · rename_i e
    rw [e] at this
    cases h
    exact this
  · cases h
theorem step_ok {r : RowSt} {d : Deed} (ok : okDeed d = true) (h : okName r.name = true) : okName (step r d).name = true := by
  have := okName_of ok
  unfold step
  split
  · unfold upd
    cases e : d.2 with
    | name t x => rw [e] at this; exact this
    | _ => exact h
  · exact h
theorem rfold_ok : ∀ {P : List Deed} {r : RowSt}, (∀ d ∈ P, okDeed d = true) → okName r.name = true → okName (P.foldl step r).name = true
  | [], _, _, h => h
  | d :: P, r, ok, h => rfold_ok (P := P) (fun e he => ok e (List.mem_cons_of_mem _ he)) (step_ok (ok d List.mem_cons_self) h)
theorem rows_ok {P : List Deed} (ok : ∀ d ∈ P, okDeed d = true) : ∀ r ∈ rowsM P, okName r.name = true := by
  intro r hr
  obtain ⟨q, hq, rfl⟩ := List.mem_map.mp hr
  obtain ⟨d, hd, e⟩ := List.mem_filterMap.mp hq
  exact rfold_ok ok (new0_ok (ok d hd) e)
theorem there_mem {P : List Deed} {r : RowSt} : r ∈ thereM P ↔ r ∈ rowsM P ∧ r.gone = false := by
  unfold thereM
  rw [(sort_perm _).mem_iff, List.mem_filter]
  simp
theorem there_len (P : List Deed) : (thereM P).length ≤ P.length := by
  unfold thereM
  rw [(sort_perm _).length_eq]
  refine Nat.le_trans (List.length_filter_le _ _) ?_
  unfold rowsM
  rw [List.length_map]
  exact List.length_filterMap_le _ _
theorem nm_fold : ∀ (rs : List RowSt) (s : Option (List Nat) × Nat × List (List Nat × RowSt)), (rs.foldl nmStep s).2.2.map (·.2) = s.2.2.map (·.2) ++ rs
  | [], s => by simp
  | r :: rs, s => by
    rw [List.foldl_cons, nm_fold rs]
    simp [nmStep]
theorem nm_rows (rs : List RowSt) : (nmAll rs).2.2.map (·.2) = rs := by
  unfold nmAll
  rw [nm_fold]
  rfl
theorem nmAll_snoc (rs : List RowSt) (r : RowSt) : nmAll (rs ++ [r]) = nmStep (nmAll rs) r := by
  unfold nmAll
  rw [List.foldl_append]
  rfl
theorem nm_count : ∀ (rs : List RowSt) (s : Option (List Nat) × Nat × List (List Nat × RowSt)), (rs.foldl nmStep s).2.1 ≤ max s.2.1 1 + rs.length
  | [], s => by simp; omega
  | r :: rs, s => by
    rw [List.foldl_cons]
    have h1 := nm_count rs (nmStep s r)
    have h2 : (nmStep s r).2.1 ≤ max s.2.1 1 + 1 := by
      unfold nmStep
      dsimp only
      split <;> omega
    have h3 : 1 ≤ (nmStep s r).2.1 := by
      unfold nmStep
      dsimp only
      split <;> omega
    rw [List.length_cons]
    omega
end NF
end -- NfPl2

section -- NfWr
set_option linter.all false
set_option autoImplicit false
set_option maxRecDepth 10000
/-! The walk of the rows' functions. -/
namespace NF
open SrtO
local macro_rules | `(tactic| walk_at "nf") => `(tactic| simp only [↓ws_nil, ↓ws_cons, ↓ws_asg, ↓ws_unp, ↓ws_par, ↓ws_sat, ↓ws_ssub, ↓ws_dsub, ↓ws_exp, ↓ws_ret, ↓ws_retN, ↓ws_pass, ↓ws_cont, ↓ws_ife, ↓ws_raise, ↓ws_for, ↓goS_nx, ↓goS_ct, ↓goS_rt, ↓we_var, ↓we_int, ↓we_str, ↓we_bl, ↓we_non, ↓we_neg, ↓we_glb, ↓we_tup, ↓we_lst, ↓we_dctT, ↓we_dctK, ↓we_bin, ↓we_cmp, ↓we_chain, ↓we_isn, ↓we_andv, ↓we_orv, ↓wand1, ↓wand2, ↓wor1, ↓wor2, ↓we_notv, ↓we_ife, ↓we_idx, ↓we_dix, ↓we_slc, ↓we_rev, ↓we_att, ↓we_call, ↓we_mk, ↓we_meth, ↓we_bi, ↓we_bm, ↓we_lenset, ↓we_sortset, ↓we_sortk, ↓we_sortf, ↓we_sortkeys, ↓we_listkeys, ↓we_isTy, ↓we_isEx, ↓we_lc, ↓wo_none, ↓wo_some, ↓wes_nil, ↓wes_cons, ↓wc_none, ↓wc_some, ↓wb_nm, ↓wt_ex, ↓wt_not, ↓wt_and, ↓wt_or, ↓wt_ife, ↓wtand_nil, ↓wtand_cons, ↓wtor_nil, ↓wtor_cons, ↓wtr_bl, ↓wtr_int, ↓w_turn, ↓w_body, ↓ifB_bl, ↓wp_ret, ↓wp_orS, ↓wp_bnd, List.getElem?_cons_zero, List.getElem?_cons_succ, Option.join_some, List.set_cons_zero, List.set_cons_succ, List.map_cons, List.map_nil, List.cons_append, List.nil_append, List.length_cons, List.length_nil, List.replicate_succ, List.replicate_zero, wipeE, cmp_le, cmp_lt, cmp_gt, cmp_ge, cmp_eqS, cmp_neS, cmp_eqI, cmp_neI, add_int, sub_int, len_tup, list_tup, ↓wk_seqT, ↓wk_seqS, ↓lv_lst, ↓lv_fix, isN, idx_t0, idx_t1, idx_t2, idx_t3, idx_t4, slc_t2, intO_2, Nat.reduceSub, Nat.reduceAdd, Bool.false_eq_true, if_true, if_false, Bool.not_true, Bool.not_false, Wk.items, decide_eq_true_eq, Bool.not_eq_true', decide_eq_false_iff_not, List.cons.injEq, Nat.reduceEqDiff, reduceCtorEq, and_false, false_and, and_true, true_and, decide_true, decide_false, not_true_eq_false, not_false_eq_true, Int.cast_ofNat_Int, Int.reduceLT, Int.reduceLE, Int.reduceEq, Int.reduceNe, Option.isSome_some, Option.isSome_none, sNew, sName, sWorth, sDrop, ne_eq, ↓wb_t2, ↓wb_t3, ↓wb_t4])
structure HRows (Δ : String → Option Fn) : Prop extends HDeeds Δ where
  init : Δ "Row.__init__" = some TR.fn_Row_init
  all_rows : Δ "all_rows" = some TR.fn_all_rows
  there : Δ "there" = some TR.fn_there
  named : Δ "named" = some TR.fn_named
section
variable {Δ : String → Option Fn} {k n m : Nat} {S : Store} {Q : D → Store → Prop} {X : Ex → Store → Prop}
theorem set_new (S : Store) (a b : O) : (S ++ [a]).set S.length b = S ++ [b] := by
  rw [List.set_append_right _ _ (Nat.le_refl _)]
  simp
theorem wp_satI {c : Cl} {i n : Nat} {fs : List D} {d : D} {Q : Unit → Store → Prop} (h : S[n]? = some (.ins c fs)) (hi : fs.length = i) : wp (satM c i (.ref n) d) S Q X = Q () (S.set n (.ins c (fs ++ [d]))) := by
  subst hi
  exact wp_satNew h
theorem row_init {Q : D → Store → Prop} (hΔ : HRows Δ) (a : Key) (x : List Nat) (w : Int) : wp (callF Δ (k + 1) "Row.__init__" [.ref S.length, pairD a, .str x, .int w]) (S ++ [.ins .row []]) Q X = Q .non (S ++ [.ins .row (RowSt.fs ⟨a, x, a, w, false⟩)]) := by
  rw [wp_call hΔ.init rfl]
  unfold TR.fn_Row_init
  walk_at "nf"
  rw [wp_satI (i := 0) (fs := []) (get_new _ _) rfl, set_new]
  walk_at "nf"
  rw [wp_satI (i := 1) (fs := [_]) (get_new _ _) rfl, set_new]
  walk_at "nf"
  rw [wp_satI (i := 2) (fs := [_, _]) (get_new _ _) rfl, set_new]
  walk_at "nf"
  rw [wp_satI (i := 3) (fs := [_, _, _]) (get_new _ _) rfl, set_new]
  walk_at "nf"
  rw [wp_satI (i := 4) (fs := [_, _, _, _]) (get_new _ _) rfl, set_new]
  rfl
/-- the dict of rows at m -/
structure Rows (S : Store) (m : Nat) (xs : List (Nat × RowSt)) : Prop where
  dct : S[m]? = some (.dct (xs.map fun x => (x.2.key, .ref x.1)))
  at_ : ∀ x ∈ xs, S[x.1]? = some (.ins .row x.2.fs)
  nodup : (xs.map (·.1)).Nodup
theorem Rows.ne {xs : List (Nat × RowSt)} (R : Rows S m xs) {x : Nat × RowSt} (hx : x ∈ xs) : x.1 ≠ m := by
  intro e
  have h1 := R.at_ x hx
  rw [e, R.dct] at h1
  cases h1
theorem Rows.sub {S' : Store} {W : List Nat} {xs : List (Nat × RowSt)} (R : Rows S m xs) (s : Sub W S S') (h : m ∉ W) (h' : ∀ x ∈ xs, x.1 ∉ W) : Rows S' m xs := ⟨s.get R.dct h, fun x hx => s.get (R.at_ x hx) (h' x hx), R.nodup⟩
theorem row_get {xs : List (Nat × RowSt)} (hn : (xs.map (·.2.key)).Nodup) {t : Key} : (kvGet (xs.map fun x => (x.2.key, D.ref x.1)) t).isSome = decide (t ∈ xs.map (·.2.key)) := by
  cases h : kvGet (xs.map fun x => (x.2.key, D.ref x.1)) t with
  | none =>
    rw [kvGet_none, List.map_map] at h
    exact (decide_eq_false h).symm
  | some v =>
    have := kvGet_mem h
    obtain ⟨x, hx, e⟩ := List.mem_map.mp this
    symm
    refine decide_eq_true (List.mem_map.mpr ⟨x, hx, ?_⟩)
    exact (Prod.ext_iff.mp e).1
theorem row_at {xs : List (Nat × RowSt)} (hn : (xs.map (·.2.key)).Nodup) {x : Nat × RowSt} (hx : x ∈ xs) : kvGet (xs.map fun x => (x.2.key, D.ref x.1)) x.2.key = some (.ref x.1) := by
  refine kvGet_of_mem ?_ (List.mem_map.mpr ⟨x, hx, rfl⟩)
  rw [List.map_map]
  exact hn
theorem nodup_inj {A B : Type} {f : A → B} : ∀ {l : List A}, (l.map f).Nodup → ∀ a ∈ l, ∀ b ∈ l, f a = f b → a = b
  | x :: l, h, a, ha, b, hb, e => by
    rw [List.map_cons, List.nodup_cons] at h
    rcases List.mem_cons.mp ha with ea | ea <;> rcases List.mem_cons.mp hb with eb | eb
    · rw [ea, eb]
    · exact (h.1 (List.mem_map.mpr ⟨b, eb, by rw [← e, ea]⟩)).elim
    · exact (h.1 (List.mem_map.mpr ⟨a, ea, by rw [e, eb]⟩)).elim
    · exact nodup_inj h.2 a ea b eb e
theorem Rows.upd {xs : List (Nat × RowSt)} (R : Rows S m xs) (hn : (xs.map (·.2.key)).Nodup) {x : Nat × RowSt} (hx : x ∈ xs) {d : Deed} (ht : d.2.at = some x.2.key) : Rows (S.set x.1 (.ins .row (NF.upd x.2 d).fs)) m (xs.map fun x => (x.1, step x.2 d)) := by
  refine ⟨?_, fun y hy => ?_, ?_⟩
  · rw [List.getElem?_set_ne (R.ne hx), R.dct, List.map_map]
    congr 2
    apply List.map_congr_left
    intro y _
    show _ = ((step y.2 d).key, D.ref y.1)
    rw [step_key]
  · obtain ⟨z, hz, rfl⟩ := List.mem_map.mp hy
    by_cases e : z.1 = x.1
    · have ez : z = x := nodup_inj R.nodup z hz x hx e
      subst ez
      show (S.set z.1 _)[z.1]? = _
      rw [get_set (get_lt (R.at_ z hz))]
      unfold step
      rw [if_pos ht]
    · show (S.set x.1 _)[z.1]? = _
      rw [List.getElem?_set_ne (Ne.symm e), R.at_ z hz]
      unfold step
      rw [if_neg]
      intro z'
      rw [ht] at z'
      have := nodup_inj hn x hx z hz (Option.some.inj z')
      exact e (by rw [this])
  · rw [List.map_map]
    exact R.nodup
theorem step_same {xs : List (Nat × RowSt)} {d : Deed} (h : ∀ x ∈ xs, d.2.at ≠ some x.2.key) : (xs.map fun x => (x.1, step x.2 d)) = xs := by
  have e : ∀ x ∈ xs, (x.1, step x.2 d) = id x := fun x hx => by
    unfold step
    rw [if_neg (h x hx)]
    rfl
  rw [List.map_congr_left e, List.map_id]
theorem wp_attI {c : Cl} {i n : Nat} {fs : List D} {d : D} (h : S[n]? = some (.ins c fs)) (hd : fs[i]? = some d) : wp (insOf c (.ref n)) S (fun p S2 => wp (orBad (p.2[i]?)) S2 Q X) X = Q d S := by
  rw [wp_ins h]
  dsimp only
  rw [hd, wp_orS]
theorem wp_satSet {c : Cl} {i n : Nat} {fs : List D} {d : D} {Q : Unit → Store → Prop} (h : S[n]? = some (.ins c fs)) (hi : i < fs.length) : wp (satM c i (.ref n) d) S Q X = Q () (S.set n (.ins c (fs.set i d))) := wp_sat h hi
theorem wp_sat2 {c : Cl} {i j n : Nat} {fs : List D} {d e : D} {Q : Unit → Store → Prop} (h : S[n]? = some (.ins c fs)) (hi : i < fs.length) (hj : j < fs.length) : wp (satM c i (.ref n) d) S (fun _ S3 => wp (satM c j (.ref n) e) S3 Q X) X = Q () (S.set n (.ins c ((fs.set i d).set j e))) := by
  rw [wp_sat h hi, wp_sat (get_set (get_lt h) _) (by simpa using hj), List.set_set]
theorem all_rows_ok (hΔ : HRows Δ) {P L : List Deed} (o : IsOrd P L) (hl : LstAt S n (L.map dD)) (sz : L.length < 64) (hp : P.length < 64)
    (h : ∀ S' m xs, Sub [] S S' → S.length ≤ m → Rows S' m xs → (∀ x ∈ xs, S.length ≤ x.1) → xs.map (·.2) = rowsM P → Q (.ref m) S') : wp (callF Δ (k + 2) "all_rows" [.ref n]) S Q X := by
  rw [wp_call hΔ.all_rows rfl]
  unfold TR.fn_all_rows
  walk_at "nf"
  refine in_order_ok hΔ.toHDeeds o (hl.sub (Sub.app (W := []) S [.dct []]) (by simp)) sz fun S1 l s1 hl1 el => ?_
  have s01 : Sub [] S S1 := (Sub.app _ _).trans s1
  have hd1 : S1[S.length]? = some (.dct []) := s1.get0 (get_new _ _)
  rw [wk_seqL (.inl el)]
  walk_at "nf"
  refine wpS_forM P (fun done ρ S' => ∃ xs d0, ρ = [some (.ref n), some (.ref S.length), some (.ref l), d0, none] ∧ Sub [] S S' ∧ S'[l]? = some (.lst (P.map dD)) ∧ Rows S' S.length xs ∧ (∀ x ∈ xs, S.length ≤ x.1 ∧ x.1 < S'.length) ∧ xs.map (·.2) = done.filterMap new0) ?_ ?_ ?_ ?_
  · exact ⟨[], none, rfl, s01, el, ⟨hd1, fun x hx => (by cases hx), List.nodup_nil⟩, fun x hx => (by cases hx), rfl⟩
  · rintro done ρ S' ⟨xs, d0, rfl, s, hel, _⟩
    exact .inl hel
  · rintro done d rest ρ S' e ⟨xs, d0, rfl, s, hel, R, hb, hx⟩
    obtain ⟨p, a⟩ := d
    cases a with
    | new x w =>
      rw [dD_new]
      walk_at "nf"
      have hlS : l ≠ S'.length := Nat.ne_of_lt (get_lt hel)
      have hi := row_init (k := k) (Q := Q) (X := X) (S := S') hΔ p x w
      show wp (callF Δ (k + 1) "Row.__init__" [.ref S'.length, pairD p, .str x, .int w]) (S' ++ [.ins .row []]) _ _
      rw [row_init hΔ]
      walk_at "nf"
      have hlen : xs.length ≤ P.length := by
        have h1 := congrArg List.length hx
        rw [List.length_map] at h1
        have h2 := List.length_filterMap_le new0 done
        rw [e, List.length_append]
        omega
      rw [wp_dsubT (S := S' ++ [.ins .row (RowSt.fs ⟨p, x, p, w, false⟩)]) ((Sub.app (W := []) _ _).get0 R.dct) (by rw [List.length_map]; unfold line; omega)]
      have hnew : (p.1, p.2) ∉ (xs.map fun x => (x.2.key, D.ref x.1)).map (·.1) := by
        rw [List.map_map]
        intro z
        have hn := news_nodup o.srt
        rw [e, List.filterMap_append, ← hx, List.map_append, List.map_map, List.nodup_append] at hn
        refine hn.2.2 p z p ?_ rfl
        exact List.mem_map.mpr ⟨⟨p, x, p, w, false⟩, by simp [new0], rfl⟩
      rw [kvPut_new hnew]
      refine ⟨xs ++ [(S'.length, ⟨p, x, p, w, false⟩)], _, rfl, ?_, ?_, ?_, ?_, ?_⟩
      · exact (s.trans (Sub.app _ _)).putNew (Nat.le_refl _) _
      · rw [List.getElem?_set_ne]
        · exact (Sub.app (W := []) _ _).get0 hel
        · intro z
          rw [← z, R.dct] at hel
          cases hel
      · refine ⟨?_, fun y hy => ?_, ?_⟩
        · rw [get_set (by have := s.1; have := get_lt R.dct; simp; omega)]
          simp
        · rw [List.getElem?_set_ne]
          · rcases List.mem_append.mp hy with z | z
            · exact (Sub.app (W := []) _ _).get0 (R.at_ y z)
            · rw [List.mem_singleton.mp z]
              exact get_new _ _
          · rcases List.mem_append.mp hy with z | z
            · exact (R.ne z).symm
            · rw [List.mem_singleton.mp z]
              exact Nat.ne_of_lt (get_lt R.dct)
        · rw [List.map_append, List.nodup_append]
          refine ⟨R.nodup, by simp, fun a ha b hb' z => ?_⟩
          obtain ⟨y, hy, rfl⟩ := List.mem_map.mp ha
          have := (hb y hy).2
          simp at hb'
          omega
      · intro y hy
        rw [List.length_set, List.length_append]
        rcases List.mem_append.mp hy with z | z
        · have := hb y z
          exact ⟨this.1, by omega⟩
        · rw [List.mem_singleton.mp z]
          exact ⟨s.1, by simp⟩
      · rw [List.map_append, hx, List.filterMap_append]
        rfl
    | _ =>
      unfold dD Act.ds
      walk_at "nf"
      exact ⟨xs, _, rfl, s, hel, R, hb, by rw [List.filterMap_append, hx]; simp [new0]⟩
  · rintro ρ S2 ⟨xs, d0, rfl, s, hel, R, hb, hx⟩
    walk_at "nf"
    rw [wk_seqL (.inl hel)]
    walk_at "nf"
    have hkn : ((P.filterMap new0).map (·.key)).Nodup := news_nodup o.srt
    refine wpS_forM P (fun done ρ S' => ∃ ys d0 d1, ρ = [some (.ref n), some (.ref S.length), some (.ref l), d0, d1] ∧ Sub [] S S' ∧ S'[l]? = some (.lst (P.map dD)) ∧ Rows S' S.length ys ∧ (∀ x ∈ ys, S.length ≤ x.1) ∧ ys.map (·.2) = (P.filterMap new0).map fun r => done.foldl step r) ?_ ?_ ?_ ?_
    · exact ⟨xs, d0, none, rfl, s, hel, R, fun x hx => (hb x hx).1, by rw [hx]; simp⟩
    · rintro done ρ S' ⟨ys, d0, d1, rfl, s, hel, _⟩
      exact .inl hel
    · rintro done d rest ρ S' e ⟨ys, d0, d1, rfl, s, hel, R, hb, hx⟩
      have kn : (ys.map (·.2.key)).Nodup := by
        have : ys.map (·.2.key) = (P.filterMap new0).map (·.key) := by
          have h1 : ys.map (·.2.key) = (ys.map (·.2)).map (·.key) := by rw [List.map_map]; rfl
          rw [h1, hx, List.map_map]
          apply List.map_congr_left
          intro r _
          exact fold_key done r
        rw [this]
        exact hkn
      have fin : ∀ {zs : List (Nat × RowSt)}, zs.map (·.2) = ys.map (fun x => step x.2 d) → zs.map (·.2) = (P.filterMap new0).map fun r => (done ++ [d]).foldl step r := by
        intro zs hz
        have : ys.map (fun x => step x.2 d) = (ys.map (·.2)).map fun r => step r d := by rw [List.map_map]; rfl
        rw [hz, this, hx, List.map_map]
        apply List.map_congr_left
        intro r _
        rw [List.foldl_append]
        rfl
      have skip : (∀ x ∈ ys, d.2.at ≠ some x.2.key) → ys.map (·.2) = (P.filterMap new0).map fun r => (done ++ [d]).foldl step r := by
        intro hno
        refine fin ?_
        apply List.map_congr_left
        intro x hx
        unfold step
        rw [if_neg (hno x hx)]
      have hit : ∀ {x : Nat × RowSt}, x ∈ ys → d.2.at = some x.2.key → ∃ zs, Sub [] S (S'.set x.1 (.ins .row (upd x.2 d).fs)) ∧ (S'.set x.1 (.ins .row (upd x.2 d).fs))[l]? = some (.lst (P.map dD)) ∧ Rows (S'.set x.1 (.ins .row (upd x.2 d).fs)) S.length zs ∧ (∀ x ∈ zs, S.length ≤ x.1) ∧ zs.map (·.2) = (P.filterMap new0).map fun r => (done ++ [d]).foldl step r := by
        intro x hx ht
        refine ⟨_, s.putNew (hb x hx) _, ?_, R.upd kn hx ht, fun y hy => ?_, fin (by rw [List.map_map]; rfl)⟩
        · rw [List.getElem?_set_ne]
          · exact hel
          · intro z
            have := R.at_ x hx
            rw [z, hel] at this
            cases this
        · obtain ⟨z, hz, rfl⟩ := List.mem_map.mp hy
          exact hb z hz
      obtain ⟨p, a⟩ := d
      cases a with
      | new x w =>
        rw [dD_new]
        walk_at "nf"
        exact ⟨ys, _, d1, ⟨rfl, rfl⟩, s, hel, R, hb, skip fun x _ z => by cases z⟩
      | name t x =>
        rw [dD_name]
        walk_at "nf"
        rw [wp_inK R.dct, row_get kn]
        by_cases hm : t ∈ ys.map (·.2.key)
        · rw [decide_eq_true hm]
          obtain ⟨q, hq, rfl⟩ := List.mem_map.mp hm
          obtain ⟨zs, f1, f2, f3, f4, f5⟩ := hit hq rfl
          walk_at "nf"
          rw [wp_dixP R.dct, row_at kn hq]
          walk_at "nf"
          rw [wp_attI (R.at_ q hq) rfl]
          walk_at "nf"
          split
          · rename_i e1
            rw [wp_attI (R.at_ q hq) rfl, wp_sat2 (R.at_ q hq) (show 2 < 5 by decide) (show 1 < 5 by decide)]
            have e2 : ((q.2.fs.set 2 (pairD q.2.since)).set 1 (.str x)) = (upd q.2 (p, .name q.2.key x)).fs := by
              unfold upd
              dsimp only
              rw [if_pos e1]
              rfl
            rw [e2]
            exact ⟨zs, _, _, ⟨rfl, rfl⟩, f1, f2, f3, f4, f5⟩
          · rename_i e1
            rw [wp_sat2 (R.at_ q hq) (show 2 < 5 by decide) (show 1 < 5 by decide)]
            have e2 : ((q.2.fs.set 2 (.tup [.int p.1, .int p.2])).set 1 (.str x)) = (upd q.2 (p, .name q.2.key x)).fs := by
              unfold upd
              dsimp only
              rw [if_neg e1]
              rfl
            rw [e2]
            exact ⟨zs, _, _, ⟨rfl, rfl⟩, f1, f2, f3, f4, f5⟩
        · rw [decide_eq_false hm]
          walk_at "nf"
          exact ⟨ys, _, d1, ⟨rfl, rfl⟩, s, hel, R, hb, skip fun x hx z => hm (List.mem_map.mpr ⟨x, hx, (Option.some.inj z).symm⟩)⟩
      | worth t w =>
        rw [dD_worth]
        walk_at "nf"
        rw [wp_inK R.dct, row_get kn]
        by_cases hm : t ∈ ys.map (·.2.key)
        · rw [decide_eq_true hm]
          obtain ⟨q, hq, rfl⟩ := List.mem_map.mp hm
          obtain ⟨zs, f1, f2, f3, f4, f5⟩ := hit hq rfl
          walk_at "nf"
          rw [wp_dixP R.dct, row_at kn hq]
          walk_at "nf"
          rw [wp_sat (R.at_ q hq) (show 3 < 5 by decide)]
          exact ⟨zs, _, _, ⟨rfl, rfl⟩, f1, f2, f3, f4, f5⟩
        · rw [decide_eq_false hm]
          walk_at "nf"
          exact ⟨ys, _, d1, ⟨rfl, rfl⟩, s, hel, R, hb, skip fun x hx z => hm (List.mem_map.mpr ⟨x, hx, (Option.some.inj z).symm⟩)⟩
      | drop t =>
        rw [dD_drop]
        walk_at "nf"
        rw [wp_inK R.dct, row_get kn]
        by_cases hm : t ∈ ys.map (·.2.key)
        · rw [decide_eq_true hm]
          obtain ⟨q, hq, rfl⟩ := List.mem_map.mp hm
          obtain ⟨zs, f1, f2, f3, f4, f5⟩ := hit hq rfl
          walk_at "nf"
          rw [wp_dixP R.dct, row_at kn hq]
          walk_at "nf"
          rw [wp_sat (R.at_ q hq) (show 4 < 5 by decide)]
          exact ⟨zs, _, _, ⟨rfl, rfl⟩, f1, f2, f3, f4, f5⟩
        · rw [decide_eq_false hm]
          walk_at "nf"
          exact ⟨ys, _, d1, ⟨rfl, rfl⟩, s, hel, R, hb, skip fun x hx z => hm (List.mem_map.mpr ⟨x, hx, (Option.some.inj z).symm⟩)⟩
    · rintro ρ S3 ⟨ys, d0, d1, rfl, s, hel, R, hb, hx⟩
      walk_at "nf"
      exact h S3 S.length ys s (Nat.le_refl _) R hb hx
end
end NF
end -- NfWr

section -- NfWr2
set_option linter.all false
set_option autoImplicit false
set_option maxRecDepth 10000
/-! The walk of there and named. -/
namespace NF
open SrtO
local macro_rules | `(tactic| walk_at "nf") => `(tactic| simp only [↓ws_nil, ↓ws_cons, ↓ws_asg, ↓ws_unp, ↓ws_par, ↓ws_sat, ↓ws_ssub, ↓ws_dsub, ↓ws_exp, ↓ws_ret, ↓ws_retN, ↓ws_pass, ↓ws_cont, ↓ws_ife, ↓ws_raise, ↓ws_for, ↓goS_nx, ↓goS_ct, ↓goS_rt, ↓we_var, ↓we_int, ↓we_str, ↓we_bl, ↓we_non, ↓we_neg, ↓we_glb, ↓we_tup, ↓we_lst, ↓we_dctT, ↓we_dctK, ↓we_bin, ↓we_cmp, ↓we_chain, ↓we_isn, ↓we_andv, ↓we_orv, ↓wand1, ↓wand2, ↓wor1, ↓wor2, ↓we_notv, ↓we_ife, ↓we_idx, ↓we_dix, ↓we_slc, ↓we_rev, ↓we_att, ↓we_call, ↓we_mk, ↓we_meth, ↓we_bi, ↓we_bm, ↓we_lenset, ↓we_sortset, ↓we_sortk, ↓we_sortf, ↓we_sortkeys, ↓we_listkeys, ↓we_isTy, ↓we_isEx, ↓we_lc, ↓wo_none, ↓wo_some, ↓wes_nil, ↓wes_cons, ↓wc_none, ↓wc_some, ↓wb_nm, ↓wt_ex, ↓wt_not, ↓wt_and, ↓wt_or, ↓wt_ife, ↓wtand_nil, ↓wtand_cons, ↓wtor_nil, ↓wtor_cons, ↓wtr_bl, ↓wtr_int, ↓w_turn, ↓w_body, ↓ifB_bl, ↓wp_ret, ↓wp_orS, ↓wp_bnd, List.getElem?_cons_zero, List.getElem?_cons_succ, Option.join_some, List.set_cons_zero, List.set_cons_succ, List.map_cons, List.map_nil, List.cons_append, List.nil_append, List.length_cons, List.length_nil, List.replicate_succ, List.replicate_zero, wipeE, cmp_le, cmp_lt, cmp_gt, cmp_ge, cmp_eqS, cmp_neS, cmp_eqI, cmp_neI, add_int, sub_int, len_tup, list_tup, ↓wk_seqT, ↓wk_seqS, ↓lv_lst, ↓lv_fix, isN, idx_t0, idx_t1, idx_t2, idx_t3, idx_t4, slc_t2, intO_2, Nat.reduceSub, Nat.reduceAdd, Bool.false_eq_true, if_true, if_false, Bool.not_true, Bool.not_false, Wk.items, decide_eq_true_eq, Bool.not_eq_true', decide_eq_false_iff_not, List.cons.injEq, Nat.reduceEqDiff, reduceCtorEq, and_false, false_and, and_true, true_and, decide_true, decide_false, not_true_eq_false, not_false_eq_true, Int.cast_ofNat_Int, Int.reduceLT, Int.reduceLE, Int.reduceEq, Int.reduceNe, Option.isSome_some, Option.isSome_none, sNew, sName, sWorth, sDrop, ne_eq, ↓wb_t2, ↓wb_t3, ↓wb_t4])
section
variable {A : Type} {S : Store} {Q : D → Store → Prop} {X : Ex → Store → Prop}
theorem wp_mapM' {m : D → M D} {g : A → D} (f : A → D) {Q : List D → Store → Prop} : ∀ (xs : List A), (∀ x ∈ xs, wp (m (g x)) S (fun d S' => d = f x ∧ S' = S) X) → Q (xs.map f) S → wp (mapM' m (xs.map g)) S Q X
  | [], _, h => h
  | x :: xs, hs, h => by
    show wp (mapM' m (g x :: xs.map g)) S Q X
    unfold mapM'
    rw [wp_bnd]
    refine wp_mono (hs x List.mem_cons_self) (fun d S' e => ?_) fun _ _ z => z
    obtain ⟨e1, e2⟩ := e
    rw [e1, e2, wp_bnd]
    refine wp_mapM' f xs (fun y hy => hs y (List.mem_cons_of_mem _ hy)) ?_
    rw [wp_ret]
    exact h
theorem wp_sortK {m : D → M D} {g : A → D} (f : A → D) (xs : List A) (hs : ∀ x ∈ xs, wp (m (g x)) S (fun d S' => d = f x ∧ S' = S) noX) (hc : allCmp (xs.map f) = true) (h : Q (.ref S.length) (S ++ [.lst ((sortBy (fun a b => ltD (f a) (f b)) xs).map g)])) : wp (sortKM m (xs.map g)) S Q X := by
  unfold sortKM
  rw [wp_bnd, wp_noExn]
  refine wp_mono (X := noX) ?_ (fun a S' z => z) (fun _ _ z => z.elim)
  refine wp_mapM' f xs hs ?_
  rw [if_pos hc, wp_new]
  have e : (xs.map f).zip (xs.map g) = xs.map fun x => (f x, g x) := by
    clear hs hc h
    induction xs with
    | nil => rfl
    | cons x xs ih => simp [ih]
  rw [e, sort_mapB (lt := fun a b => ltD (f a) (f b)) (fun x => (f x, g x)) (fun _ _ => rfl), List.map_map]
  exact h
end
section
variable {Δ : String → Option Fn} {k n m : Nat} {S : Store} {Q : D → Store → Prop} {X : Ex → Store → Prop}
theorem fm_filter {A B : Type} (p : A → Bool) (f : A → B) (xs : List A) : (xs.filterMap fun x => if p x then some (f x) else none) = (xs.filter p).map f := by
  induction xs with
  | nil => rfl
  | cons x xs ih =>
    rw [List.filterMap_cons, List.filter_cons]
    cases p x <;> simp [ih]
theorem cmpb_nameSince (a b : RowSt) : cmpb (nameSince a) (nameSince b) = true := by
  unfold nameSince
  simp only [cmpb, cmpbs]
  split
  · split
    · rfl
    · exact cmpb_pairD _ _
  · rfl
theorem allCmp_of {A : Type} {f : A → D} {xs : List A} (hp : ∀ x ∈ xs, pureD (f x) = true) (hn : ∀ x ∈ xs, noNil (f x) = true) (hc : ∀ x ∈ xs, ∀ y ∈ xs, cmpb (f x) (f y) = true) : allCmp (xs.map f) = true := by
  unfold allCmp
  rw [List.all_eq_true]
  intro d hd
  obtain ⟨x, hx, rfl⟩ := List.mem_map.mp hd
  simp only [Bool.and_eq_true]
  refine ⟨⟨hp x hx, hn x hx⟩, List.all_eq_true.mpr fun e he => ?_⟩
  obtain ⟨y, hy, rfl⟩ := List.mem_map.mp he
  exact hc x hx y hy
/-- rows with their places -/
def RowsAt (S : Store) (xs : List (Nat × RowSt)) : Prop := ∀ x ∈ xs, S[x.1]? = some (.ins .row x.2.fs)
theorem RowsAt.sub {S' : Store} {xs : List (Nat × RowSt)} (R : RowsAt S xs) (s : Sub [] S S') : RowsAt S' xs := fun x hx => s.get0 (R x hx)
theorem there_ok (hΔ : HRows Δ) {P L : List Deed} (o : IsOrd P L) (hl : LstAt S n (L.map dD)) (sz : L.length < 64) (hp : P.length < 64)
    (h : ∀ S' m xs, Sub [] S S' → S.length ≤ m → S'[m]? = some (.lst (xs.map fun x => .ref x.1)) → RowsAt S' xs → xs.map (·.2) = thereM P → Q (.ref m) S') : wp (callF Δ (k + 3) "there" [.ref n]) S Q X := by
  rw [wp_call hΔ.there rfl]
  unfold TR.fn_there
  walk_at "nf"
  refine all_rows_ok hΔ o hl sz hp fun S1 m xs s1 hm R hb hx => ?_
  have hx64 : xs.length < 64 := by
    have h1 := congrArg List.length hx
    rw [List.length_map] at h1
    unfold rowsM at h1
    rw [List.length_map] at h1
    have h2 := List.length_filterMap_le new0 P
    omega
  rw [wkw_vals R.dct]
  walk_at "nf"
  rw [List.map_map]
  have hat : ∀ x ∈ xs, (S1.set m (.lck (xs.map fun x => (x.2.key, D.ref x.1))))[x.1]? = some (.ins .row x.2.fs) := fun x hx => by
    rw [List.getElem?_set_ne (R.ne hx).symm]
    exact R.at_ x hx
  refine wp_gather0 xs (fun x => if (!x.2.gone) then some (.ref x.1) else none) trivial (fun x hx => ?_) ?_
  · show wp (turnE _ _ _ _ _ (.ref x.1)) _ _ _
    walk_at "nf"
    rw [wp_attI (hat x hx) rfl]
    walk_at "nf"
    cases x.2.gone <;> simp
  · rw [lv_dict (get_set (get_lt R.dct) _), List.set_set, fm_filter]
    have e : S1.set m (.dct (xs.map fun x => (x.2.key, D.ref x.1))) = S1 := by
      apply List.ext_getElem?
      intro i
      by_cases ei : m = i
      · subst ei
        rw [get_set (get_lt R.dct), R.dct]
      · rw [List.getElem?_set_ne ei]
    rw [e, if_pos (by
      rw [List.length_map]
      have := List.length_filter_le (fun x : Nat × RowSt => !x.2.gone) xs
      unfold line
      omega)]
    rw [wp_lst1 (get_new _ _)]
    have hat2 : ∀ x ∈ xs.filter (fun x => !x.2.gone), ∀ T, (S1 ++ T)[x.1]? = some (.ins .row x.2.fs) := fun x hx T => (Sub.app (W := []) S1 T).get0 (R.at_ x (List.mem_filter.mp hx).1)
    refine wp_sortK (fun x => nameSince x.2) _ (fun x hx => ?_) (allCmp_of (fun _ _ => rfl) (fun _ _ => rfl) fun _ _ _ _ => cmpb_nameSince _ _) ?_
    · walk_at "nf"
      rw [wp_attI (hat2 x hx _) rfl]
      rw [wp_attI (hat2 x hx _) rfl]
      exact ⟨rfl, rfl⟩
    · refine h _ _ _ ((s1.trans (Sub.app _ _)).trans (Sub.app _ _)) ?_ (get_new _ _) (fun x hx => ?_) ?_
      · have := s1.1
        simp
        omega
      · refine (Sub.app (W := []) _ _).get0 (hat2 x ?_ _)
        exact (sort_perm _).mem_iff.mp hx
      · unfold thereM
        rw [← hx, ← sort_mapB (lt' := fun a b => ltD (nameSince a) (nameSince b)) (fun x : Nat × RowSt => x.2) (fun _ _ => rfl)]
        congr 1
        rw [List.filter_map]
        rfl
theorem numL_small : ∀ c : Nat, c < 100 → (numL c).length ≤ 2 := by decide
theorem name_len {x : List Nat} (h : okName x = true) : x.length ≤ 4 := by
  unfold okName at h
  simp only [Bool.and_eq_true, decide_eq_true_eq] at h
  exact h.2.1
def optS : Option (List Nat) → D
  | none => .non
  | some x => .str x
theorem eq_opt {x : List Nat} {l : Option (List Nat)} : wp (cmpM .eq (.str x) (optS l)) S Q X = Q (.bl (decide (some x = l))) S := by
  cases l with
  | none =>
    show wp (cmpM .eq (.str x) .non) S Q X = _
    rw [wp_eqV (a := .str x) (b := .non) rfl rfl]
    rfl
  | some y =>
    show wp (cmpM .eq (.str x) (.str y)) S Q X = _
    rw [cmp_eqS, wp_ret]
    simp
theorem named_ok (hΔ : HRows Δ) {P L : List Deed} (o : IsOrd P L) (ok : ∀ d ∈ P, okDeed d = true) (hl : LstAt S n (L.map dD)) (sz : L.length < 64) (hp : P.length < 64)
    (h : ∀ S' m (zs : List (List Nat × Nat × RowSt)), Sub [] S S' → S.length ≤ m → S'[m]? = some (.lst (zs.map fun z => .tup [.str z.1, .ref z.2.1])) → (∀ z ∈ zs, S'[z.2.1]? = some (.ins .row z.2.2.fs)) → zs.map (fun z => (z.1, z.2.2)) = namedM P → Q (.ref m) S') : wp (callF Δ (k + 4) "named" [.ref n]) S Q X := by
  rw [wp_call hΔ.named rfl]
  unfold TR.fn_named
  walk_at "nf"
  have hl1 := hl.sub (Sub.app (W := []) S [.lst []]) (by simp)
  refine there_ok hΔ o hl1 sz hp fun S1 l xs s1 hlm hxl R hx => ?_
  have hl0 : S.length < l := by simp at hlm; omega
  rw [wk_seqL (.inl hxl)]
  walk_at "nf"
  have hxlen : xs.length < 64 := by
    have h1 := congrArg List.length hx
    rw [List.length_map] at h1
    have := there_len P
    omega
  refine wpS_forM xs (fun done ρ S' => ∃ (zs : List (List Nat × Nat × RowSt)) (d0 : Option D), ρ = [some (.ref n), some (.ref S.length), some (optS (nmAll (done.map (·.2))).1), some (.int (nmAll (done.map (·.2))).2.1), d0] ∧ Sub [] S S' ∧ S'[l]? = some (.lst (xs.map fun x => .ref x.1)) ∧ RowsAt S' xs ∧ S'[S.length]? = some (.lst (zs.map fun z => .tup [.str z.1, .ref z.2.1])) ∧ zs.map (·.2) = done ∧ zs.map (fun z => (z.1, z.2.2)) = (nmAll (done.map (·.2))).2.2) ?_ ?_ ?_ ?_
  · exact ⟨[], none, rfl, (Sub.app _ _).trans s1, hxl, R, s1.get0 (get_new _ _), rfl, rfl⟩
  · rintro done ρ S' ⟨zs, d0, rfl, s, hxl, _⟩
    exact .inl hxl
  · rintro done x rest ρ S' e ⟨zs, d0, rfl, s, hxl, R, hz, hz1, hz2⟩
    have hxm : x ∈ xs := by rw [e]; simp
    have hxa := R x hxm
    have hok : okName x.2.name = true := by
      refine rows_ok ok x.2 (there_mem.mp ?_).1
      rw [← hx]
      exact List.mem_map.mpr ⟨x, hxm, rfl⟩
    have hc : (nmAll (done.map (·.2))).2.1 ≤ 64 := by
      have h1 := nm_count (done.map (·.2)) (none, 0, [])
      have h2 : done.length < xs.length := by rw [e]; simp
      rw [List.length_map] at h1
      have h3 : max ((none, 0, []) : Option (List Nat) × Nat × List (List Nat × RowSt)).2.1 1 = 1 := rfl
      rw [h3] at h1
      show (nmAll (done.map (·.2))).2.1 ≤ 64
      unfold nmAll
      omega
    have hsn := nmAll_snoc (done.map (·.2)) x.2
    rw [show (done.map (·.2)) ++ [x.2] = (done ++ [x]).map (·.2) by simp] at hsn
    generalize hst : nmAll (done.map (·.2)) = st at hsn hz2 hc
    obtain ⟨l0, c0, out⟩ := st
    dsimp only at hc hz2 hsn
    walk_at "nf"
    have zlen : zs.length < line := by
      have h1 := congrArg List.length hz1
      rw [List.length_map] at h1
      have h2 : done.length < xs.length := by rw [e]; simp
      unfold line
      omega
    have fin : ∀ (v : List Nat), out ++ [(v, x.2)] = (nmAll ((done ++ [x]).map (·.2))).2.2 → ∃ (zs' : List (List Nat × Nat × RowSt)), Sub [] S (S'.set S.length (.lst (zs.map (fun z => .tup [.str z.1, .ref z.2.1]) ++ [.tup [.str v, .ref x.1]]))) ∧ (S'.set S.length (.lst (zs.map (fun z => .tup [.str z.1, .ref z.2.1]) ++ [.tup [.str v, .ref x.1]])))[l]? = some (.lst (xs.map fun x => .ref x.1)) ∧ RowsAt (S'.set S.length (.lst (zs.map (fun z => .tup [.str z.1, .ref z.2.1]) ++ [.tup [.str v, .ref x.1]]))) xs ∧ (S'.set S.length (.lst (zs.map (fun z => .tup [.str z.1, .ref z.2.1]) ++ [.tup [.str v, .ref x.1]])))[S.length]? = some (.lst (zs'.map fun z => .tup [.str z.1, .ref z.2.1])) ∧ zs'.map (·.2) = done ++ [x] ∧ zs'.map (fun z => (z.1, z.2.2)) = (nmAll ((done ++ [x]).map (·.2))).2.2 := by
      intro v hv
      refine ⟨zs ++ [(v, x)], s.putNew (Nat.le_refl _) _, ?_, fun y hy => ?_, ?_, ?_, ?_⟩
      · rw [List.getElem?_set_ne (Nat.ne_of_lt hl0)]
        exact hxl
      · rw [List.getElem?_set_ne]
        · exact R y hy
        · intro z
          have := R y hy
          rw [← z, hz] at this
          cases this
      · rw [get_set (get_lt hz), List.map_append]
        rfl
      · rw [List.map_append, hz1]
        rfl
      · rw [List.map_append, hz2, ← hv]
        rfl
    have hnl := name_len hok
    rw [wp_attI hxa rfl]
    try walk_at "nf"
    rw [eq_opt]
    try walk_at "nf"
    by_cases e1 : some x.2.name = l0
    · rw [if_pos e1, wp_attI hxa rfl]
      try walk_at "nf"
      rw [bmTy_lst rfl (.inl hz)]
      rw [show ((c0 : Int) + 1) = ((c0 + 1 : Nat) : Int) from by simp]
      unfold nmStep at hsn
      dsimp only at hsn
      rw [if_pos e1] at hsn
      have hc1 : c0 + 1 < 100 := by omega
      generalize c0 + 1 = c at hsn hc1
      by_cases e2 : c = 1
      · rw [if_pos e2] at hsn
        rw [if_pos (by omega), wp_attI hxa rfl]
        try walk_at "nf"
        rw [wp_append hz (by rw [List.length_map]; exact zlen)]
        obtain ⟨zs', f⟩ := fin x.2.name (by rw [hsn])
        refine ⟨zs', _, ⟨?_, ?_, rfl⟩, f⟩
        · rw [hsn]; rfl
        · rw [hsn]
      · rw [if_neg e2] at hsn
        have hn2 := numL_small c hc1
        rw [if_neg (by omega), wp_attI hxa rfl]
        try walk_at "nf"
        rw [str_int (by omega)]
        try walk_at "nf"
        rw [add_str (by unfold line; omega)]
        try walk_at "nf"
        rw [wp_append hz (by rw [List.length_map]; exact zlen)]
        obtain ⟨zs', f⟩ := fin (x.2.name ++ numL c) (by rw [hsn])
        refine ⟨zs', _, ⟨?_, ?_, rfl⟩, f⟩
        · rw [hsn]; rfl
        · rw [hsn]
    · rw [if_neg e1, wp_attI hxa rfl]
      unfold nmStep at hsn
      dsimp only at hsn
      rw [if_neg e1] at hsn
      try walk_at "nf"
      rw [bmTy_lst rfl (.inl hz), wp_attI hxa rfl]
      try walk_at "nf"
      rw [wp_append hz (by rw [List.length_map]; exact zlen)]
      obtain ⟨zs', f⟩ := fin x.2.name (by rw [hsn]; rfl)
      refine ⟨zs', _, ⟨?_, ?_, rfl⟩, f⟩
      · rw [hsn]; rfl
      · rw [hsn]; rfl
  · rintro ρ S2 ⟨zs, d0, rfl, s, hxl, R, hz, hz1, hz2⟩
    walk_at "nf"
    refine h S2 S.length zs s (Nat.le_refl _) hz (fun z hzm => ?_) ?_
    · refine R z.2 ?_
      rw [← hz1]
      exact List.mem_map.mpr ⟨z, hzm, rfl⟩
    · rw [hz2, hx]
      rfl
end
end NF
end -- NfWr2

section -- NfWr3
set_option linter.all false
set_option autoImplicit false
set_option maxRecDepth 10000
/-! The walk of table, fallen, wanted, waiting. -/
namespace NF
open SrtO
local macro_rules | `(tactic| walk_at "nf") => `(tactic| simp only [↓ws_nil, ↓ws_cons, ↓ws_asg, ↓ws_unp, ↓ws_par, ↓ws_sat, ↓ws_ssub, ↓ws_dsub, ↓ws_exp, ↓ws_ret, ↓ws_retN, ↓ws_pass, ↓ws_cont, ↓ws_ife, ↓ws_raise, ↓ws_for, ↓goS_nx, ↓goS_ct, ↓goS_rt, ↓we_var, ↓we_int, ↓we_str, ↓we_bl, ↓we_non, ↓we_neg, ↓we_glb, ↓we_tup, ↓we_lst, ↓we_dctT, ↓we_dctK, ↓we_bin, ↓we_cmp, ↓we_chain, ↓we_isn, ↓we_andv, ↓we_orv, ↓wand1, ↓wand2, ↓wor1, ↓wor2, ↓we_notv, ↓we_ife, ↓we_idx, ↓we_dix, ↓we_slc, ↓we_rev, ↓we_att, ↓we_call, ↓we_mk, ↓we_meth, ↓we_bi, ↓we_bm, ↓we_lenset, ↓we_sortset, ↓we_sortk, ↓we_sortf, ↓we_sortkeys, ↓we_listkeys, ↓we_isTy, ↓we_isEx, ↓we_lc, ↓wo_none, ↓wo_some, ↓wes_nil, ↓wes_cons, ↓wc_none, ↓wc_some, ↓wb_nm, ↓wt_ex, ↓wt_not, ↓wt_and, ↓wt_or, ↓wt_ife, ↓wtand_nil, ↓wtand_cons, ↓wtor_nil, ↓wtor_cons, ↓wtr_bl, ↓wtr_int, ↓w_turn, ↓w_body, ↓ifB_bl, ↓wp_ret, ↓wp_orS, ↓wp_bnd, List.getElem?_cons_zero, List.getElem?_cons_succ, Option.join_some, List.set_cons_zero, List.set_cons_succ, List.map_cons, List.map_nil, List.cons_append, List.nil_append, List.length_cons, List.length_nil, List.replicate_succ, List.replicate_zero, wipeE, cmp_le, cmp_lt, cmp_gt, cmp_ge, cmp_eqS, cmp_neS, cmp_eqI, cmp_neI, add_int, sub_int, len_tup, list_tup, ↓wk_seqT, ↓wk_seqS, ↓lv_lst, ↓lv_fix, isN, idx_t0, idx_t1, idx_t2, idx_t3, idx_t4, slc_t2, intO_2, Nat.reduceSub, Nat.reduceAdd, Bool.false_eq_true, if_true, if_false, Bool.not_true, Bool.not_false, Wk.items, decide_eq_true_eq, Bool.not_eq_true', decide_eq_false_iff_not, List.cons.injEq, Nat.reduceEqDiff, reduceCtorEq, and_false, false_and, and_true, true_and, decide_true, decide_false, not_true_eq_false, not_false_eq_true, Int.cast_ofNat_Int, Int.reduceLT, Int.reduceLE, Int.reduceEq, Int.reduceNe, Option.isSome_some, Option.isSome_none, sNew, sName, sWorth, sDrop, ne_eq, ↓wb_t2, ↓wb_t3, ↓wb_t4])
theorem len_le {A : Type} : ∀ {P L : List A}, P.Nodup → (∀ x ∈ P, x ∈ L) → P.length ≤ L.length
  | [], _, _, _ => Nat.zero_le _
  | x :: P, L, h, hs => by
    obtain ⟨a, b, rfl⟩ := List.append_of_mem (hs x List.mem_cons_self)
    rw [List.nodup_cons] at h
    have := len_le (P := P) (L := a ++ b) h.2 fun y hy => by
      have hy' := hs y (List.mem_cons_of_mem _ hy)
      rw [List.mem_append, List.mem_cons] at hy'
      rw [List.mem_append]
      rcases hy' with z | z | z
      · exact .inl z
      · exact (h.1 (z ▸ hy)).elim
      · exact .inr z
    simp at this ⊢
    omega
/-- good deeds stand at n, in order P -/
structure Good (S : Store) (n : Nat) (P L : List Deed) : Prop where
  o : IsOrd P L
  ok : ∀ d ∈ L, okDeed d = true
  sz : L.length < 64
  b : Bse S
  l : LstAt S n (L.map dD)
theorem Good.sub {S S' : Store} {n : Nat} {P L : List Deed} (g : Good S n P L) (s : Sub [] S S') : Good S' n P L := ⟨g.o, g.ok, g.sz, g.b.sub s (by simp), g.l.sub s (by simp)⟩
theorem Good.hp {S : Store} {n : Nat} {P L : List Deed} (g : Good S n P L) : P.length < 64 := by
  have hn : P.Nodup := g.o.srt.imp fun {a b} h z => by rw [z, ltK_irr] at h; cases h
  have := len_le hn fun x hx => (g.o.mem x).mp hx
  have := g.sz
  omega
theorem Good.okP {S : Store} {n : Nat} {P L : List Deed} (g : Good S n P L) : ∀ d ∈ P, okDeed d = true := fun d hd => g.ok d ((g.o.mem d).mp hd)
section
variable {Δ : String → Option Fn} {k n m : Nat} {S : Store} {Q : D → Store → Prop} {X : Ex → Store → Prop}
theorem cmpb_str (x y : List Nat) (r q : List D) (h : cmpbs r q = true) : cmpb (.tup (.str x :: r)) (.tup (.str y :: q)) = true := by
  simp only [cmpb, cmpbs]
  split
  · exact h
  · rfl
theorem cmpbs_key (a b : Key) (r q : List D) (h : cmpbs r q = true) : cmpbs (pairD a :: r) (pairD b :: q) = true := by
  simp only [cmpbs]
  split
  · exact h
  · exact cmpb_pairD a b
theorem cmpbs_int (a b : Int) (r q : List D) (h : cmpbs r q = true) : cmpbs (.int a :: r) (.int b :: q) = true := by
  simp only [cmpbs]
  split
  · exact h
  · rfl
theorem cmpbs_str (a b : List Nat) (r q : List D) (h : cmpbs r q = true) : cmpbs (.str a :: r) (.str b :: q) = true := by
  simp only [cmpbs]
  split
  · exact h
  · rfl
theorem named_len {P : List Deed} {A : Type} {zs : List A} {f : A → List Nat × RowSt} (h : zs.map f = namedM P) : zs.length ≤ P.length := by
  have h1 := congrArg List.length h
  rw [List.length_map] at h1
  have h2 : (namedM P).length = (thereM P).length := by
    have := congrArg List.length (nm_rows (thereM P))
    rw [List.length_map] at this
    exact this
  have := there_len P
  omega
theorem table_ok (ht : Δ "table" = some TR.fn_table) (hΔ : HRows Δ) {P L : List Deed} (g : Good S n P L) (h : ∀ S' m, Sub [] S S' → S.length ≤ m → S'[m]? = some (.lst (tableM P)) → Q (.ref m) S') : wp (callF Δ (k + 5) "table" [.ref n]) S Q X := by
  rw [wp_call ht rfl]
  unfold TR.fn_table
  walk_at "nf"
  refine look_ok hΔ.toHDeeds g.b g.l g.ok g.o.fnl g.sz fun S1 s1 => ?_
  try walk_at "nf"
  have g1 := g.sub s1
  refine named_ok hΔ g1.o g1.okP g1.l g1.sz g1.hp fun S2 l zs s2 hlm hz hzr hzn => ?_
  have zlen := named_len hzn
  have hp := g1.hp
  try walk_at "nf"
  rw [wk_seqL (.inl hz)]
  try walk_at "nf"
  refine wp_gather0 zs (fun z => some (.tup [.str z.1, pairD z.2.2.key, .int z.2.2.worth])) (.inl hz) (fun z hzm => ?_) ?_
  · walk_at "nf"
    rw [wp_attI (hzr z hzm) rfl]
    try walk_at "nf"
    rw [wp_attI (hzr z hzm) rfl]
    exact ⟨rfl, rfl⟩
  · rw [fm_some, if_pos (by rw [List.length_map]; unfold line; omega)]
    rw [wp_sorted (.inl (get_new _ _)) (allCmp_of (fun _ _ => rfl) (fun _ _ => rfl) fun _ _ _ _ => cmpb_str _ _ _ _ (cmpbs_key _ _ _ _ (cmpbs_int _ _ _ _ rfl)))]
    refine h _ _ ((s1.trans s2).trans ((Sub.app _ _).trans (Sub.app _ _))) ?_ ?_
    · have h1 := s1.1
      have h2 := s2.1
      simp
      omega
    · rw [get_new]
      unfold tableM
      rw [← hzn, List.map_map]
      rfl
theorem fallen_ok (ht : Δ "fallen" = some TR.fn_fallen) (hΔ : HRows Δ) {P L : List Deed} (g : Good S n P L) (h : ∀ S' m, Sub [] S S' → S.length ≤ m → S'[m]? = some (.lst (fallenM P)) → Q (.ref m) S') : wp (callF Δ (k + 5) "fallen" [.ref n]) S Q X := by
  rw [wp_call ht rfl]
  unfold TR.fn_fallen
  walk_at "nf"
  refine look_ok hΔ.toHDeeds g.b g.l g.ok g.o.fnl g.sz fun S1 s1 => ?_
  try walk_at "nf"
  have g1 := g.sub s1
  refine named_ok hΔ g1.o g1.okP g1.l g1.sz g1.hp fun S2 l zs s2 hlm hz hzr hzn => ?_
  have zlen := named_len hzn
  have hp := g1.hp
  try walk_at "nf"
  rw [wk_seqL (.inl hz)]
  try walk_at "nf"
  refine wp_gather0 zs (fun z => if (z.1 != z.2.2.name) then some (pairD z.2.2.key) else none) (.inl hz) (fun z hzm => ?_) ?_
  · walk_at "nf"
    rw [wp_attI (hzr z hzm) rfl]
    try walk_at "nf"
    rw [wp_attI (hzr z hzm) rfl]
    by_cases e : z.1 = z.2.2.name <;> simp [e]
  · rw [fm_filter, if_pos (by
      rw [List.length_map]
      have := List.length_filter_le (fun z : List Nat × Nat × RowSt => z.1 != z.2.2.name) zs
      unfold line
      omega)]
    rw [wp_sorted (.inl (get_new _ _)) (allCmp_of (fun _ _ => rfl) (fun _ _ => rfl) fun _ _ _ _ => cmpb_pairD _ _)]
    refine h _ _ ((s1.trans s2).trans ((Sub.app _ _).trans (Sub.app _ _))) ?_ ?_
    · have h1 := s1.1
      have h2 := s2.1
      simp
      omega
    · rw [get_new]
      unfold fallenM
      rw [← hzn, List.filter_map, List.map_map]
      rfl
theorem wanted_ok (ht : Δ "wanted" = some TR.fn_wanted) (hΔ : HRows Δ) {P L : List Deed} (g : Good S n P L) (h : ∀ S' m, Sub [] S S' → S.length ≤ m → S'[m]? = some (.lst (wantedM P)) → Q (.ref m) S') : wp (callF Δ (k + 4) "wanted" [.ref n]) S Q X := by
  rw [wp_call ht rfl]
  unfold TR.fn_wanted
  walk_at "nf"
  refine look_ok hΔ.toHDeeds g.b g.l g.ok g.o.fnl g.sz fun S1 s1 => ?_
  try walk_at "nf"
  have g1 := g.sub s1
  refine there_ok hΔ g1.o g1.l g1.sz g1.hp fun S2 l xs s2 hlm hxl R hx => ?_
  have xlen : xs.length < 64 := by
    have h1 := congrArg List.length hx
    rw [List.length_map] at h1
    have := there_len P
    have := g1.hp
    omega
  try walk_at "nf"
  rw [wk_seqL (.inl hxl)]
  try walk_at "nf"
  refine wp_gather0 xs (fun x => some (.str x.2.name)) (.inl hxl) (fun x hxm => ?_) ?_
  · walk_at "nf"
    rw [wp_attI (R x hxm) rfl]
    exact ⟨rfl, rfl⟩
  · rw [fm_some, if_pos (by rw [List.length_map]; unfold line; omega)]
    try walk_at "nf"
    rw [wp_lst1 (get_new _ _)]
    have hnm : (xs.map fun x => D.str x.2.name) = (thereM P).map fun r => D.str r.name := by rw [← hx, List.map_map]; rfl
    rw [hnm]
    have hpure : ((thereM P).map fun r => D.str r.name).all pureD = true := by
      rw [List.all_map, List.all_eq_true]
      intro _ _
      rfl
    have hset : setOk ((thereM P).map fun r => D.str r.name) = true := by
      unfold setOk
      have e2 : ((thereM P).map fun r => D.str r.name).all isStrD = true := by
        rw [List.all_map, List.all_eq_true]
        intro _ _
        rfl
      have e3 : ((thereM P).map fun r => D.str r.name).length < 64 := by
        rw [← hnm, List.length_map]
        exact xlen
      rw [hpure, e2, decide_eq_true e3, Bool.or_true]
      rfl
    rw [if_pos hset, wp_sortM (allCmp_of (fun _ _ => rfl) (fun _ _ => rfl) fun _ _ _ _ => rfl), wk_seqL (.inl (get_new _ _))]
    try walk_at "nf"
    have hgn := get_new S2 (.lst ((thereM P).map fun r => D.str r.name))
    have hn2 : (S2 ++ [O.lst ((thereM P).map fun r => D.str r.name)] ++ [.lst (dedup (sortBy ltD ((thereM P).map fun r => D.str r.name)))])[S2.length]? = some (.lst ((thereM P).map fun r => D.str r.name)) := (Sub.app (W := []) _ _).get0 hgn
    refine wp_gatherD (dedup (sortBy ltD ((thereM P).map fun r => D.str r.name))) (fun d => if ((thereM P).map fun r => D.str r.name).count d > 1 then some (.tup [d, .int (((thereM P).map fun r => D.str r.name).count d)]) else none) ?_ (fun d hd => ?_) ?_
    · exact Or.inl (get_new _ _)
    · have hdp : pureD d = true := by
        have h1 := dedup_mem.mp hd
        rw [(sort_perm _).mem_iff] at h1
        obtain ⟨r, _, rfl⟩ := List.mem_map.mp h1
        rfl
      walk_at "nf"
      rw [bmTy_lst rfl (.inl hn2), wp_count (.inl hn2) hdp hpure]
      try walk_at "nf"
      rw [bmTy_lst rfl (.inl hn2), wp_count (.inl hn2) hdp hpure]
      by_cases e : ((thereM P).map fun r => D.str r.name).count d > 1
      · rw [if_pos (by omega), if_pos e]
        try exact ⟨rfl, rfl⟩
      · rw [if_neg (by omega), if_neg e]
        try exact ⟨rfl, rfl⟩
    · rw [if_pos (by
        have h1 := List.length_filterMap_le (fun d => if ((thereM P).map fun r => D.str r.name).count d > 1 then some (D.tup [d, .int (((thereM P).map fun r => D.str r.name).count d)]) else none) (dedup (sortBy ltD ((thereM P).map fun r => D.str r.name)))
        have h2 := (dedup_sub (sortBy ltD ((thereM P).map fun r => D.str r.name))).length_le
        have h3 := (sort_perm (lt := ltD) ((thereM P).map fun r => D.str r.name)).length_eq
        have h4 := congrArg List.length hnm
        rw [List.length_map] at h4
        unfold line
        omega)]
      refine h _ _ ((s1.trans s2).trans ((Sub.app _ _).trans ((Sub.app _ _).trans (Sub.app _ _)))) ?_ (get_new _ _)
      have h1 := s1.1
      have h2 := s2.1
      simp
      omega
theorem waiting_ok (ht : Δ "waiting" = some TR.fn_waiting) (hΔ : HRows Δ) {P L : List Deed} (g : Good S n P L) (h : ∀ S' m, Sub [] S S' → S.length ≤ m → S'[m]? = some (.lst (waitingM P)) → Q (.ref m) S') : wp (callF Δ (k + 4) "waiting" [.ref n]) S Q X := by
  rw [wp_call ht rfl]
  unfold TR.fn_waiting
  walk_at "nf"
  refine look_ok hΔ.toHDeeds g.b g.l g.ok g.o.fnl g.sz fun S1 s1 => ?_
  try walk_at "nf"
  have g1 := g.sub s1
  refine all_rows_ok hΔ g1.o g1.l g1.sz g1.hp fun S2 m xs s2 hm R hb hx => ?_
  try walk_at "nf"
  have g2 := g1.sub s2
  refine in_order_ok hΔ.toHDeeds g2.o g2.l g2.sz fun S3 l s3 hlm hl => ?_
  try walk_at "nf"
  rw [wk_seqL (.inl hl)]
  try walk_at "nf"
  have hd := s3.get0 R.dct
  have kn : (xs.map (·.2.key)).Nodup := by
    have h1 : xs.map (·.2.key) = (xs.map (·.2)).map (·.key) := by rw [List.map_map]; rfl
    rw [h1, hx, rows_keys]
    exact news_nodup g.o.srt
  have hkeys : xs.map (·.2.key) = (rowsM P).map (·.key) := by rw [← hx, List.map_map]; rfl
  refine wp_gather0 P (fun d => if waits P d then some (dD d) else none) (.inl hl) (fun d hdm => ?_) ?_
  · have wait : ∀ (t : Key) (v : D), d.2.at = some t → wp (cmpM .nin (pairD t) (.ref m)) S3 (fun x S1 => wp (truthM x) S1 (fun b S2 => if b = true then some v = (if waits P d then some v else none) ∧ S2 = S3 else none = (if waits P d then some v else none) ∧ S2 = S3) noX) noX := by
      intro t v e
      have hw : (!decide (t ∈ (rowsM P).map (·.key))) = waits P d := by
        unfold waits
        rw [e]
      rw [wp_ninK hd, row_get kn, wtr_bl, hkeys, hw]
      cases waits P d <;> exact ⟨rfl, rfl⟩
    obtain ⟨p, a⟩ := d
    cases a with
    | new x w =>
      rw [dD_new]
      walk_at "nf"
      rfl
    | name t x =>
      rw [dD_name]
      walk_at "nf"
      exact wait t _ rfl
    | worth t w =>
      rw [dD_worth]
      walk_at "nf"
      exact wait t _ rfl
    | drop t =>
      rw [dD_drop]
      walk_at "nf"
      exact wait t _ rfl
  · rw [fm_filter, if_pos (by
      rw [List.length_map]
      have := List.length_filter_le (waits P) P
      have := g.hp
      unfold line
      omega)]
    refine h _ _ ((s1.trans s2).trans (s3.trans (Sub.app _ _))) ?_ (get_new _ _)
    have h1 := s1.1
    have h2 := s2.1
    have h3 := s3.1
    omega
end
end NF
end -- NfWr3

section -- NfLd
set_option linter.all false
set_option autoImplicit false
set_option maxRecDepth 10000
/-! The walk of what the laws draw. -/
namespace NF
open SrtO
local macro_rules | `(tactic| walk_at "nf") => `(tactic| simp only [↓ws_nil, ↓ws_cons, ↓ws_asg, ↓ws_unp, ↓ws_par, ↓ws_sat, ↓ws_ssub, ↓ws_dsub, ↓ws_exp, ↓ws_ret, ↓ws_retN, ↓ws_pass, ↓ws_cont, ↓ws_ife, ↓ws_raise, ↓ws_for, ↓goS_nx, ↓goS_ct, ↓goS_rt, ↓we_var, ↓we_int, ↓we_str, ↓we_bl, ↓we_non, ↓we_neg, ↓we_glb, ↓we_tup, ↓we_lst, ↓we_dctT, ↓we_dctK, ↓we_bin, ↓we_cmp, ↓we_chain, ↓we_isn, ↓we_andv, ↓we_orv, ↓wand1, ↓wand2, ↓wor1, ↓wor2, ↓we_notv, ↓we_ife, ↓we_idx, ↓we_dix, ↓we_slc, ↓we_rev, ↓we_att, ↓we_call, ↓we_mk, ↓we_meth, ↓we_bi, ↓we_bm, ↓we_lenset, ↓we_sortset, ↓we_sortk, ↓we_sortf, ↓we_sortkeys, ↓we_listkeys, ↓we_isTy, ↓we_isEx, ↓we_lc, ↓wo_none, ↓wo_some, ↓wes_nil, ↓wes_cons, ↓wc_none, ↓wc_some, ↓wb_nm, ↓wt_ex, ↓wt_not, ↓wt_and, ↓wt_or, ↓wt_ife, ↓wtand_nil, ↓wtand_cons, ↓wtor_nil, ↓wtor_cons, ↓wtr_bl, ↓wtr_int, ↓w_turn, ↓w_body, ↓ifB_bl, ↓wp_ret, ↓wp_orS, ↓wp_bnd, List.getElem?_cons_zero, List.getElem?_cons_succ, Option.join_some, List.set_cons_zero, List.set_cons_succ, List.map_cons, List.map_nil, List.cons_append, List.nil_append, List.length_cons, List.length_nil, List.replicate_succ, List.replicate_zero, wipeE, cmp_le, cmp_lt, cmp_gt, cmp_ge, cmp_eqS, cmp_neS, cmp_eqI, cmp_neI, add_int, sub_int, len_tup, list_tup, ↓wk_seqT, ↓wk_seqS, ↓lv_lst, ↓lv_fix, isN, idx_t0, idx_t1, idx_t2, idx_t3, idx_t4, slc_t2, intO_2, Nat.reduceSub, Nat.reduceAdd, Bool.false_eq_true, if_true, if_false, Bool.not_true, Bool.not_false, Wk.items, decide_eq_true_eq, Bool.not_eq_true', decide_eq_false_iff_not, List.cons.injEq, Nat.reduceEqDiff, reduceCtorEq, and_false, false_and, and_true, true_and, decide_true, decide_false, not_true_eq_false, not_false_eq_true, Int.cast_ofNat_Int, Int.reduceLT, Int.reduceLE, Int.reduceEq, Int.reduceNe, Option.isSome_some, Option.isSome_none, sNew, sName, sWorth, sDrop, ne_eq, ↓wb_t2, ↓wb_t3, ↓wb_t4])
structure HDraw (Δ : String → Option Fn) : Prop where
  cell : Δ "_law_cell" = some TR.fn__law_cell
  mix : Δ "_law_mix" = some TR.fn__law_mix
  draw : Δ "_law_draw" = some TR.fn__law_draw
  pick : Δ "_law_pick" = some TR.fn__law_pick
  name : Δ "_law_name" = some TR.fn__law_name
  deed : Δ "_law_deed" = some TR.fn__law_deed
  deeds : Δ "_law_deeds" = some TR.fn__law_deeds
/-- the script stands at sc, the count of draws at t -/
structure Drw (S : Store) (sc t : Nat) (ns : List Int) (c : Nat) : Prop where
  scr : LstAt S sc (ns.map D.int)
  twn : ∃ ds, S[t]? = some (.lst ds) ∧ ds.length ≤ c
  ne : sc ≠ t
section
variable {Δ : String → Option Fn} {k n m sc t c : Nat} {ns : List Int} {S : Store} {Q : D → Store → Prop} {X : Ex → Store → Prop}
theorem Drw.lt (w : Drw S sc t ns c) : t < S.length := let ⟨_, h, _⟩ := w.twn; get_lt h
/-- what is drawn later -/
theorem Drw.sub {S' : Store} (w : Drw S sc t ns c) (s : Sub [] S S') : Drw S' sc t ns c := ⟨w.scr.sub s (by simp), let ⟨ds, h, l⟩ := w.twn; ⟨ds, s.get0 h, l⟩, w.ne⟩
theorem Drw.more {c' : Nat} (w : Drw S sc t ns c) (h : c ≤ c') : Drw S sc t ns c' := ⟨w.scr, let ⟨ds, h1, l⟩ := w.twn; ⟨ds, h1, Nat.le_trans l h⟩, w.ne⟩
theorem small_of {i : Int} (h : 0 ≤ i) (h2 : i < 4294967296) : small i = true := by
  unfold small
  rw [decide_eq_true (show -(2 ^ 62 : Int) < i by omega), decide_eq_true (show i < (2 ^ 62 : Int) by omega)]
  rfl
theorem cell_ok (hΔ : HDraw Δ) (hs : LstAt S sc (ns.map D.int)) {j : Nat} (h : ∀ v, Q (.int v) S) : wp (callF Δ (k + 1) "_law_cell" [.ref sc, .int j]) S Q X := by
  rw [wp_call hΔ.cell rfl]
  unfold TR.fn__law_cell
  walk_at "nf"
  rw [wtr_ref, wp_lst hs]
  try walk_at "nf"
  cases hn : ns with
  | nil =>
    try walk_at "nf"
    simp
    exact h 0
  | cons a r =>
    have hs' : LstAt S sc ((a :: r).map D.int) := hn ▸ hs
    simp only [List.map_cons, List.isEmpty_cons, Bool.not_false, if_true]
    rw [wp_len hs']
    try walk_at "nf"
    rw [md_int (by omega)]
    try walk_at "nf"
    have hj : ((j : Int) % (((a :: r).map D.int).length : Nat)) = ((j % ((a :: r).map D.int).length : Nat) : Int) := by simp
    rw [show ((j : Int) % ((((r.map D.int).length + 1 : Nat)) : Int)) = ((j % ((a :: r).map D.int).length : Nat) : Int) by simp]
    have hlt : j % ((a :: r).map D.int).length < ((a :: r).map D.int).length := Nat.mod_lt _ (by simp)
    rw [wp_idxL hs', ix_nat hlt]
    show wp (orBad (((a :: r).map D.int)[j % ((a :: r).map D.int).length]?)) S _ _
    rw [List.getElem?_eq_getElem hlt, wp_orS, List.getElem_map]
    exact h _
theorem mix_ok (hΔ : HDraw Δ) (hs : LstAt S sc (ns.map D.int)) {j : Nat} (h : ∀ v, 0 ≤ v → v < 4294967296 → Q (.int v) S) : wp (callF Δ (k + 2) "_law_mix" [.ref sc, .int j]) S Q X := by
  rw [wp_call hΔ.mix rfl]
  unfold TR.fn__law_mix
  walk_at "nf"
  refine cell_ok hΔ hs fun v => ?_
  try walk_at "nf"
  rw [mul_int (by rw [small_of (i := 104729) (by omega) (by omega), Bool.or_true])]
  try walk_at "nf"
  rw [md_int (by omega)]
  try walk_at "nf"
  generalize hx : (v + 104729 * ((j : Int) + 1)) % 4294967291 = x
  have hx0 : 0 ≤ x := by rw [← hx]; exact Int.emod_nonneg _ (by omega)
  have hx1 : x < 4294967291 := by rw [← hx]; exact Int.emod_lt_of_pos _ (by omega)
  rw [pw_int (by omega) (by omega) (small_of hx0 (by omega))]
  try walk_at "nf"
  rw [md_int (by omega)]
  try walk_at "nf"
  generalize hy : x ^ (5 : Int).toNat % 4294967279 = y
  have hy0 : 0 ≤ y := by rw [← hy]; exact Int.emod_nonneg _ (by omega)
  have hy1 : y < 4294967279 := by rw [← hy]; exact Int.emod_lt_of_pos _ (by omega)
  rw [fd_int (by omega) (by omega)]
  try walk_at "nf"
  rw [mul_int (by rw [small_of (i := 69621) (by omega) (by omega), Bool.true_or])]
  try walk_at "nf"
  rw [md_int (by omega)]
  try walk_at "nf"
  refine h _ (Int.emod_nonneg _ (by omega)) ?_
  have := Int.emod_lt_of_pos (y / 64 * 69621 + y) (show (0 : Int) < 4294967231 by omega)
  omega
theorem draw_ok (hΔ : HDraw Δ) (w : Drw S sc t ns c) (hc : c < 100000) {a : Int} (ha : 0 < a) (h : ∀ S' v, Sub [t] S S' → Drw S' sc t ns (c + 1) → 0 ≤ v → v < a → Q (.int v) S') : wp (callF Δ (k + 3) "_law_draw" [.ref sc, .ref t, .int a]) S Q X := by
  rw [wp_call hΔ.draw rfl]
  unfold TR.fn__law_draw
  walk_at "nf"
  obtain ⟨ds, ht, hl⟩ := w.twn
  rw [bmTy_lst rfl (.inl ht), wp_append ht (by unfold line; omega)]
  try walk_at "nf"
  have w' : Drw (S.set t (.lst (ds ++ [.int 0]))) sc t ns (c + 1) := ⟨w.scr.sub (Sub.put (W := [t]) (.inl (by simp)) _) (by simpa using w.ne), ⟨_, get_set (get_lt ht) _, by simp; omega⟩, w.ne⟩
  rw [wp_len (.inl (get_set (get_lt ht) _))]
  try walk_at "nf"
  refine mix_ok hΔ w'.scr fun v hv hv2 => ?_
  try walk_at "nf"
  rw [fd_int (by decide) (by decide)]
  try walk_at "nf"
  rw [md_int ha]
  try walk_at "nf"
  exact h _ _ (Sub.put (.inl (by simp)) _) w' (Int.emod_nonneg _ (by omega)) (Int.emod_lt_of_pos _ ha)
theorem pick_ok (hΔ : HDraw Δ) (w : Drw S sc t ns c) (hc : c < 100000) {xs : List D} (hl : LstAt S n xs) (hn : n ≠ t) (hx : xs ≠ []) (h : ∀ S' x, Sub [t] S S' → Drw S' sc t ns (c + 1) → x ∈ xs → Q x S') : wp (callF Δ (k + 4) "_law_pick" [.ref sc, .ref t, .ref n]) S Q X := by
  rw [wp_call hΔ.pick rfl]
  unfold TR.fn__law_pick
  walk_at "nf"
  rw [wp_len hl]
  try walk_at "nf"
  have hpos : 0 < xs.length := List.length_pos_iff.mpr hx
  refine draw_ok hΔ w hc (by omega) fun S' v s w' h0 h1 => ?_
  try walk_at "nf"
  obtain ⟨j, rfl⟩ := Int.eq_ofNat_of_zero_le h0
  have hj : j < xs.length := by omega
  rw [wp_idxL (hl.sub s (by simpa using hn)), show ((j : Nat) : Int) = (j : Int) from rfl, ix_nat hj]
  show wp (orBad (xs[j]?)) S' _ _
  rw [List.getElem?_eq_getElem hj, wp_orS]
  exact h S' _ s w' (List.getElem_mem hj)
end
end NF
end -- NfLd

section -- NfLd2
set_option linter.all false
set_option autoImplicit false
set_option maxRecDepth 10000
/-! The walk of what the laws draw. -/
namespace NF
open SrtO
local macro_rules | `(tactic| walk_at "nf") => `(tactic| simp only [↓ws_nil, ↓ws_cons, ↓ws_asg, ↓ws_unp, ↓ws_par, ↓ws_sat, ↓ws_ssub, ↓ws_dsub, ↓ws_exp, ↓ws_ret, ↓ws_retN, ↓ws_pass, ↓ws_cont, ↓ws_ife, ↓ws_raise, ↓ws_for, ↓goS_nx, ↓goS_ct, ↓goS_rt, ↓we_var, ↓we_int, ↓we_str, ↓we_bl, ↓we_non, ↓we_neg, ↓we_glb, ↓we_tup, ↓we_lst, ↓we_dctT, ↓we_dctK, ↓we_bin, ↓we_cmp, ↓we_chain, ↓we_isn, ↓we_andv, ↓we_orv, ↓wand1, ↓wand2, ↓wor1, ↓wor2, ↓we_notv, ↓we_ife, ↓we_idx, ↓we_dix, ↓we_slc, ↓we_rev, ↓we_att, ↓we_call, ↓we_mk, ↓we_meth, ↓we_bi, ↓we_bm, ↓we_lenset, ↓we_sortset, ↓we_sortk, ↓we_sortf, ↓we_sortkeys, ↓we_listkeys, ↓we_isTy, ↓we_isEx, ↓we_lc, ↓wo_none, ↓wo_some, ↓wes_nil, ↓wes_cons, ↓wc_none, ↓wc_some, ↓wb_nm, ↓wt_ex, ↓wt_not, ↓wt_and, ↓wt_or, ↓wt_ife, ↓wtand_nil, ↓wtand_cons, ↓wtor_nil, ↓wtor_cons, ↓wtr_bl, ↓wtr_int, ↓w_turn, ↓w_body, ↓ifB_bl, ↓wp_ret, ↓wp_orS, ↓wp_bnd, List.getElem?_cons_zero, List.getElem?_cons_succ, Option.join_some, List.set_cons_zero, List.set_cons_succ, List.map_cons, List.map_nil, List.cons_append, List.nil_append, List.length_cons, List.length_nil, List.replicate_succ, List.replicate_zero, wipeE, cmp_le, cmp_lt, cmp_gt, cmp_ge, cmp_eqS, cmp_neS, cmp_eqI, cmp_neI, add_int, sub_int, len_tup, list_tup, ↓wk_seqT, ↓wk_seqS, ↓lv_lst, ↓lv_fix, isN, idx_t0, idx_t1, idx_t2, idx_t3, idx_t4, slc_t2, intO_2, Nat.reduceSub, Nat.reduceAdd, Bool.false_eq_true, if_true, if_false, Bool.not_true, Bool.not_false, Wk.items, decide_eq_true_eq, Bool.not_eq_true', decide_eq_false_iff_not, List.cons.injEq, Nat.reduceEqDiff, reduceCtorEq, and_false, false_and, and_true, true_and, decide_true, decide_false, not_true_eq_false, not_false_eq_true, Int.cast_ofNat_Int, Int.reduceLT, Int.reduceLE, Int.reduceEq, Int.reduceNe, Option.isSome_some, Option.isSome_none, sNew, sName, sWorth, sDrop, ne_eq, ↓wb_t2, ↓wb_t3, ↓wb_t4])
section
variable {Δ : String → Option Fn} {k n m sc t c : Nat} {ns : List Int} {S : Store} {Q : D → Store → Prop} {X : Ex → Store → Prop}
theorem Drw.app {T : Store} (w : Drw S sc t ns c) : Drw (S ++ T) sc t ns c := w.sub (Sub.app _ _)
def small26 : List Nat := [97, 98, 99, 100, 101, 102, 103, 104, 105, 106, 107, 108, 109, 110, 111, 112, 113, 114, 115, 116, 117, 118, 119, 120, 121, 122]
theorem mapO_strs : ∀ xs : List (List Nat), mapO strO (xs.map D.str) = some xs
  | [] => rfl
  | x :: xs => by simp only [List.map_cons, mapO, strO, mapO_strs xs]
theorem join_signs : ∀ xs : List Nat, joinL [] (xs.map fun c => [c]) = xs
  | [] => rfl
  | [x] => rfl
  | x :: y :: r => by
    have := join_signs (y :: r)
    simp only [List.map_cons, joinL] at this ⊢
    rw [this]
    rfl
theorem wp_join0 {n : Nat} {xs : List Nat} (h : LstAt S n ((xs.map fun c => [c]).map D.str)) (hl : xs.length ≤ line) : wp (bmM .join (.str []) [.ref n]) S Q X = Q (.str xs) S := by
  show wp (bnd (orBad (strO (.str []))) fun s => bnd (lstOf (.ref n)) fun ds => bnd (orBad (mapO strO ds)) fun xs =>
    if (joinL s xs).length + s.length ≤ line then ret (.str (joinL s xs)) else bad) S Q X = _
  rw [wp_bnd]
  show wp (orBad (some [])) S _ X = _
  rw [wp_orS, wp_bnd, wp_lst h, wp_bnd, mapO_strs, wp_orS, join_signs, if_pos (by simpa using hl), wp_ret]
theorem wk_rng1' {j : Int} (h : small j = true) {Q : Wk → Store → Prop} : wp (wkOf .rng1 [.int j]) S Q X = Q (.fix ((List.range j.toNat).map fun (i : Nat) => .int (0 + (i : Int)))) S := wk_rng1 h
theorem name_ok (hΔ : HDraw Δ) (w : Drw S sc t ns c) (hc : c < 90000) (h : ∀ S' x, Sub [t] S S' → Drw S' sc t ns (c + 6) → okName x = true → Q (.str x) S') : wp (callF Δ (k + 5) "_law_name" [.ref sc, .ref t]) S Q X := by
  rw [wp_call hΔ.name rfl]
  unfold TR.fn__law_name
  walk_at "nf"
  refine draw_ok hΔ w (by omega) (by decide) fun S1 v s1 w1 h0 h1 => ?_
  try walk_at "nf"
  split
  · have hlt : ∀ {T : Store}, (S1 ++ [O.lst [.str [97], .str [98], .str [97, 98], .str [122, 122, 122, 122]]])[S1.length]? = some (O.lst [.str [97], .str [98], .str [97, 98], .str [122, 122, 122, 122]]) := get_new _ _
    refine pick_ok hΔ w1.app (by omega) (.inl (get_new _ _)) (by have := w1.lt; omega) (by simp) fun S2 x s2 w2 hx => ?_
    have s12 : Sub [t] S S2 := s1.trans ((Sub.app _ _).trans s2)
    try walk_at "nf"
    simp only [List.mem_cons, List.not_mem_nil, or_false] at hx
    rcases hx with rfl | rfl | rfl | rfl
    · exact h S2 _ s12 (w2.more (by omega)) (by decide)
    · exact h S2 _ s12 (w2.more (by omega)) (by decide)
    · exact h S2 _ s12 (w2.more (by omega)) (by decide)
    · exact h S2 _ s12 (w2.more (by omega)) (by decide)
  · show wp _ _ _ _
    try walk_at "nf"
    refine draw_ok hΔ w1 (by omega) (by decide) fun S2 v2 s2 w2 h20 h21 => ?_
    try walk_at "nf"
    rw [wk_rng1 (small_of (by omega) (by omega))]
    try walk_at "nf"
    have s12 := s1.trans s2
    refine wp_collectM (List.range (1 + v2).toNat) (fun done out S' => ∃ cs : List Nat, out = (cs.map fun c => [c]).map .str ∧ cs.length = done.length ∧ (∀ c ∈ cs, c ∈ small26) ∧ Sub [t] S S' ∧ Drw S' sc t ns (c + 2 + done.length)) ?_ (fun _ _ _ _ => trivial) ?_ ?_
    · exact ⟨[], rfl, rfl, fun c hc => (by cases hc), s12, w2⟩
    · rintro done i rest out S' e ⟨cs, rfl, hl, hm, s', w'⟩
      have hlen : done.length < 4 := by
        have h1 := congrArg List.length e
        rw [List.length_range, List.length_append, List.length_cons] at h1
        omega
      walk_at "nf"
      refine draw_ok hΔ w' (by omega) (by decide) fun S3 u s3 w3 hu0 hu1 => ?_
      obtain ⟨j, rfl⟩ := Int.eq_ofNat_of_zero_le hu0
      have hj : j < small26.length := by
        have : small26.length = 26 := rfl
        omega
      rw [idx_str (by unfold line; simp)]
      show wp (orBad ((ixOf small26.length (j : Int)).bind fun j => small26[j]?.map fun c => D.str [c])) _ _ _
      rw [ix_nat hj]
      show wp (orBad (small26[j]?.map fun c => D.str [c])) _ _ _
      rw [List.getElem?_eq_getElem hj]
      show wp (orBad (some (D.str [small26[j]]))) _ _ _
      rw [wp_orS]
      refine ⟨cs ++ [small26[j]], by simp, by simp [hl], fun c hc => ?_, s'.trans s3, ?_⟩
      · rcases List.mem_append.mp hc with z | z
        · exact hm c z
        · rw [List.mem_singleton.mp z]
          exact List.getElem_mem hj
      · rw [List.length_append]
        exact w3.more (by simp; omega)
    · rintro out S3 ⟨cs, rfl, hl, hm, s3, w3⟩
      rw [List.length_range] at hl w3
      have hcl : cs.length ≤ 4 := by omega
      rw [if_pos (by simp; unfold line; omega), wp_join0 (.inl (get_new _ _)) (by unfold line; omega)]
      refine h _ _ (s3.trans (Sub.app _ _)) (w3.app.more (by omega)) ?_
      unfold okName
      rw [decide_eq_true (show 1 ≤ cs.length by omega), decide_eq_true hcl, Bool.true_and, Bool.true_and, List.all_eq_true]
      intro c hc
      exact List.contains_iff_mem.mpr (hm c hc)
/-- a new key -/
theorem okKey_of {a b : Int} (h1 : 0 ≤ a) (h2 : a < 999) (h3 : 0 ≤ b) (h4 : b < 5) : okKey (1 + a, 1 + b) = true := by
  unfold okKey
  simp only [Bool.and_eq_true, decide_eq_true_eq]
  omega
theorem okWorth_of {a : Int} (h1 : 0 ≤ a) (h2 : a < 100) : okWorth a = true := by
  unfold okWorth
  simp only [Bool.and_eq_true, decide_eq_true_eq]
  omega
theorem tv_lst {S : Store} {n : Nat} {ds : List D} (h : LstAt S n ds) (hp : ds.all (pureN 7) = true) : tv S 8 (.ref n) = some (.lst (ds.map (d0 7))) := by
  have e : mapO (tv S 7) ds = some (ds.map (d0 7)) := mapO_map fun d hd => tv_pure S 7 7 d (List.all_eq_true.mp hp d hd) (Nat.le_refl _)
  rcases h with h | h <;> simp only [tv, h, e] <;> rfl
theorem deed_ok (hΔ : HDraw Δ) (w : Drw S sc t ns c) (hc : c < 80000) {ks : List Key} (hr : LstAt S n (ks.map pairD)) (hn : n ≠ t) (hks : ∀ q ∈ ks, okKey q = true) (hkl : ks.length < 1000) {mo : Int} (hm0 : 0 < mo) (hm1 : mo ≤ 999)
    (h : ∀ S' d, Sub [t] S S' → Drw S' sc t ns (c + 20) → okDeed d = true → Q (dD d) S') : wp (callF Δ (k + 6) "_law_deed" [.ref sc, .ref t, .ref n, .int mo]) S Q X := by
  rw [wp_call hΔ.deed rfl]
  unfold TR.fn__law_deed
  walk_at "nf"
  refine draw_ok hΔ w (by omega) hm0 fun S1 a s1 w1 ha0 ha1 => ?_
  try walk_at "nf"
  refine draw_ok hΔ w1 (by omega) (by decide) fun S2 b s2 w2 hb0 hb1 => ?_
  try walk_at "nf"
  have hk := okKey_of ha0 (by omega) hb0 hb1
  generalize hp : ((1 + a, 1 + b) : Key) = p at hk
  rw [show (1 + a) = p.1 by rw [← hp], show (1 + b) = p.2 by rw [← hp]]
  refine pick_ok hΔ w2.app (by omega) (.inl (get_new _ _)) (by have := w2.lt; omega) (by simp) fun S3 x s3 w3 hx => ?_
  have s13 : Sub [t] S S3 := (s1.trans s2).trans ((Sub.app _ _).trans s3)
  have hr3 := hr.sub s13 (by simpa using hn)
  have hnew : ∀ {S' : Store} {c' : Nat} (_ : Sub [t] S S') (_ : Drw S' sc t ns c') (_ : c' ≤ c + 19) (x : List Nat) (v : Int), okName x = true → okWorth v = true → Q (.tup [.int p.1, .int p.2, .str [110, 101, 119], .str x, .int v]) S' := by
    intro S' c' s' w' hc' x v hx hv
    refine h S' (p, .new x v) s' (w'.more (by omega)) ?_
    unfold okDeed okAct
    simp only [hk, hx, hv, Bool.and_self]
  try walk_at "nf"
  have hx' : ∃ y, x = .str y ∧ (y = sNew ∨ y = sName ∨ y = sWorth ∨ y = sDrop) := by
    simp only [List.mem_cons, List.not_mem_nil, or_false] at hx
    rcases hx with e | e | e | e | e | e
    · exact ⟨_, e, .inl rfl⟩
    · exact ⟨_, e, .inl rfl⟩
    · exact ⟨_, e, .inr (.inl rfl)⟩
    · exact ⟨_, e, .inr (.inl rfl)⟩
    · exact ⟨_, e, .inr (.inr (.inl rfl))⟩
    · exact ⟨_, e, .inr (.inr (.inr rfl))⟩
  obtain ⟨y, rfl, hy⟩ := hx'
  try walk_at "nf"
  split
  · refine name_ok hΔ w3 (by omega) fun S4 z s4 w4 hz => ?_
    try walk_at "nf"
    refine draw_ok hΔ w4 (by omega) (by decide) fun S5 v s5 w5 hv0 hv1 => ?_
    try walk_at "nf"
    rw [add_tup (by simp; unfold line; omega)]
    try walk_at "nf"
    exact hnew (s13.trans (s4.trans s5)) w5 (by omega) z v hz (okWorth_of hv0 hv1)
  · rename_i hyn
    rw [wk_seqL hr3]
    try walk_at "nf"
    refine wp_gather0 ks (fun q => if ltK q p then some (pairD q) else none) hr3 (fun q hq => ?_) ?_
    · walk_at "nf"
      rw [show cmpM .lt (pairD q) (.tup [.int p.1, .int p.2]) = ret (.bl (ltK q p)) from lt_keys q p]
      try walk_at "nf"
      cases ltK q p <;> simp
    · rw [fm_filter]
      have hfl := List.length_filter_le (fun q => ltK q p) ks
      rw [if_pos (by rw [List.length_map]; unfold line; omega)]
      have t1 : tv (S3 ++ [O.lst ((ks.filter fun q => ltK q p).map pairD)] ++ [O.lst []]) 8 (.ref S3.length) = some (.lst (((ks.filter fun q => ltK q p).map pairD).map (d0 7))) := tv_lst (.inl ((Sub.app (W := []) _ _).get0 (get_new _ _))) (by rw [List.all_map, List.all_eq_true]; intro _ _; rfl)
      have t2 : tv (S3 ++ [O.lst ((ks.filter fun q => ltK q p).map pairD)] ++ [O.lst []]) 8 (.ref (S3 ++ [O.lst ((ks.filter fun q => ltK q p).map pairD)]).length) = some (.lst (([] : List D).map (d0 7))) := tv_lst (.inl (get_new _ _)) rfl
      rw [wp_neV t1 t2]
      have w4 : Drw (S3 ++ [O.lst ((ks.filter fun q => ltK q p).map pairD)] ++ [O.lst []]) sc t ns (c + 1 + 1 + 1) := w3.app.app
      have s4 : Sub [t] S (S3 ++ [O.lst ((ks.filter fun q => ltK q p).map pairD)] ++ [O.lst []]) := s13.trans ((Sub.app _ _).trans (Sub.app _ _))
      have hl4 : LstAt (S3 ++ [O.lst ((ks.filter fun q => ltK q p).map pairD)] ++ [O.lst []]) S3.length ((ks.filter fun q => ltK q p).map pairD) := .inl ((Sub.app (W := []) _ _).get0 (get_new _ _))
      by_cases hf : (ks.filter fun q => ltK q p) = []
      · have e : decide (V0.lst (((ks.filter fun q => ltK q p).map pairD).map (d0 7)) ≠ V0.lst (([] : List D).map (d0 7))) = false := by
          rw [hf]
          simp
        rw [e]
        try walk_at "nf"
        have h11 : okKey (1, 1) = true := by decide
        show wp (cmpM .ge (pairD (1, 1)) (.tup [.int p.1, .int p.2])) _ _ _
        rw [show cmpM .ge (pairD (1, 1)) (.tup [.int p.1, .int p.2]) = ret (.bl (!ltK (1, 1) p)) from ge_keys (1, 1) p]
        try walk_at "nf"
        by_cases hlt : ltK (1, 1) p = true
        · have hlt' : (!ltK (1, 1) p) = false := by rw [hlt]; rfl
          simp only [hlt', hlt, Bool.true_eq_false, Bool.false_eq_true, if_false, if_true]
          split
          · refine name_ok hΔ w4 (by omega) fun S6 z s6 w6 hz => ?_
            try walk_at "nf"
            rw [add_tup (by simp; unfold line; omega)]
            try walk_at "nf"
            refine h S6 (p, .name (1, 1) z) (s4.trans s6) (w6.more (by omega)) ?_
            unfold okDeed okAct
            simp only [hk, h11, hlt, hz, Bool.and_self]
          · split
            · refine draw_ok hΔ w4 (by omega) (by decide) fun S6 v s6 w6 hv0 hv1 => ?_
              try walk_at "nf"
              rw [add_tup (by simp; unfold line; omega)]
              try walk_at "nf"
              refine h S6 (p, .worth (1, 1) v) (s4.trans s6) (w6.more (by omega)) ?_
              unfold okDeed okAct
              simp only [hk, h11, hlt, okWorth_of hv0 hv1, Bool.and_self]
            · rw [add_tup (by simp; unfold line; omega)]
              try walk_at "nf"
              refine h _ (p, .drop (1, 1)) s4 (w4.more (by omega)) ?_
              unfold okDeed okAct
              simp only [hk, h11, hlt, Bool.and_self]
        · have hlt0 : ltK (1, 1) p = false := by
            cases e : ltK (1, 1) p with
            | false => rfl
            | true => exact (hlt e).elim
          have hlt' : (!ltK (1, 1) p) = true := by rw [hlt0]; rfl
          simp only [hlt', hlt0, Bool.true_eq_false, Bool.false_eq_true, if_false, if_true]
          refine name_ok hΔ w4 (by omega) fun S6 z s6 w6 hz => ?_
          try walk_at "nf"
          rw [add_tup (by simp; unfold line; omega)]
          try walk_at "nf"
          exact hnew (s4.trans s6) w6 (by omega) z 0 hz (by decide)
      · have e : decide (V0.lst (((ks.filter fun q => ltK q p).map pairD).map (d0 7)) ≠ V0.lst (([] : List D).map (d0 7))) = true := by
          refine decide_eq_true fun z => hf ?_
          simp only [V0.lst.injEq, List.map_nil, List.map_eq_nil_iff] at z
          exact z
        rw [e]
        try walk_at "nf"
        refine pick_ok hΔ w4 (by omega) hl4 (by have := w3.lt; omega) (by simpa using hf) fun S5 x s5 w5 hx => ?_
        obtain ⟨q, hq, rfl⟩ := List.mem_map.mp hx
        have hqk := hks q (List.mem_filter.mp hq).1
        have s45 := s4.trans s5
        try walk_at "nf"
        rw [show cmpM .ge (pairD q) (.tup [.int p.1, .int p.2]) = ret (.bl (!ltK q p)) from ge_keys q p]
        try walk_at "nf"
        by_cases hlt : ltK q p = true
        · have hlt' : (!ltK q p) = false := by rw [hlt]; rfl
          simp only [hlt', hlt, Bool.true_eq_false, Bool.false_eq_true, if_false, if_true]
          split
          · refine name_ok hΔ w5 (by omega) fun S6 z s6 w6 hz => ?_
            try walk_at "nf"
            rw [add_tup (by simp; unfold line; omega)]
            try walk_at "nf"
            refine h S6 (p, .name q z) (s45.trans s6) (w6.more (by omega)) ?_
            unfold okDeed okAct
            simp only [hk, hqk, hlt, hz, Bool.and_self]
          · split
            · refine draw_ok hΔ w5 (by omega) (by decide) fun S6 v s6 w6 hv0 hv1 => ?_
              try walk_at "nf"
              rw [add_tup (by simp; unfold line; omega)]
              try walk_at "nf"
              refine h S6 (p, .worth q v) (s45.trans s6) (w6.more (by omega)) ?_
              unfold okDeed okAct
              simp only [hk, hqk, hlt, okWorth_of hv0 hv1, Bool.and_self]
            · rw [add_tup (by simp; unfold line; omega)]
              try walk_at "nf"
              refine h _ (p, .drop q) s45 (w5.more (by omega)) ?_
              unfold okDeed okAct
              simp only [hk, hqk, hlt, Bool.and_self]
        · have hlt0 : ltK q p = false := by
            cases e : ltK q p with
            | false => rfl
            | true => exact (hlt e).elim
          have hlt' : (!ltK q p) = true := by rw [hlt0]; rfl
          simp only [hlt', hlt0, Bool.true_eq_false, Bool.false_eq_true, if_false, if_true]
          refine name_ok hΔ w5 (by omega) fun S6 z s6 w6 hz => ?_
          try walk_at "nf"
          rw [add_tup (by simp; unfold line; omega)]
          try walk_at "nf"
          exact hnew (s45.trans s6) w6 (by omega) z 0 hz (by decide)
end
end NF
end -- NfLd2

section -- NfLd3
set_option linter.all false
set_option autoImplicit false
set_option maxRecDepth 10000
/-! The walk of the drawn deeds. -/
namespace NF
open SrtO
local macro_rules | `(tactic| walk_at "nf") => `(tactic| simp only [↓ws_nil, ↓ws_cons, ↓ws_asg, ↓ws_unp, ↓ws_par, ↓ws_sat, ↓ws_ssub, ↓ws_dsub, ↓ws_exp, ↓ws_ret, ↓ws_retN, ↓ws_pass, ↓ws_cont, ↓ws_ife, ↓ws_raise, ↓ws_for, ↓goS_nx, ↓goS_ct, ↓goS_rt, ↓we_var, ↓we_int, ↓we_str, ↓we_bl, ↓we_non, ↓we_neg, ↓we_glb, ↓we_tup, ↓we_lst, ↓we_dctT, ↓we_dctK, ↓we_bin, ↓we_cmp, ↓we_chain, ↓we_isn, ↓we_andv, ↓we_orv, ↓wand1, ↓wand2, ↓wor1, ↓wor2, ↓we_notv, ↓we_ife, ↓we_idx, ↓we_dix, ↓we_slc, ↓we_rev, ↓we_att, ↓we_call, ↓we_mk, ↓we_meth, ↓we_bi, ↓we_bm, ↓we_lenset, ↓we_sortset, ↓we_sortk, ↓we_sortf, ↓we_sortkeys, ↓we_listkeys, ↓we_isTy, ↓we_isEx, ↓we_lc, ↓wo_none, ↓wo_some, ↓wes_nil, ↓wes_cons, ↓wc_none, ↓wc_some, ↓wb_nm, ↓wt_ex, ↓wt_not, ↓wt_and, ↓wt_or, ↓wt_ife, ↓wtand_nil, ↓wtand_cons, ↓wtor_nil, ↓wtor_cons, ↓wtr_bl, ↓wtr_int, ↓w_turn, ↓w_body, ↓ifB_bl, ↓wp_ret, ↓wp_orS, ↓wp_bnd, List.getElem?_cons_zero, List.getElem?_cons_succ, Option.join_some, List.set_cons_zero, List.set_cons_succ, List.map_cons, List.map_nil, List.cons_append, List.nil_append, List.length_cons, List.length_nil, List.replicate_succ, List.replicate_zero, wipeE, cmp_le, cmp_lt, cmp_gt, cmp_ge, cmp_eqS, cmp_neS, cmp_eqI, cmp_neI, add_int, sub_int, len_tup, list_tup, ↓wk_seqT, ↓wk_seqS, ↓lv_lst, ↓lv_fix, isN, idx_t0, idx_t1, idx_t2, idx_t3, idx_t4, slc_t2, intO_2, Nat.reduceSub, Nat.reduceAdd, Bool.false_eq_true, if_true, if_false, Bool.not_true, Bool.not_false, Wk.items, decide_eq_true_eq, Bool.not_eq_true', decide_eq_false_iff_not, List.cons.injEq, Nat.reduceEqDiff, reduceCtorEq, and_false, false_and, and_true, true_and, decide_true, decide_false, not_true_eq_false, not_false_eq_true, Int.cast_ofNat_Int, Int.reduceLT, Int.reduceLE, Int.reduceEq, Int.reduceNe, Option.isSome_some, Option.isSome_none, sNew, sName, sWorth, sDrop, ne_eq, ↓wb_t2, ↓wb_t3, ↓wb_t4])
section
variable {Δ : String → Option Fn} {k n m sc t c : Nat} {ns : List Int} {S : Store} {Q : D → Store → Prop} {X : Ex → Store → Prop}
/-- a deed put into a dict of deeds by their keys -/
def putL (L : List Deed) (d : Deed) : List Deed := if d.1 ∈ L.map (·.1) then L.map fun e => if e.1 = d.1 then d else e else L ++ [d]
def kvL (L : List Deed) : List (Key × D) := L.map fun d => (d.1, dD d)
theorem kvL_keys (L : List Deed) : (kvL L).map (·.1) = L.map (·.1) := by
  unfold kvL
  rw [List.map_map]
  rfl
theorem putL_kv (L : List Deed) (d : Deed) : kvPut (kvL L) d.1 (dD d) = kvL (putL L d) := by
  unfold putL
  split
  · rename_i h
    unfold kvPut
    rw [if_pos]
    · unfold kvL
      rw [List.map_map, List.map_map]
      apply List.map_congr_left
      intro e _
      show (if e.1 = d.1 then (e.1, dD d) else (e.1, dD e)) = ((if e.1 = d.1 then d else e).1, dD (if e.1 = d.1 then d else e))
      split
      · rename_i z
        rw [z]
      · rfl
    · obtain ⟨e, he, z⟩ := List.mem_map.mp h
      exact List.any_eq_true.mpr ⟨(e.1, dD e), List.mem_map.mpr ⟨e, he, rfl⟩, decide_eq_true z⟩
  · rename_i h
    rw [kvPut_new (by rw [kvL_keys]; exact h)]
    unfold kvL
    rw [List.map_append]
    rfl
theorem putL_keys (L : List Deed) (d : Deed) (h : (L.map (·.1)).Nodup) : ((putL L d).map (·.1)).Nodup := by
  rw [← kvL_keys, ← putL_kv]
  exact kvPut_nodup (by rw [kvL_keys]; exact h)
theorem putL_len (L : List Deed) (d : Deed) : (putL L d).length ≤ L.length + 1 := by
  unfold putL
  split <;> simp
theorem putL_mem {L : List Deed} {d e : Deed} (h : e ∈ putL L d) : e = d ∨ e ∈ L := by
  unfold putL at h
  split at h
  · obtain ⟨f, hf, z⟩ := List.mem_map.mp h
    split at z
    · exact .inl z.symm
    · exact .inr (z ▸ hf)
  · rcases List.mem_append.mp h with z | z
    · exact .inr z
    · exact .inl (List.mem_singleton.mp z)
theorem kvL_get {L : List Deed} (hn : (L.map (·.1)).Nodup) {d : Deed} (hd : d ∈ L) : kvGet (kvL L) d.1 = some (dD d) := kvGet_of_mem (by rw [kvL_keys]; exact hn) (List.mem_map.mpr ⟨d, hd, rfl⟩)
theorem wk_seqLd {Q : Wk → Store → Prop} {ds : List D} (h : S[n]? = some (.lst ds)) : wp (wkOf .seq [.ref n]) S Q X = Q (.lst n ds) S := wk_seqL (.inl h)
theorem idx_kind (d : Deed) {Q : D → Store → Prop} (hq : ∀ x, d.2.at = none → x = sNew → Q (.str x) S) (hq2 : ∀ x, d.2.at ≠ none → x ≠ sNew → Q (.str x) S) : wp (idxM (dD d) (.int 2)) S Q X := by
  obtain ⟨p, a⟩ := d
  cases a with
  | new x w => rw [dD_new, idx_t2, wp_ret]; exact hq _ rfl rfl
  | name u x => rw [dD_name, idx_t2, wp_ret]; exact hq2 _ (by simp [Act.at]) (by decide)
  | worth u w => rw [dD_worth, idx_t2, wp_ret]; exact hq2 _ (by simp [Act.at]) (by decide)
  | drop u => rw [dD_drop, idx_t2, wp_ret]; exact hq2 _ (by simp [Act.at]) (by decide)
theorem deeds_ok (hΔ : HDraw Δ) (w : Drw S sc t ns c) (hc : c < 10000) {cnt : Nat} (hcn : cnt < 60) {mo : Int} (hm0 : 0 < mo) (hm1 : mo ≤ 999)
    (h : ∀ S' m (L : List Deed), Sub [t] S S' → Drw S' sc t ns (c + 1500) → S.length ≤ m → S'[m]? = some (.lst (L.map dD)) → (∀ d ∈ L, okDeed d = true) → (L.map (·.1)).Nodup → L.length ≤ cnt → Q (.ref m) S') : wp (callF Δ (k + 7) "_law_deeds" [.ref sc, .ref t, .int cnt, .int mo]) S Q X := by
  rw [wp_call hΔ.deeds rfl]
  unfold TR.fn__law_deeds
  walk_at "nf"
  refine draw_ok hΔ w.app (by omega) hm0 fun S1 a s1 w1 ha0 ha1 => ?_
  try walk_at "nf"
  refine draw_ok hΔ w1 (by omega) (by decide) fun S2 b s2 w2 hb0 hb1 => ?_
  try walk_at "nf"
  have hk := okKey_of ha0 (by omega) hb0 hb1
  have hm1d : (S ++ [O.dct []])[S.length]? = some (.dct []) := get_new _ _
  have htS := w.lt
  have hne : S.length ∉ [t] := by simp; omega
  have hd2 : S2[S.length]? = some (.dct []) := s2.get (s1.get hm1d hne) hne
  have s02 : Sub [t] S S2 := (Sub.app _ _).trans (s1.trans s2)
  have hl02 : S.length < S2.length := get_lt hd2
  refine draw_ok hΔ w2.app (by omega) (by omega) fun S3 j s3 w3 hj0 hj1 => ?_
  rw [wk_rng1 (small_of (by omega) (by omega))]
  try walk_at "nf"
  have hr3 : S3[S2.length]? = some (.lst [.tup [.int (1 + a), .int (1 + b)]]) := s3.get (get_new _ _) (by simp; omega)
  have hd3 : S3[S.length]? = some (.dct []) := s3.get ((Sub.app (W := []) _ _).get0 hd2) hne
  have s03 : Sub [t] S S3 := s02.trans ((Sub.app _ _).trans s3)
  refine wpS_forM (List.range j.toNat) (fun done ρ S' => ∃ (L : List Deed) (ks : List Key) (d0 d1 : Option D), ρ = [some (.ref sc), some (.ref t), some (.int cnt), some (.int mo), some (.ref S.length), some (.ref S2.length), d0, d1, none] ∧ Sub [t] S S' ∧ Drw S' sc t ns (c + 3 + 20 * done.length) ∧ S'[S.length]? = some (.dct (kvL L)) ∧ S'[S2.length]? = some (.lst (ks.map pairD)) ∧ (∀ d ∈ L, okDeed d = true) ∧ (L.map (·.1)).Nodup ∧ L.length ≤ done.length ∧ (∀ q ∈ ks, okKey q = true) ∧ ks.length ≤ 1 + done.length) ?_ (fun _ _ _ _ => trivial) ?_ ?_
  · exact ⟨[], [(1 + a, 1 + b)], none, none, rfl, s03, w3, hd3, hr3, fun d hd => (by cases hd), List.nodup_nil, Nat.le_refl _, fun q hq => by rw [List.mem_singleton.mp hq]; exact hk, Nat.le_refl _⟩
  · rintro done i rest ρ S' e ⟨L, ks, d0, d1, rfl, s', w', hd, hr, hok, hnd, hL, hks, hkl⟩
    have hlen : done.length < 60 := by
      have h1 := congrArg List.length e
      rw [List.length_range, List.length_append, List.length_cons] at h1
      omega
    walk_at "nf"
    refine deed_ok hΔ w' (by omega) (.inl hr) (by omega) hks (by omega) hm0 hm1 fun S4 d s4 w4 hdok => ?_
    have hd4 := s4.get hd hne
    have hr4 := s4.get hr (by simp; omega)
    try walk_at "nf"
    rw [slc_dD]
    try walk_at "nf"
    have hLl : (kvL L).length < line := by unfold kvL; rw [List.length_map]; unfold line; omega
    rw [wp_dsubK hd4 hLl, putL_kv]
    try walk_at "nf"
    have hset : (S4.set S.length (.dct (kvL (putL L d))))[S.length]? = some (.dct (kvL (putL L d))) := get_set (get_lt hd4) _
    have hr5 : (S4.set S.length (.dct (kvL (putL L d))))[S2.length]? = some (.lst (ks.map pairD)) := by
      rw [List.getElem?_set_ne (by omega)]
      exact hr4
    have s5 : Sub [t] S (S4.set S.length (.dct (kvL (putL L d)))) := (s'.trans s4).putNew (Nat.le_refl _) _
    have w5 : Drw (S4.set S.length (.dct (kvL (putL L d)))) sc t ns (c + 3 + 20 * done.length + 20) := by
      obtain ⟨ds, h1, h2⟩ := w4.twn
      have hsc : sc < S.length := w.scr.lt
      refine ⟨?_, ⟨ds, ?_, h2⟩, w4.ne⟩
      · rcases w4.scr with z | z
        · exact .inl (by rw [List.getElem?_set_ne (by omega)]; exact z)
        · exact .inr (by rw [List.getElem?_set_ne (by omega)]; exact z)
      · rw [List.getElem?_set_ne (by omega)]
        exact h1
    have hok' : ∀ e ∈ putL L d, okDeed e = true := fun e he => by
      rcases putL_mem he with z | z
      · rw [z]; exact hdok
      · exact hok e z
    have hlL : (putL L d).length ≤ done.length + 1 := by
      have := putL_len L d
      omega
    refine idx_kind d (fun x _ hx => ?_) (fun x _ hx => ?_)
    · subst hx
      try walk_at "nf"
      rw [bmTy_lst rfl (.inl hr5)]
      try walk_at "nf"
      rw [wp_append hr5 (by rw [List.length_map]; unfold line; omega)]
      refine ⟨putL L d, ks ++ [d.1], some (.int (0 + i)), some (dD d), ⟨rfl, rfl⟩, s5.putNew (by omega) _, ?_, ?_, ?_, hok', putL_keys L d hnd, by simpa using hlL, fun q hq => ?_, by simp; omega⟩
      · obtain ⟨ds, h1, h2⟩ := w5.twn
        have hsc : sc < S.length := w.scr.lt
        refine ⟨?_, ⟨ds, ?_, by simp; omega⟩, w5.ne⟩
        · rcases w5.scr with z | z
          · exact .inl (by rw [List.getElem?_set_ne (by omega)]; exact z)
          · exact .inr (by rw [List.getElem?_set_ne (by omega)]; exact z)
        · rw [List.getElem?_set_ne (by omega)]
          exact h1
      · rw [List.getElem?_set_ne (by omega)]
        exact hset
      · rw [get_set (get_lt hr5), List.map_append]
        rfl
      · rcases List.mem_append.mp hq with z | z
        · exact hks q z
        · rw [List.mem_singleton.mp z]
          unfold okDeed at hdok
          rw [Bool.and_eq_true] at hdok
          exact hdok.1
    · try walk_at "nf"
      rw [if_neg (show ¬ x = [110, 101, 119] from hx)]
      exact ⟨putL L d, ks, some (.int (0 + i)), some (dD d), ⟨rfl, rfl⟩, s5, by rw [List.length_append]; exact w5.more (by simp; omega), hset, hr5, hok', putL_keys L d hnd, by simpa using hlL, hks, by simp; omega⟩
  · rintro ρ S4 ⟨L, ks, d0, d1, rfl, s4, w4, hd, hr, hok, hnd, hL, hks, hkl⟩
    rw [List.length_range] at hL hkl w4
    have hL60 : L.length ≤ cnt := by omega
    walk_at "nf"
    rw [wp_lkM hd]
    try walk_at "nf"
    rw [wk_seqL (.inl (get_new _ _))]
    try walk_at "nf"
    have e1 : ((kvL L).map fun kv => pairD kv.1) = L.map fun d => pairD d.1 := by
      unfold kvL
      rw [List.map_map]
      rfl
    rw [e1]
    refine wp_gather0 L (fun d => some (dD d)) (.inl (get_new _ _)) (fun d hdm => ?_) ?_
    · walk_at "nf"
      rw [wp_dixP ((Sub.app (W := []) _ _).get0 hd), kvL_get hnd hdm]
      exact ⟨rfl, rfl⟩
    · rw [fm_some, if_pos (by rw [List.length_map]; unfold line; omega)]
      refine h _ _ L (s4.trans ((Sub.app _ _).trans (Sub.app _ _))) (w4.app.app.more (by omega)) ?_ (get_new _ _) hok hnd hL60
      have := s4.1
      simp
      omega
end
end NF
end -- NfLd3

section -- NfPl3
set_option linter.all false
set_option autoImplicit false
set_option maxRecDepth 10000
/-! The rows as a law tells them; the same rows. -/
namespace NF
open SrtO
/-- whose row a deed tells of -/
def owner (d : Deed) : Key := (d.2.at).getD d.1
/-- the acts at a row, in order -/
def atRow (P : List Deed) (p : Key) : List Deed := P.filter fun d => decide (d.2.at = some p)
theorem step_at (r : RowSt) (P : List Deed) : P.foldl step r = (atRow P r.key).foldl upd r := by
  unfold atRow
  have : ∀ (P : List Deed) (r : RowSt) (p : Key), r.key = p → P.foldl step r = (P.filter fun d => decide (d.2.at = some p)).foldl upd r := by
    intro P
    induction P with
    | nil => intro r p h; rfl
    | cons d P ih =>
      intro r p h
      rw [List.foldl_cons, List.filter_cons]
      unfold step
      rw [h]
      by_cases e : d.2.at = some p
      · rw [if_pos e, if_pos (decide_eq_true e), List.foldl_cons]
        exact ih _ p (by rw [upd_key, h])
      · rw [if_neg e, if_neg (by simpa using e)]
        exact ih r p h
  exact this P r r.key rfl
def nmOf (d : Deed) : Option (Key × List Nat) := match d.2 with
  | .name _ x => some (d.1, x)
  | _ => none
def woOf (d : Deed) : Option Int := match d.2 with
  | .worth _ w => some w
  | _ => none
def isDrop (d : Deed) : Bool := match d.2 with
  | .drop _ => true
  | _ => false
/-- the last name, and since when -/
def runF (c e : Key × List Nat) : Key × List Nat := if c.2 = e.2 then c else e
theorem upd_name : ∀ (M : List Deed) (r : RowSt), ((M.foldl upd r).since, (M.foldl upd r).name) = (M.filterMap nmOf).foldl runF (r.since, r.name)
  | [], r => rfl
  | d :: M, r => by
    rw [List.foldl_cons, upd_name M, List.filterMap_cons]
    obtain ⟨p, a⟩ := d
    cases a with
    | name t x =>
      show _ = List.foldl runF (r.since, r.name) ((p, x) :: M.filterMap nmOf)
      rw [List.foldl_cons]
      congr 1
      unfold upd runF
      dsimp only
      by_cases e : r.name = x
      · rw [if_pos e, if_pos e, e]
      · rw [if_neg e, if_neg e]
    | _ => rfl
theorem upd_worth : ∀ (M : List Deed) (r : RowSt), (M.foldl upd r).worth = (r.worth :: M.filterMap woOf).getLast (by simp)
  | [], r => rfl
  | d :: M, r => by
    rw [List.foldl_cons, upd_worth M]
    obtain ⟨p, a⟩ := d
    cases a with
    | worth t w =>
      have : List.filterMap woOf ((p, Act.worth t w) :: M) = w :: M.filterMap woOf := rfl
      simp only [this]
      rw [List.getLast_cons (List.cons_ne_nil _ _)]
      rfl
    | new x w => rfl
    | name t x => rfl
    | drop t => rfl
theorem upd_gone : ∀ (M : List Deed) (r : RowSt), (M.foldl upd r).gone = (r.gone || M.any isDrop)
  | [], r => by simp
  | d :: M, r => by
    rw [List.foldl_cons, upd_gone M, List.any_cons]
    obtain ⟨p, a⟩ := d
    cases a <;> simp [upd, isDrop]
theorem upd_ky : ∀ (M : List Deed) (r : RowSt), (M.foldl upd r).key = r.key
  | [], r => rfl
  | d :: M, r => by rw [List.foldl_cons, upd_ky M, upd_key]
/-- where the last run begins -/
structure RunAt (N : List (Key × List Nat)) (k : Nat) : Prop where
  lt : k < N.length
  same : ∀ j (h : j < N.length), k ≤ j → N[j].2 = N[k].2
  fst : k = 0 ∨ ∀ (h : k - 1 < N.length), N[k - 1].2 ≠ N[k].2
theorem run_name : ∀ (M : List (Key × List Nat)) (c : Key × List Nat), (M.foldl runF c).2 = ((c :: M).getLast (by simp)).2
  | [], c => rfl
  | e :: M, c => by
    rw [List.foldl_cons, run_name M]
    cases M with
    | nil =>
      show (runF c e).2 = e.2
      unfold runF
      split
      · assumption
      · rfl
    | cons f M => simp
theorem run_at : ∀ (n : Nat) (M : List (Key × List Nat)), M.length = n → ∀ (c : Key × List Nat) (k : Nat) (h : RunAt (c :: M) k), M.foldl runF c = (c :: M)[k]'h.lt := by
  intro n
  induction n with
  | zero =>
    intro M hM c k h
    have : M = [] := List.eq_nil_of_length_eq_zero hM
    subst this
    have hk : k = 0 := by have := h.lt; simp at this; exact this
    subst hk
    rfl
  | succ n ih =>
    intro M hM c k h
    obtain ⟨M', e, rfl⟩ : ∃ M' e, M = M' ++ [e] := by
      have hne : M ≠ [] := by intro z; rw [z] at hM; cases hM
      exact ⟨M.dropLast, M.getLast hne, (List.dropLast_concat_getLast hne).symm⟩
    have hl : M'.length = n := by simp at hM; exact hM
    rw [List.foldl_append]
    show runF (M'.foldl runF c) e = _
    have hlen : (c :: (M' ++ [e])).length = n + 2 := by simp [hl]
    have hlast : (c :: (M' ++ [e]))[n + 1]'(by rw [hlen]; omega) = e := by
      show (M' ++ [e])[n]'(by simp [hl]) = e
      rw [List.getElem_append_right (by omega)]
      simp [hl]
    have hpre : ∀ j (hj : j < (c :: M').length), (c :: (M' ++ [e]))[j]'(by rw [hlen]; simp [hl] at hj; omega) = (c :: M')[j] := by
      intro j hj
      cases j with
      | zero => rfl
      | succ j =>
        show (M' ++ [e])[j]'_ = M'[j]'_
        rw [List.getElem_append_left]
    by_cases hk : k = n + 1
    · subst hk
      rw [hlast]
      have hne : (M'.foldl runF c).2 ≠ e.2 := by
        rw [run_name]
        rcases h.fst with z | z
        · omega
        · have := z (by rw [hlen]; omega)
          rw [hlast] at this
          have h2 : (c :: (M' ++ [e]))[n + 1 - 1]'(by rw [hlen]; omega) = (c :: M')[n]'(by simp [hl]) := hpre n (by simp [hl])
          rw [h2] at this
          have h3 : (c :: M').getLast (by simp) = (c :: M')[n]'(by simp [hl]) := by
            rw [List.getLast_eq_getElem]
            simp only [List.length_cons, hl, Nat.add_sub_cancel]
          rw [h3]
          exact this
      exact if_neg hne
    · have hk' : k < n + 1 := by have := h.lt; rw [hlen] at this; omega
      have hkl : k < (c :: M').length := by simp [hl]; omega
      have hkk : (c :: (M' ++ [e]))[k]'h.lt = (c :: M')[k] := hpre k hkl
      have hR : RunAt (c :: M') k := by
        refine ⟨hkl, fun j hj hkj => ?_, ?_⟩
        · rw [← hpre j hj, ← hkk]
          exact h.same j _ hkj
        · rcases h.fst with z | z
          · exact .inl z
          · refine .inr fun hh => ?_
            rw [← hpre (k - 1) hh, ← hkk]
            exact z _
      rw [ih M' hl c k hR, hkk]
      have he : e.2 = (c :: M')[k].2 := by
        rw [← hkk, ← h.same (n + 1) (by rw [hlen]; omega) (by omega), hlast]
      exact if_pos he.symm
/-- a row as a law tells it -/
def rowT (r : RowSt) : D := .tup [.str r.name, pairD r.since, pairD r.key, .int r.worth]
/-- since when a row has its name: a deed of its own -/
theorem since_own {P : List Deed} : ∀ (M : List Deed) (r : RowSt), (∀ d ∈ M, d ∈ P ∧ owner d = r.key) → (∃ d ∈ P, d.1 = r.since ∧ owner d = r.key) → ∃ d ∈ P, d.1 = (M.foldl upd r).since ∧ owner d = (M.foldl upd r).key
  | [], r, _, h => h
  | d :: M, r, hM, h => by
    rw [List.foldl_cons]
    refine since_own M (upd r d) (fun e he => by rw [upd_key]; exact hM e (List.mem_cons_of_mem _ he)) ?_
    rw [upd_key]
    have hd := hM d List.mem_cons_self
    unfold upd
    cases hx : d.2 with
    | name t x =>
      dsimp only
      split
      · exact h
      · exact ⟨d, hd.1, rfl, hd.2⟩
    | _ => exact h
theorem rows_own {P : List Deed} {r : RowSt} (h : r ∈ rowsM P) : ∃ d ∈ P, d.1 = r.since ∧ owner d = r.key := by
  obtain ⟨q, hq, rfl⟩ := List.mem_map.mp h
  obtain ⟨d, hd, e⟩ := List.mem_filterMap.mp hq
  rw [step_at]
  refine since_own _ q (fun f hf => ?_) ⟨d, hd, ?_, ?_⟩
  · obtain ⟨h1, h2⟩ := List.mem_filter.mp hf
    refine ⟨h1, ?_⟩
    unfold owner
    rw [of_decide_eq_true h2]
    rfl
  · unfold new0 at e
    split at e
    · cases e; rfl
    · cases e
  · unfold new0 at e
    split at e
    · rename_i hx
      cases e
      unfold owner
      rw [hx]
      rfl
    · cases e
theorem rows_inj {P : List Deed} (srt : P.Pairwise fun a b => ltK a.1 b.1 = true) {r q : RowSt} (hr : r ∈ rowsM P) (hq : q ∈ rowsM P) (h : r.key = q.key) : r = q := by
  obtain ⟨a, ha, rfl⟩ := List.mem_map.mp hr
  obtain ⟨b, hb, rfl⟩ := List.mem_map.mp hq
  rw [fold_key, fold_key] at h
  have hn := news_nodup srt
  have key : ∀ {l : List RowSt}, (l.map (·.key)).Nodup → ∀ a ∈ l, ∀ b ∈ l, a.key = b.key → a = b := by
    intro l
    induction l with
    | nil => intro _ a ha; cases ha
    | cons x l ih =>
      intro hl a ha b hb e
      rw [List.map_cons, List.nodup_cons] at hl
      rcases List.mem_cons.mp ha with ea | ea <;> rcases List.mem_cons.mp hb with eb | eb
      · rw [ea, eb]
      · exact (hl.1 (List.mem_map.mpr ⟨b, eb, by rw [← e, ea]⟩)).elim
      · exact (hl.1 (List.mem_map.mpr ⟨a, ea, by rw [e, eb]⟩)).elim
      · exact ih hl.2 a ea b eb e
  rw [key hn a ha b hb h]
theorem since_inj {P : List Deed} (o : IsOrd P P) {r q : RowSt} (hr : r ∈ rowsM P) (hq : q ∈ rowsM P) (h : r.since = q.since) : r = q := by
  obtain ⟨d, hd, d1, d2⟩ := rows_own hr
  obtain ⟨e, he, e1, e2⟩ := rows_own hq
  have : d = e := o.fnl d hd e he (by rw [d1, e1, h])
  subst this
  exact rows_inj o.srt hr hq (by rw [← d2, e2])
theorem ltD_tup_cons (a b : D) (r q : List D) : ltD (.tup (a :: r)) (.tup (b :: q)) = (ltD a b || (decide (cmpD a b = .eq) && ltD (.tup r) (.tup q))) := by
  unfold ltD
  simp only [cmpD, cmpDs]
  cases h : cmpD a b <;> simp
theorem ltD_rowT {a b : RowSt} (h : a.since ≠ b.since) : ltD (rowT a) (rowT b) = ltD (nameSince a) (nameSince b) := by
  unfold rowT nameSince
  rw [ltD_tup_cons, ltD_tup_cons (.str a.name) (.str b.name) [pairD a.since], ltD_tup_cons (pairD a.since), ltD_tup_cons (pairD a.since)]
  have e : decide (cmpD (pairD a.since) (pairD b.since) = .eq) = false := by
    refine decide_eq_false fun z => h ?_
    exact pairD_inj (cmpD_eq.mp z)
  rw [e]
  simp
theorem there_srt (P : List Deed) : Srtd (fun a b => ltD (nameSince a) (nameSince b)) (thereM P) := sort_sorted (swo_map swo_ltD nameSince) _
/-- the law's sorted rows are the program's -/
theorem there_eq {P : List Deed} (o : IsOrd P P) {X : List RowSt} (p : X.Perm ((rowsM P).filter fun r => !r.gone)) : sortBy ltD (X.map rowT) = (thereM P).map rowT := by
  have p2 : (X.map rowT).Perm ((thereM P).map rowT) := (p.trans (sort_perm _).symm).map rowT
  rw [sort_same p2]
  refine sort_id swo_ltD ?_
  unfold Srtd
  rw [List.pairwise_map]
  refine (there_srt P).imp_of_mem fun {a b} ha hb h => ?_
  by_cases e : a.since = b.since
  · rw [since_inj o (there_mem.mp ha).1 (there_mem.mp hb).1 e]
    exact swo_ltD.refl _
  · rw [ltD_rowT (Ne.symm e)]
    exact h
end NF
end -- NfPl3

section -- NfLt
set_option linter.all false
set_option autoImplicit false
set_option maxRecDepth 10000
/-! The walk of the rows as a law tells them. -/
namespace NF
open SrtO
local macro_rules | `(tactic| walk_at "nf") => `(tactic| simp only [↓ws_nil, ↓ws_cons, ↓ws_asg, ↓ws_unp, ↓ws_par, ↓ws_sat, ↓ws_ssub, ↓ws_dsub, ↓ws_exp, ↓ws_ret, ↓ws_retN, ↓ws_pass, ↓ws_cont, ↓ws_ife, ↓ws_raise, ↓ws_for, ↓goS_nx, ↓goS_ct, ↓goS_rt, ↓we_var, ↓we_int, ↓we_str, ↓we_bl, ↓we_non, ↓we_neg, ↓we_glb, ↓we_tup, ↓we_lst, ↓we_dctT, ↓we_dctK, ↓we_bin, ↓we_cmp, ↓we_chain, ↓we_isn, ↓we_andv, ↓we_orv, ↓wand1, ↓wand2, ↓wor1, ↓wor2, ↓we_notv, ↓we_ife, ↓we_idx, ↓we_dix, ↓we_slc, ↓we_rev, ↓we_att, ↓we_call, ↓we_mk, ↓we_meth, ↓we_bi, ↓we_bm, ↓we_lenset, ↓we_sortset, ↓we_sortk, ↓we_sortf, ↓we_sortkeys, ↓we_listkeys, ↓we_isTy, ↓we_isEx, ↓we_lc, ↓wo_none, ↓wo_some, ↓wes_nil, ↓wes_cons, ↓wc_none, ↓wc_some, ↓wb_nm, ↓wt_ex, ↓wt_not, ↓wt_and, ↓wt_or, ↓wt_ife, ↓wtand_nil, ↓wtand_cons, ↓wtor_nil, ↓wtor_cons, ↓wtr_bl, ↓wtr_int, ↓w_turn, ↓w_body, ↓ifB_bl, ↓wp_ret, ↓wp_orS, ↓wp_bnd, List.getElem?_cons_zero, List.getElem?_cons_succ, Option.join_some, List.set_cons_zero, List.set_cons_succ, List.map_cons, List.map_nil, List.cons_append, List.nil_append, List.length_cons, List.length_nil, List.replicate_succ, List.replicate_zero, wipeE, cmp_le, cmp_lt, cmp_gt, cmp_ge, cmp_eqS, cmp_neS, cmp_eqI, cmp_neI, add_int, sub_int, len_tup, list_tup, ↓wk_seqT, ↓wk_seqS, ↓lv_lst, ↓lv_fix, isN, idx_t0, idx_t1, idx_t2, idx_t3, idx_t4, slc_t2, intO_2, Nat.reduceSub, Nat.reduceAdd, Bool.false_eq_true, if_true, if_false, Bool.not_true, Bool.not_false, Wk.items, decide_eq_true_eq, Bool.not_eq_true', decide_eq_false_iff_not, List.cons.injEq, Nat.reduceEqDiff, reduceCtorEq, and_false, false_and, and_true, true_and, decide_true, decide_false, not_true_eq_false, not_false_eq_true, Int.cast_ofNat_Int, Int.reduceLT, Int.reduceLE, Int.reduceEq, Int.reduceNe, Option.isSome_some, Option.isSome_none, sNew, sName, sWorth, sDrop, ne_eq, ↓wb_t2, ↓wb_t3, ↓wb_t4])
section
variable {Δ : String → Option Fn} {k n m : Nat} {S : Store} {Q : D → Store → Prop} {X : Ex → Store → Prop}
/-- the row that a deed began, if it is there -/
def rowOf (P : List Deed) (d : Deed) : Option RowSt := match new0 d with
  | none => none
  | some r => if (P.foldl step r).gone then none else some (P.foldl step r)
theorem rowOf_all (P : List Deed) : ∀ xs : List Deed, xs.filterMap (rowOf P) = ((xs.filterMap new0).map fun r => P.foldl step r).filter fun r => !r.gone
  | [] => rfl
  | d :: xs => by
    rw [List.filterMap_cons, List.filterMap_cons, rowOf_all P xs]
    unfold rowOf
    cases new0 d with
    | none => rfl
    | some r =>
      dsimp only
      rw [List.map_cons, List.filter_cons]
      cases (P.foldl step r).gone <;> rfl
theorem ord_perm {P L : List Deed} (o : IsOrd P L) (hn : (L.map (·.1)).Nodup) : L.Perm P := by
  have h1 : L.Nodup := (List.pairwise_map.mp hn).imp fun h z => h (by rw [z])
  have h2 : P.Nodup := o.srt.imp fun {a b} h z => by rw [z, ltK_irr] at h; cases h
  exact (List.perm_ext_iff_of_nodup h1 h2).mpr fun d => (o.mem d).symm
theorem cmpbs_refl : ∀ ds : List D, cmpbs ds ds = true
  | [] => rfl
  | d :: ds => by
    rw [cmpbs, if_pos (cmpD_eq.mpr rfl)]
    exact cmpbs_refl ds
theorem allCmp_deeds {L : List Deed} (f : Fnl L) : allCmp (L.map dD) = true := by
  refine allCmp_of (fun d _ => pure_dD d) (fun _ _ => rfl) fun a ha b hb => ?_
  unfold dD
  refine cmpb_ints _ _ _ _ fun e => ?_
  rw [f a ha b hb e]
  exact cmpbs_refl _
theorem srt_deeds {P : List Deed} (h : P.Pairwise fun a b => ltK a.1 b.1 = true) : sortBy ltD (P.map dD) = P.map dD := by
  refine sort_id swo_ltD ?_
  unfold Srtd
  rw [List.pairwise_map]
  refine h.imp fun {a b} e => ?_
  have hne : b.1 ≠ a.1 := fun z => by rw [z, ltK_irr] at e; cases e
  rw [ltD_dD hne]
  cases z : ltK b.1 a.1 with
  | false => rfl
  | true => exact (ltK_asym e z).elim
/-- deeds however laid: sorted, those of P -/
theorem sort_deeds {P L : List Deed} (o : IsOrd P L) (hn : (L.map (·.1)).Nodup) (p : Deed → Bool) : sortBy ltD ((L.filter p).map dD) = (P.filter p).map dD := by
  rw [sort_same (((ord_perm o hn).filter p).map dD), srt_deeds (o.srt.filter p)]
theorem cmp_eqK (a b : Key) : wp (cmpM .eq (pairD a) (pairD b)) S Q X = Q (.bl (decide (a = b))) S := by
  rw [cmp_eqP (pure_pairD a) (pure_pairD b), wp_ret]
  congr 2
  exact decide_eq_decide.mpr ⟨pairD_inj, fun h => by rw [h]⟩
def nD (e : Key × List Nat) : D := .tup [pairD e.1, .str e.2]
theorem pure7_dD (d : Deed) : pureN 7 (dD d) = true := by
  obtain ⟨p, a⟩ := d
  cases a <;> rfl
theorem fm_opt {A B C : Type} (f : A → Option B) (g : B → C) (xs : List A) : (xs.filterMap fun x => (f x).map g) = (xs.filterMap f).map g := by
  rw [List.map_filterMap]
theorem idxN {n j : Nat} {N : List (Key × List Nat)} (h : S[n]? = some (.lst (N.map nD))) (hj : j < N.length) : wp (idxM (.ref n) (.int (j : Int))) S Q X = Q (.tup [pairD N[j].1, .str N[j].2]) S := by
  rw [wp_idxL (.inl h), ix_nat (by rw [List.length_map]; exact hj)]
  show wp (orBad ((N.map nD)[j]?)) S Q X = _
  rw [List.getElem?_map, List.getElem?_eq_getElem hj]
  exact wp_orS
theorem law_there_ok (ht : Δ "_law_there" = some TR.fn__law_there) {P L : List Deed} (o : IsOrd P L) (hn : (L.map (·.1)).Nodup) (hl : LstAt S n (L.map dD)) (sz : L.length < 64)
    (h : ∀ S' m, Sub [] S S' → S.length ≤ m → S'[m]? = some (.lst ((thereM P).map rowT)) → Q (.ref m) S') : wp (callF Δ (k + 1) "_law_there" [.ref n]) S Q X := by
  have hPl : P.length < 64 := by rw [← (ord_perm o hn).length_eq]; exact sz
  rw [wp_call ht rfl]
  unfold TR.fn__law_there
  walk_at "nf"
  have hl1 := hl.sub (Sub.app (W := []) S [.lst []]) (by simp)
  rw [wk_seqL hl1]
  try walk_at "nf"
  refine wpS_forM L (fun done ρ S' => ∃ d2 d3 d4 d5 d6, ρ = [some (.ref n), some (.ref S.length), d2, d3, d4, d5, d6, none] ∧ Sub [] S S' ∧ S'[S.length]? = some (.lst ((done.filterMap (rowOf P)).map rowT))) ?_ ?_ ?_ ?_
  · exact ⟨none, none, none, none, none, rfl, Sub.app _ _, get_new _ _⟩
  · rintro done ρ S' ⟨d2, d3, d4, d5, d6, rfl, s, _⟩
    exact hl.sub s (by simp)
  · rintro done d rest ρ S1 e ⟨d2, d3, d4, d5, d6, rfl, s1, hf⟩
    have hll := hl.sub s1 (by simp)
    walk_at "nf"
    rw [wk_seqL hll]
    try walk_at "nf"
    refine wp_gather0 L (fun e => if decide (e.2.at = some d.1) then some (dD e) else none) hll (fun e he => ?_) ?_
    · obtain ⟨q, a⟩ := e
      have hq : ∀ (u : Key) (v : D), wp (cmpM .eq (pairD u) (pairD d.1)) S1 (fun x S2 => wp (truthM x) S2 (fun b S3 => if b = true then some v = (if (some u : Option Key) = some d.1 then some v else none) ∧ S3 = S1 else none = (if (some u : Option Key) = some d.1 then some v else none) ∧ S3 = S1) noX) noX := by
        intro u v
        rw [cmp_eqK, wtr_bl]
        by_cases z : u = d.1
        · simp [z]
        · simp [z]
      cases a with
      | new x w =>
        rw [dD_new]
        walk_at "nf"
        simp [Act.at]
      | name u x =>
        rw [dD_name]
        walk_at "nf"
        rw [slc_dD]
        try walk_at "nf"
        exact hq u _
      | worth u w =>
        rw [dD_worth]
        walk_at "nf"
        rw [slc_dD]
        try walk_at "nf"
        exact hq u _
      | drop u =>
        rw [dD_drop]
        walk_at "nf"
        rw [slc_dD]
        try walk_at "nf"
        exact hq u _
    · rw [fm_filter]
      have hfl := List.length_filter_le (fun e : Deed => decide (e.2.at = some d.1)) L
      rw [if_pos (by rw [List.length_map]; unfold line; omega)]
      try walk_at "nf"
      have hfn : Fnl (L.filter fun e => decide (e.2.at = some d.1)) := fun a ha b hb => o.fnl a (List.mem_filter.mp ha).1 b (List.mem_filter.mp hb).1
      rw [wp_sorted (.inl (get_new _ _)) (allCmp_deeds hfn), sort_deeds o hn]
      have s2 : Sub [] S (S1 ++ [O.lst ((L.filter fun e => decide (e.2.at = some d.1)).map dD)] ++ [O.lst ((P.filter fun e => decide (e.2.at = some d.1)).map dD)]) := s1.trans ((Sub.app _ _).trans (Sub.app _ _))
      have hM : (S1 ++ [O.lst ((L.filter fun e => decide (e.2.at = some d.1)).map dD)] ++ [O.lst ((P.filter fun e => decide (e.2.at = some d.1)).map dD)])[(S1 ++ [O.lst ((L.filter fun e => decide (e.2.at = some d.1)).map dD)]).length]? = some (.lst ((atRow P d.1).map dD)) := get_new _ _
      have hf2 := (Sub.app (W := []) (S1 ++ [O.lst ((L.filter fun e => decide (e.2.at = some d.1)).map dD)]) [O.lst ((P.filter fun e => decide (e.2.at = some d.1)).map dD)]).get0 ((Sub.app (W := []) S1 [O.lst ((L.filter fun e => decide (e.2.at = some d.1)).map dD)]).get0 hf)
      generalize (S1 ++ [O.lst ((L.filter fun e => decide (e.2.at = some d.1)).map dD)] ++ [O.lst ((P.filter fun e => decide (e.2.at = some d.1)).map dD)]) = S2 at s2 hM hf2
      generalize (S1 ++ [O.lst ((L.filter fun e => decide (e.2.at = some d.1)).map dD)]).length = mi at hM
      obtain ⟨p, a⟩ := d
      cases a with
      | new x w =>
        rw [dD_new]
        try walk_at "nf"
        -- NEWCASE
        have hMl : (atRow P p).length < 64 := Nat.lt_of_le_of_lt (List.length_filter_le _ _) hPl
        have hrow : P.foldl step ⟨p, x, p, w, false⟩ = (atRow P p).foldl upd ⟨p, x, p, w, false⟩ := step_at _ _
        have hro : rowOf P (p, Act.new x w) = if (atRow P p).any isDrop then none else some ((atRow P p).foldl upd ⟨p, x, p, w, false⟩) := by
          show (if (P.foldl step ⟨p, x, p, w, false⟩).gone = true then none else some (P.foldl step ⟨p, x, p, w, false⟩)) = _
          rw [hrow, upd_gone]
          rfl
        have hMat : ∀ e ∈ atRow P p, e.2.at = some p := fun e he => of_decide_eq_true (List.mem_filter.mp he).2
        have hM0 : S2[mi]? = some (.lst ((atRow P p).map dD)) := hM
        clear hM
        generalize atRow P p = M at hM0 hro hMl hMat
        rw [wk_seqL (.inl hM0)]
        try walk_at "nf"
        refine wp_gather0 M (fun e => if isDrop e then some (dD e) else none) (.inl hM0) (fun e he => ?_) ?_
        · obtain ⟨q, a⟩ := e
          cases a with
          | new y v => rw [dD_new]; walk_at "nf"; rfl
          | name u y => rw [dD_name]; walk_at "nf"; rfl
          | worth u v => rw [dD_worth]; walk_at "nf"; rfl
          | drop u => rw [dD_drop]; walk_at "nf"; rfl
        · rw [fm_filter]
          have hdl := List.length_filter_le isDrop M
          rw [if_pos (by rw [List.length_map]; unfold line; omega)]
          have t1 : tv (S2 ++ [O.lst ((M.filter isDrop).map dD)] ++ [O.lst []]) 8 (.ref S2.length) = some (.lst (((M.filter isDrop).map dD).map (d0 7))) := tv_lst (.inl ((Sub.app (W := []) _ _).get0 (get_new _ _))) (by rw [List.all_map, List.all_eq_true]; intro e _; exact pure7_dD e)
          have t2 : tv (S2 ++ [O.lst ((M.filter isDrop).map dD)] ++ [O.lst []]) 8 (.ref (S2 ++ [O.lst ((M.filter isDrop).map dD)]).length) = some (.lst (([] : List D).map (d0 7))) := tv_lst (.inl (get_new _ _)) rfl
          rw [wp_neV t1 t2]
          have s3 : Sub [] S (S2 ++ [O.lst ((M.filter isDrop).map dD)] ++ [O.lst []]) := s2.trans ((Sub.app _ _).trans (Sub.app _ _))
          have sx : Sub [] S2 (S2 ++ [O.lst ((M.filter isDrop).map dD)] ++ [O.lst []]) := (Sub.app _ _).trans (Sub.app _ _)
          have hf3 := sx.get0 hf2
          have hM3 := sx.get0 hM0
          by_cases hdr : (M.filter isDrop) = []
          · have e0 : decide (V0.lst (((M.filter isDrop).map dD).map (d0 7)) ≠ V0.lst (([] : List D).map (d0 7))) = false := by
              rw [hdr]
              simp
            rw [e0]
            clear t1 t2 e0
            have hany : M.any isDrop = false := by
              rw [List.any_eq_false]
              intro e he z
              have : e ∈ M.filter isDrop := List.mem_filter.mpr ⟨he, z⟩
              rw [hdr] at this
              cases this
            rw [hany] at hro
            generalize (S2 ++ [O.lst ((M.filter isDrop).map dD)] ++ [O.lst []]) = S3 at s3 hf3 hM3
            try walk_at "nf"
            rw [wk_seqL (.inl ((Sub.app (W := []) _ _).get0 hM3))]
            try walk_at "nf"
            refine wp_gather0 M (fun e => (nmOf e).map nD) (.inl ((Sub.app (W := []) _ _).get0 hM3)) (fun e he => ?_) ?_
            · obtain ⟨q, a⟩ := e
              cases a with
              | new y v => exact (by cases hMat _ he)
              | name u y => rw [dD_name]; walk_at "nf"; rfl
              | worth u v => rw [dD_worth]; walk_at "nf"; rfl
              | drop u => rw [dD_drop]; walk_at "nf"; rfl
            · rw [fm_opt]
              have hnl := List.length_filterMap_le nmOf M
              rw [if_pos (by rw [List.length_map]; unfold line; omega)]
              try walk_at "nf"
              have g1 : (S3 ++ [O.lst [D.tup [D.tup [D.int p.fst, D.int p.snd], D.str x]]] ++ [O.lst ((M.filterMap nmOf).map nD)])[S3.length]? = some (.lst [nD (p, x)]) := (Sub.app (W := []) _ _).get0 (get_new _ _)
              rw [wp_addL g1 (get_new _ _) (by rw [List.length_map]; unfold line; simp; omega)]
              have s4 : Sub [] S (S3 ++ [O.lst [D.tup [D.tup [D.int p.fst, D.int p.snd], D.str x]]] ++ [O.lst ((M.filterMap nmOf).map nD)] ++ [O.lst ([nD (p, x)] ++ (M.filterMap nmOf).map nD)]) := s3.trans ((Sub.app _ _).trans ((Sub.app _ _).trans (Sub.app _ _)))
              have sx4 : Sub [] S3 (S3 ++ [O.lst [D.tup [D.tup [D.int p.fst, D.int p.snd], D.str x]]] ++ [O.lst ((M.filterMap nmOf).map nD)] ++ [O.lst ([nD (p, x)] ++ (M.filterMap nmOf).map nD)]) := (Sub.app _ _).trans ((Sub.app _ _).trans (Sub.app _ _))
              have hf4 := sx4.get0 hf3
              have hM4 := sx4.get0 hM3
              have hN := get_new (S3 ++ [O.lst [D.tup [D.tup [D.int p.fst, D.int p.snd], D.str x]]] ++ [O.lst ((M.filterMap nmOf).map nD)]) (O.lst ([nD (p, x)] ++ (M.filterMap nmOf).map nD))
              generalize (S3 ++ [O.lst [D.tup [D.tup [D.int p.fst, D.int p.snd], D.str x]]] ++ [O.lst ((M.filterMap nmOf).map nD)] ++ [O.lst ([nD (p, x)] ++ (M.filterMap nmOf).map nD)]) = S4 at s4 hf4 hM4 hN
              generalize (S3 ++ [O.lst [D.tup [D.tup [D.int p.fst, D.int p.snd], D.str x]]] ++ [O.lst ((M.filterMap nmOf).map nD)]).length = ni at hN
              have hN' : S4[ni]? = some (.lst (((p, x) :: M.filterMap nmOf).map nD)) := hN
              clear hN
              have hlenN : ((p, x) :: M.filterMap nmOf).length < 100 := by simp; omega
              have hposN : 0 < ((p, x) :: M.filterMap nmOf).length := by simp
              have hrun := run_at _ (M.filterMap nmOf) rfl (p, x)
              have hun := upd_name M ⟨p, x, p, w, false⟩
              have hk0 : ((M.filterMap nmOf).foldl runF (p, x)) = (M.filterMap nmOf).foldl runF ((⟨p, x, p, w, false⟩ : RowSt).since, (⟨p, x, p, w, false⟩ : RowSt).name) := rfl
              rw [← hk0] at hun
              generalize hNN : ((p, x) :: M.filterMap nmOf) = N at hN' hlenN hposN hrun
              try walk_at "nf"
              rw [wp_len (.inl hN'), List.length_map]
              try walk_at "nf"
              rw [ws_whl]
              refine wpS_whl (fun j ρ T => ρ = [some (.ref n), some (.ref S.length), some (.tup [.int p.1, .int p.2, .str [110, 101, 119], .str x, .int w]), some (.ref mi), some (.ref ni), some (.int (j : Int)), d6, none] ∧ T = S4 ∧ ∃ hj : j < N.length, ∀ i (hi : i < N.length), j ≤ i → N[i].2 = N[j].2) (N.length - 1) (by omega) ?_ ?_
              · refine ⟨?_, rfl, by omega, fun i hi hji => ?_⟩
                · rw [show ((N.length : Int) - 1) = ((N.length - 1 : Nat) : Int) by omega]
                · have : i = N.length - 1 := by omega
                  subst this
                  rfl
              · rintro j ρ T4 ⟨rfl, eT, hj, hs⟩
                rw [eT]
                have hc : ∀ (Qc : Bool → Store → Prop) (Xc : Ex → Store → Prop), wp (semT (callF Δ k) (T.and [T.ex (E.cmp Cop.gt (E.var 5) (E.int 0)), T.ex (E.cmp Cop.eq (((E.var 4).idx (E.bin Bop.sub (E.var 5) (E.int 1))).idx (E.int 1)) (((E.var 4).idx (E.var 5)).idx (E.int 1)))]) [some (.ref n), some (.ref S.length), some (.tup [.int p.1, .int p.2, .str [110, 101, 119], .str x, .int w]), some (.ref mi), some (.ref ni), some (.int (j : Int)), d6, none]) S4 Qc Xc = Qc (decide (0 < j ∧ N[j - 1].2 = N[j].2)) S4 := by
                  intro Qc Xc
                  walk_at "nf"
                  by_cases hj0 : 0 < j
                  · rw [if_pos (by omega), show ((j : Int) - 1) = ((j - 1 : Nat) : Int) by omega, idxN hN' (by omega)]
                    try walk_at "nf"
                    rw [idxN hN' hj]
                    try walk_at "nf"
                    by_cases hq : N[j - 1].2 = N[j].2
                    · simp [hj0, hq]
                    · simp [hq]
                  · rw [if_neg (by omega)]
                    congr 1
                    simp [hj0]
                rw [hc]
                by_cases hb : 0 < j ∧ N[j - 1].2 = N[j].2
                · rw [decide_eq_true hb, if_pos rfl]
                  refine ⟨hb.1, ?_⟩
                  try walk_at "nf"
                  refine ⟨j - 1, by omega, ?_, by omega, fun i hi hji => ?_⟩
                  · rw [show ((j : Int) - 1) = ((j - 1 : Nat) : Int) by omega]
                  · by_cases e : i = j - 1
                    · subst e; rfl
                    · rw [hs i hi (by omega), hb.2]
                · rw [decide_eq_false hb, if_neg (by simp)]
                  have R : RunAt N j := ⟨hj, hs, by
                    by_cases hj0 : j = 0
                    · exact .inl hj0
                    · exact .inr fun hh z => hb ⟨by omega, z⟩⟩
                  have hrj := hrun j R
                  rw [hrj] at hun
                  try walk_at "nf"
                  rw [wk_seqL (.inl ((Sub.app (W := []) _ _).get0 hM4))]
                  try walk_at "nf"
                  refine wp_gather0 M (fun e => (woOf e).map D.int) (.inl ((Sub.app (W := []) _ _).get0 hM4)) (fun e he => ?_) ?_
                  · obtain ⟨q, a⟩ := e
                    cases a with
                    | new y v => exact (by cases hMat _ he)
                    | name u y => rw [dD_name]; walk_at "nf"; rfl
                    | worth u v => rw [dD_worth]; walk_at "nf"; rfl
                    | drop u => rw [dD_drop]; walk_at "nf"; rfl
                  · rw [fm_opt]
                    have hwl := List.length_filterMap_le woOf M
                    rw [if_pos (by rw [List.length_map]; unfold line; omega)]
                    try walk_at "nf"
                    have g5 : (S4 ++ [O.lst [D.int w]] ++ [O.lst ((M.filterMap woOf).map D.int)])[S4.length]? = some (.lst [D.int w]) := (Sub.app (W := []) _ _).get0 (get_new _ _)
                    rw [wp_addL g5 (get_new _ _) (by rw [List.length_map]; unfold line; simp; omega)]
                    have sx5 : Sub [] S4 (S4 ++ [O.lst [D.int w]] ++ [O.lst ((M.filterMap woOf).map D.int)] ++ [O.lst ([D.int w] ++ (M.filterMap woOf).map D.int)]) := (Sub.app _ _).trans ((Sub.app _ _).trans (Sub.app _ _))
                    have s5 := s4.trans sx5
                    have hf5 := sx5.get0 hf4
                    have hN5 := sx5.get0 hN'
                    have hW5 := get_new (S4 ++ [O.lst [D.int w]] ++ [O.lst ((M.filterMap woOf).map D.int)]) (O.lst ([D.int w] ++ (M.filterMap woOf).map D.int))
                    generalize (S4 ++ [O.lst [D.int w]] ++ [O.lst ((M.filterMap woOf).map D.int)] ++ [O.lst ([D.int w] ++ (M.filterMap woOf).map D.int)]) = S5 at s5 hf5 hN5 hW5
                    generalize (S4 ++ [O.lst [D.int w]] ++ [O.lst ((M.filterMap woOf).map D.int)]).length = wi at hW5
                    have hW : S5[wi]? = some (.lst ((w :: M.filterMap woOf).map D.int)) := hW5
                    have hwn : (w :: M.filterMap woOf) ≠ [] := by simp
                    have huw := upd_worth M ⟨p, x, p, w, false⟩
                    have hlastW : ((w :: M.filterMap woOf).map D.int)[((w :: M.filterMap woOf).map D.int).length - 1]? = some (.int ((w :: M.filterMap woOf).getLast hwn)) := by
                      rw [List.getLast_eq_getElem]
                      rw [List.getElem?_map, List.length_map, List.getElem?_eq_getElem]
                      rfl
                    try walk_at "nf"
                    rw [bmTy_lst rfl (.inl hf5)]
                    try walk_at "nf"
                    rw [idxN hN5 hj]
                    try walk_at "nf"
                    rw [idxN hN5 hj]
                    try walk_at "nf"
                    rw [wp_idxL (.inl hW), ix_last (by simp)]
                    show wp (orBad (((w :: M.filterMap woOf).map D.int)[((w :: M.filterMap woOf).map D.int).length - 1]?)) S5 _ _
                    rw [hlastW]
                    try walk_at "nf"
                    have hdl5 : done.length < 64 := by
                      have := congrArg List.length e
                      rw [List.length_append, List.length_cons] at this
                      omega
                    rw [wp_append hf5 (by
                      rw [List.length_map]
                      have := List.length_filterMap_le (rowOf P) done
                      unfold line
                      omega)]
                    refine ⟨_, _, _, _, _, ⟨rfl, rfl, rfl, rfl, rfl⟩, s5.putNew (Nat.le_refl _) _, ?_⟩
                    rw [get_set (get_lt hf5), List.filterMap_append, List.filterMap_cons, hro, List.map_append]
                    have hrt : rowT (M.foldl upd ⟨p, x, p, w, false⟩) = D.tup [D.str N[j].2, pairD N[j].1, D.tup [D.int p.1, D.int p.2], D.int ((w :: M.filterMap woOf).getLast hwn)] := by
                      unfold rowT
                      rw [upd_ky, huw, show (M.foldl upd ⟨p, x, p, w, false⟩).name = N[j].2 from (Prod.ext_iff.mp hun).2, show (M.foldl upd ⟨p, x, p, w, false⟩).since = N[j].1 from (Prod.ext_iff.mp hun).1]
                      rfl
                    show some (O.lst (_ ++ [_])) = some (O.lst (_ ++ [rowT (M.foldl upd ⟨p, x, p, w, false⟩)]))
                    rw [hrt]
          · have e0 : decide (V0.lst (((M.filter isDrop).map dD).map (d0 7)) ≠ V0.lst (([] : List D).map (d0 7))) = true := by
              refine decide_eq_true fun z => hdr ?_
              simp only [V0.lst.injEq, List.map_nil, List.map_eq_nil_iff] at z
              exact z
            rw [e0]
            try walk_at "nf"
            have hany : M.any isDrop = true := by
              obtain ⟨e, he⟩ := List.exists_mem_of_ne_nil _ hdr
              exact List.any_eq_true.mpr ⟨e, (List.mem_filter.mp he).1, (List.mem_filter.mp he).2⟩
            rw [hany] at hro
            refine ⟨_, _, _, _, _, ⟨rfl, rfl, rfl, rfl, rfl⟩, s3, ?_⟩
            have e1 : ([((p, Act.new x w) : Deed)]).filterMap (rowOf P) = [] := by
              rw [List.filterMap_cons, hro]
              rfl
            rw [List.filterMap_append, e1, List.append_nil]
            exact hf3
      | name u x =>
        rw [dD_name]
        try walk_at "nf"
        exact ⟨_, _, _, _, _, ⟨rfl, rfl, rfl, rfl, rfl⟩, s2, by rw [List.filterMap_append, List.map_append]; exact (List.append_nil _).symm ▸ hf2⟩
      | worth u w =>
        rw [dD_worth]
        try walk_at "nf"
        exact ⟨_, _, _, _, _, ⟨rfl, rfl, rfl, rfl, rfl⟩, s2, by rw [List.filterMap_append, List.map_append]; exact (List.append_nil _).symm ▸ hf2⟩
      | drop u =>
        rw [dD_drop]
        try walk_at "nf"
        exact ⟨_, _, _, _, _, ⟨rfl, rfl, rfl, rfl, rfl⟩, s2, by rw [List.filterMap_append, List.map_append]; exact (List.append_nil _).symm ▸ hf2⟩
  · rintro ρ S1 ⟨d2, d3, d4, d5, d6, rfl, s1, hf⟩
    walk_at "nf"
    rw [wp_sorted (.inl hf) (allCmp_of (fun _ _ => rfl) (fun _ _ => rfl) fun _ _ _ _ => cmpb_str _ _ _ _ (cmpbs_key _ _ _ _ (cmpbs_key _ _ _ _ (cmpbs_int _ _ _ _ rfl))))]
    have oP : IsOrd P P := ⟨o.srt, fun _ => Iff.rfl⟩
    refine h _ _ (s1.trans (Sub.app _ _)) s1.1 ?_
    rw [get_new, there_eq oP]
    rw [rowOf_all]
    unfold rowsM
    exact (((ord_perm o hn).filterMap new0).map _).filter _
end
end NF
end -- NfLt

section -- NfLs
set_option linter.all false
set_option autoImplicit false
set_option maxRecDepth 10000
/-! The walk of what a law shows. -/
namespace NF
open SrtO
local macro_rules | `(tactic| walk_at "nf") => `(tactic| simp only [↓ws_nil, ↓ws_cons, ↓ws_asg, ↓ws_unp, ↓ws_par, ↓ws_sat, ↓ws_ssub, ↓ws_dsub, ↓ws_exp, ↓ws_ret, ↓ws_retN, ↓ws_pass, ↓ws_cont, ↓ws_ife, ↓ws_raise, ↓ws_for, ↓goS_nx, ↓goS_ct, ↓goS_rt, ↓we_var, ↓we_int, ↓we_str, ↓we_bl, ↓we_non, ↓we_neg, ↓we_glb, ↓we_tup, ↓we_lst, ↓we_dctT, ↓we_dctK, ↓we_bin, ↓we_cmp, ↓we_chain, ↓we_isn, ↓we_andv, ↓we_orv, ↓wand1, ↓wand2, ↓wor1, ↓wor2, ↓we_notv, ↓we_ife, ↓we_idx, ↓we_dix, ↓we_slc, ↓we_rev, ↓we_att, ↓we_call, ↓we_mk, ↓we_meth, ↓we_bi, ↓we_bm, ↓we_lenset, ↓we_sortset, ↓we_sortk, ↓we_sortf, ↓we_sortkeys, ↓we_listkeys, ↓we_isTy, ↓we_isEx, ↓we_lc, ↓wo_none, ↓wo_some, ↓wes_nil, ↓wes_cons, ↓wc_none, ↓wc_some, ↓wb_nm, ↓wt_ex, ↓wt_not, ↓wt_and, ↓wt_or, ↓wt_ife, ↓wtand_nil, ↓wtand_cons, ↓wtor_nil, ↓wtor_cons, ↓wtr_bl, ↓wtr_int, ↓w_turn, ↓w_body, ↓ifB_bl, ↓wp_ret, ↓wp_orS, ↓wp_bnd, List.getElem?_cons_zero, List.getElem?_cons_succ, Option.join_some, List.set_cons_zero, List.set_cons_succ, List.map_cons, List.map_nil, List.cons_append, List.nil_append, List.length_cons, List.length_nil, List.replicate_succ, List.replicate_zero, wipeE, cmp_le, cmp_lt, cmp_gt, cmp_ge, cmp_eqS, cmp_neS, cmp_eqI, cmp_neI, add_int, sub_int, len_tup, list_tup, ↓wk_seqT, ↓wk_seqS, ↓lv_lst, ↓lv_fix, isN, idx_t0, idx_t1, idx_t2, idx_t3, idx_t4, slc_t2, intO_2, Nat.reduceSub, Nat.reduceAdd, Bool.false_eq_true, if_true, if_false, Bool.not_true, Bool.not_false, Wk.items, decide_eq_true_eq, Bool.not_eq_true', decide_eq_false_iff_not, List.cons.injEq, Nat.reduceEqDiff, reduceCtorEq, and_false, false_and, and_true, true_and, decide_true, decide_false, not_true_eq_false, not_false_eq_true, Int.cast_ofNat_Int, Int.reduceLT, Int.reduceLE, Int.reduceEq, Int.reduceNe, Option.isSome_some, Option.isSome_none, sNew, sName, sWorth, sDrop, ne_eq, ↓wb_t2, ↓wb_t3, ↓wb_t4])
theorem names_srt {P : List Deed} : (thereM P).Pairwise fun a b => ltD (.str b.name) (.str a.name) = false := by
  refine (there_srt P).imp fun {a b} h => ?_
  have h : ltD (nameSince b) (nameSince a) = false := h
  unfold nameSince at h
  rw [ltD_tup_cons, Bool.or_eq_false_iff] at h
  exact h.1
/-- earlier rows of the name -/
def before (done : List RowSt) (x : List Nat) : Nat := (done.filter fun r => decide (r.name = x)).length
theorem nm_inv : ∀ (n : Nat) (done : List RowSt), done.length = n → (done.Pairwise fun a b => ltD (.str b.name) (.str a.name) = false) → ∀ r, (∀ e ∈ done, ltD (.str r.name) (.str e.name) = false) → (nmStep (nmAll done) r).2.1 = before done r.name + 1 := by
  intro n
  induction n with
  | zero =>
    intro done hd _ r _
    have : done = [] := List.eq_nil_of_length_eq_zero hd
    subst this
    rfl
  | succ n ih =>
    intro done hd hs r hr
    obtain ⟨M, q, rfl⟩ : ∃ M q, done = M ++ [q] := by
      have hne : done ≠ [] := by intro z; rw [z] at hd; cases hd
      exact ⟨done.dropLast, done.getLast hne, (List.dropLast_concat_getLast hne).symm⟩
    rw [nmAll_snoc]
    obtain ⟨hM, _, hMq⟩ := List.pairwise_append.mp hs
    have hc := ih M (by simp at hd; exact hd) hM q fun e he => hMq e he q (by simp)
    have hl : (nmStep (nmAll M) q).1 = some q.name := rfl
    have hb : ∀ x, before (M ++ [q]) x = before M x + if q.name = x then 1 else 0 := by
      intro x
      unfold before
      rw [List.filter_append, List.length_append]
      congr 1
      by_cases e : q.name = x <;> simp [e]
    generalize nmStep (nmAll M) q = st at hc hl
    obtain ⟨l0, c0, out⟩ := st
    dsimp only at hc hl
    subst hl
    unfold nmStep
    dsimp only
    by_cases e : r.name = q.name
    · rw [if_pos (by rw [e]), hc, hb, e, if_pos rfl]
    · rw [if_neg (by simpa using e), hb, if_neg (Ne.symm e)]
      have h0 : before M r.name = 0 := by
        unfold before
        rw [List.length_eq_zero_iff, List.filter_eq_nil_iff]
        intro f hf z
        have z' := of_decide_eq_true z
        have h1 := hMq f hf q (by simp)
        have h2 := hr q (by simp)
        rw [← z'] at h2
        have : D.str f.name = D.str q.name := eqv_ltD (eqv_iff.mpr ⟨h2, h1⟩)
        simp only [D.str.injEq] at this
        exact e (by rw [← z', this])
      rw [h0]
def shT (z : List Nat × RowSt) : D := .tup [.str z.1, .str z.2.name, pairD z.2.key, .int z.2.worth]
section
variable {Δ : String → Option Fn} {k n m : Nat} {S : Store} {Q : D → Store → Prop} {X : Ex → Store → Prop}
theorem law_shown_ok (ht : Δ "_law_there" = some TR.fn__law_there) (hs : Δ "_law_shown" = some TR.fn__law_shown) {P L : List Deed} (o : IsOrd P L) (hn : (L.map (·.1)).Nodup) (ok : ∀ d ∈ P, okDeed d = true) (hl : LstAt S n (L.map dD)) (sz : L.length < 64)
    (h : ∀ S' m, Sub [] S S' → S.length ≤ m → S'[m]? = some (.lst ((namedM P).map shT)) → Q (.ref m) S') : wp (callF Δ (k + 2) "_law_shown" [.ref n]) S Q X := by
  have hPl : P.length < 64 := by rw [← (ord_perm o hn).length_eq]; exact sz
  have htl := there_len P
  rw [wp_call hs rfl]
  unfold TR.fn__law_shown
  walk_at "nf"
  refine law_there_ok ht o hn (hl.sub (Sub.app (W := []) S [.lst []]) (by simp)) sz fun S1 l s1 hlm hx => ?_
  have hl0 : S.length < l := by simp at hlm; omega
  try walk_at "nf"
  rw [wk_seqL (.inl hx)]
  try walk_at "nf"
  refine wpS_forM (thereM P) (fun done ρ S' => ∃ d2 d3 d4 d5 d6, ρ = [some (.ref n), some (.ref S.length), d2, d3, d4, d5, d6, none] ∧ Sub [] S S' ∧ S'[l]? = some (.lst ((thereM P).map rowT)) ∧ S'[S.length]? = some (.lst ((nmAll done).2.2.map shT))) ?_ ?_ ?_ ?_
  · exact ⟨none, none, none, none, none, rfl, (Sub.app _ _).trans s1, hx, s1.get0 (get_new _ _)⟩
  · rintro done ρ S' ⟨d2, d3, d4, d5, d6, rfl, s, hx, _⟩
    exact .inl hx
  · rintro done r rest ρ S2 e ⟨d2, d3, d4, d5, d6, rfl, s2, hx, hf⟩
    have hrm : r ∈ thereM P := by rw [e]; simp
    have hok := rows_ok ok r (there_mem.mp hrm).1
    have hnl := name_len hok
    have hsrt := names_srt (P := P)
    rw [e] at hsrt
    obtain ⟨hs1, _, hs2⟩ := List.pairwise_append.mp hsrt
    have hinv := nm_inv _ done rfl hs1 r fun f hf => hs2 f hf r (by simp)
    have hdl : done.length < 64 := by
      have := congrArg List.length e
      rw [List.length_append, List.length_cons] at this
      omega
    have hrows := nm_rows done
    have hsn := nmAll_snoc done r
    have hbl : before done r.name ≤ done.length := List.length_filter_le _ _
    have hcount : ((nmAll done).2.2.filter fun z => decide (z.2.name = r.name)).length = before done r.name := by
      have h1 : before ((nmAll done).2.2.map (·.2)) r.name = ((nmAll done).2.2.filter fun z => decide (z.2.name = r.name)).length := by
        unfold before
        rw [List.filter_map, List.length_map]
        rfl
      rw [hrows] at h1
      exact h1.symm
    have hlen : (nmAll done).2.2.length = done.length := by
      have := congrArg List.length hrows
      rw [List.length_map] at this
      exact this
    have hst : (nmStep (nmAll done) r).2.2 = (nmAll done).2.2 ++ [(if before done r.name + 1 = 1 then r.name else r.name ++ numL ((before done r.name + 1 : Nat) : Int), r)] := by
      rw [← hinv]
      rfl
    unfold rowT
    walk_at "nf"
    rw [wk_seqL (.inl hf)]
    try walk_at "nf"
    refine wp_gather0 (nmAll done).2.2 (fun z => if decide (z.2.name = r.name) then some (shT z) else none) (.inl hf) (fun z hz => ?_) ?_
    · unfold shT
      walk_at "nf"
      by_cases e1 : z.2.name = r.name <;> simp [e1]
    · rw [fm_filter]
      have hfl := List.length_filter_le (fun z : List Nat × RowSt => decide (z.2.name = r.name)) (nmAll done).2.2
      rw [if_pos (by rw [List.length_map]; unfold line; omega), wp_len (.inl (get_new _ _)), List.length_map, hcount]
      generalize before done r.name = c at hst hbl
      try walk_at "nf"
      rw [bmTy_lst rfl (.inl ((Sub.app (W := []) _ _).get0 hf))]
      try walk_at "nf"
      rw [show ((c : Int) + 1) = ((c + 1 : Nat) : Int) from by simp, str_int (by omega)]
      try walk_at "nf"
      rw [int_bl, wp_ret]
      have sx : Sub [] S2 (S2 ++ [O.lst (List.map shT (List.filter (fun z => decide (z.2.name = r.name)) (nmAll done).2.2))] ++ [O.lst [D.str [], D.str (numL ↑(c + 1))]]) := (Sub.app _ _).trans (Sub.app _ _)
      have s3 := s2.trans sx
      have hf3 := sx.get0 hf
      have hx3 := sx.get0 hx
      have hI := get_new (S2 ++ [O.lst (List.map shT (List.filter (fun z => decide (z.2.name = r.name)) (nmAll done).2.2))]) (O.lst [D.str [], D.str (numL ↑(c + 1))])
      generalize (S2 ++ [O.lst (List.map shT (List.filter (fun z => decide (z.2.name = r.name)) (nmAll done).2.2))] ++ [O.lst [D.str [], D.str (numL ↑(c + 1))]]) = S3 at s3 hf3 hx3 hI
      generalize (S2 ++ [O.lst (List.map shT (List.filter (fun z => decide (z.2.name = r.name)) (nmAll done).2.2))]).length = ii at hI
      have fin : ∀ v : List Nat, (nmStep (nmAll done) r).2.2 = (nmAll done).2.2 ++ [(v, r)] → (Sub [] S (S3.set S.length (.lst ((nmAll done).2.2.map shT ++ [D.tup [.str v, .str r.name, pairD r.key, .int r.worth]])))) ∧ (S3.set S.length (.lst ((nmAll done).2.2.map shT ++ [D.tup [.str v, .str r.name, pairD r.key, .int r.worth]])))[l]? = some (.lst ((thereM P).map rowT)) ∧ (S3.set S.length (.lst ((nmAll done).2.2.map shT ++ [D.tup [.str v, .str r.name, pairD r.key, .int r.worth]])))[S.length]? = some (.lst ((nmAll (done ++ [r])).2.2.map shT)) := by
        intro v hv
        refine ⟨s3.putNew (Nat.le_refl _) _, ?_, ?_⟩
        · rw [List.getElem?_set_ne (Nat.ne_of_lt hl0)]
          exact hx3
        · rw [get_set (get_lt hf3), hsn, hv, List.map_append]
          rfl
      have hal : ((nmAll done).2.2.map shT).length < line := by rw [List.length_map]; unfold line; omega
      by_cases hc0 : c = 0
      · subst hc0
        have e1 : (if decide ((0 : Int) < ((0 : Nat) : Int)) = true then (1 : Int) else 0) = ((0 : Nat) : Int) := rfl
        rw [e1, wp_idxL (.inl hI), ix_nat (by simp)]
        show wp (orBad (some (D.str []))) S3 _ _
        rw [wp_orS, add_str (by simp; unfold line; omega), wp_ret, wp_append hf3 hal, List.append_nil]
        exact ⟨_, _, _, _, _, ⟨rfl, rfl, rfl, rfl, rfl⟩, fin r.name hst⟩
      · have e1 : (if decide ((0 : Int) < (c : Int)) = true then (1 : Int) else 0) = ((1 : Nat) : Int) := by
          rw [if_pos (by simp; omega)]
          rfl
        have hn2 := numL_small (c + 1) (by omega)
        rw [if_neg (by omega)] at hst
        rw [e1, wp_idxL (.inl hI), ix_nat (by simp)]
        show wp (orBad (some (D.str (numL ↑(c + 1))))) S3 _ _
        rw [wp_orS, add_str (by unfold line; omega), wp_ret, wp_append hf3 hal]
        exact ⟨_, _, _, _, _, ⟨rfl, rfl, rfl, rfl, rfl⟩, fin (r.name ++ numL ↑(c + 1)) hst⟩
  · rintro ρ S2 ⟨d2, d3, d4, d5, d6, rfl, s2, hx, hf⟩
    walk_at "nf"
    exact h S2 S.length s2 (Nat.le_refl _) hf
theorem law_table_ok (ht : Δ "_law_there" = some TR.fn__law_there) (hs : Δ "_law_shown" = some TR.fn__law_shown) (hb : Δ "_law_table" = some TR.fn__law_table) {P L : List Deed} (o : IsOrd P L) (hn : (L.map (·.1)).Nodup) (ok : ∀ d ∈ P, okDeed d = true) (hl : LstAt S n (L.map dD)) (sz : L.length < 64)
    (h : ∀ S' m, Sub [] S S' → S.length ≤ m → S'[m]? = some (.lst (tableM P)) → Q (.ref m) S') : wp (callF Δ (k + 3) "_law_table" [.ref n]) S Q X := by
  rw [wp_call hb rfl]
  unfold TR.fn__law_table
  walk_at "nf"
  refine law_shown_ok ht hs o hn ok hl sz fun S1 l s1 hlm hx => ?_
  try walk_at "nf"
  rw [wk_seqL (.inl hx)]
  try walk_at "nf"
  have hPl : P.length < 64 := by rw [← (ord_perm o hn).length_eq]; exact sz
  have hzl : (namedM P).length < 64 := by
    have := named_len (P := P) (zs := namedM P) (f := id) (by simp)
    omega
  refine wp_gather0 (namedM P) (fun z => some (.tup [.str z.1, pairD z.2.key, .int z.2.worth])) (.inl hx) (fun z hz => ?_) ?_
  · unfold shT
    walk_at "nf"
  · rw [fm_some, if_pos (by rw [List.length_map]; unfold line; omega)]
    rw [wp_sorted (.inl (get_new _ _)) (allCmp_of (fun _ _ => rfl) (fun _ _ => rfl) fun _ _ _ _ => cmpb_str _ _ _ _ (cmpbs_key _ _ _ _ (cmpbs_int _ _ _ _ rfl)))]
    refine h _ _ (s1.trans ((Sub.app _ _).trans (Sub.app _ _))) ?_ (get_new _ _)
    have h1 := s1.1
    simp
    omega
end
end NF
end -- NfLs

section -- NfPl4
set_option linter.all false
set_option autoImplicit false
set_option maxRecDepth 10000
/-! What is shown is shown once. -/
namespace NF
open SrtO
def disp (x : List Nat) (c : Nat) : List Nat := if c = 1 then x else x ++ numL c
theorem numL_back : ∀ c : Nat, c < 100 → numOf (numL c) = (c : Int) := by decide
theorem numL_dig : ∀ c : Nat, c < 100 → ((numL c).all fun d => decide (48 ≤ d) && decide (d ≤ 57)) = true := by decide
theorem name_let {x : List Nat} (h : okName x = true) : ∀ c ∈ x, 97 ≤ c := by
  unfold okName at h
  simp only [Bool.and_eq_true, List.all_eq_true] at h
  intro c hc
  have := h.2.2 c hc
  have := List.contains_iff_mem.mp this
  simp only [List.mem_cons, List.not_mem_nil, or_false] at this
  omega
theorem split_let : ∀ {x y d e : List Nat}, (∀ c ∈ x, 97 ≤ c) → (∀ c ∈ y, 97 ≤ c) → (∀ c ∈ d, c ≤ 57) → (∀ c ∈ e, c ≤ 57) → x ++ d = y ++ e → x = y ∧ d = e
  | [], [], d, e, _, _, _, _, h => ⟨rfl, h⟩
  | [], b :: y, d, e, _, hy, hd, _, h => by
    have := hd b (by rw [List.nil_append] at h; rw [h]; simp)
    have := hy b (by simp)
    omega
  | a :: x, [], d, e, hx, _, _, he, h => by
    have := he a (by rw [List.nil_append] at h; rw [← h]; simp)
    have := hx a (by simp)
    omega
  | a :: x, b :: y, d, e, hx, hy, hd, he, h => by
    rw [List.cons_append, List.cons_append, List.cons.injEq] at h
    obtain ⟨h1, h2⟩ := split_let (fun c hc => hx c (List.mem_cons_of_mem _ hc)) (fun c hc => hy c (List.mem_cons_of_mem _ hc)) hd he h.2
    exact ⟨by rw [h.1, h1], h2⟩
theorem dig_le {c : Nat} (h : c < 100) : ∀ d ∈ numL c, d ≤ 57 := by
  have := numL_dig c h
  rw [List.all_eq_true] at this
  intro d hd
  have := this d hd
  simp at this
  omega
theorem numL_ne {c : Nat} (h : c < 100) (h1 : 1 ≤ c) : numL c ≠ [] := by
  intro z
  have := numL_back c h
  rw [z] at this
  simp [numOf] at this
  omega
theorem numL_inj {c d : Nat} (hc : c < 100) (hd : d < 100) (h : numL c = numL d) : c = d := by
  have h1 := numL_back c hc
  rw [h, numL_back d hd] at h1
  omega
theorem disp_inj {x y : List Nat} {c d : Nat} (hx : okName x = true) (hy : okName y = true) (hc : c < 100) (hc1 : 1 ≤ c) (hd : d < 100) (hd1 : 1 ≤ d) (h : disp x c = disp y d) : x = y ∧ c = d := by
  have e : ∀ (z : List Nat) (n : Nat), n < 100 → ∃ t, disp z n = z ++ t ∧ (∀ q ∈ t, q ≤ 57) ∧ (n = 1 ∧ t = [] ∨ n ≠ 1 ∧ t = numL n) := by
    intro z n hn
    unfold disp
    by_cases h1 : n = 1
    · rw [if_pos h1]
      exact ⟨[], by simp, fun q hq => (by cases hq), .inl ⟨h1, rfl⟩⟩
    · rw [if_neg h1]
      exact ⟨numL n, rfl, dig_le hn, .inr ⟨h1, rfl⟩⟩
  obtain ⟨t, t1, t2, t3⟩ := e x c hc
  obtain ⟨u, u1, u2, u3⟩ := e y d hd
  rw [t1, u1] at h
  obtain ⟨h1, h2⟩ := split_let (name_let hx) (name_let hy) t2 u2 h
  refine ⟨h1, ?_⟩
  rcases t3 with ⟨a, b⟩ | ⟨a, b⟩ <;> rcases u3 with ⟨a', b'⟩ | ⟨a', b'⟩
  · rw [a, a']
  · rw [b, b'] at h2
    exact (numL_ne hd hd1 h2.symm).elim
  · rw [b, b'] at h2
    exact (numL_ne hc hc1 h2).elim
  · rw [b, b'] at h2
    exact numL_inj hc hd h2
theorem before_snoc (M : List RowSt) (q : RowSt) (x : List Nat) : before (M ++ [q]) x = before M x + if q.name = x then 1 else 0 := by
  unfold before
  rw [List.filter_append, List.length_append]
  congr 1
  by_cases e : q.name = x <;> simp [e]
theorem shown_once : ∀ (n : Nat) (rs : List RowSt), rs.length = n → n < 64 → (rs.Pairwise fun a b => ltD (.str b.name) (.str a.name) = false) → (∀ r ∈ rs, okName r.name = true) → ((nmAll rs).2.2.map (·.1)).Nodup ∧ ∀ z ∈ (nmAll rs).2.2, ∃ c, z.1 = disp z.2.name c ∧ 1 ≤ c ∧ c ≤ before rs z.2.name ∧ okName z.2.name = true := by
  intro n
  induction n with
  | zero =>
    intro rs hd _ _ _
    have : rs = [] := List.eq_nil_of_length_eq_zero hd
    subst this
    exact ⟨List.nodup_nil, fun z hz => by cases hz⟩
  | succ n ih =>
    intro rs hd hn hs hok
    obtain ⟨M, r, rfl⟩ : ∃ M q, rs = M ++ [q] := by
      have hne : rs ≠ [] := by intro z; rw [z] at hd; cases hd
      exact ⟨rs.dropLast, rs.getLast hne, (List.dropLast_concat_getLast hne).symm⟩
    obtain ⟨hM, _, hMq⟩ := List.pairwise_append.mp hs
    have hMl : M.length = n := by simp at hd; exact hd
    obtain ⟨i1, i2⟩ := ih M hMl (by omega) hM fun e he => hok e (List.mem_append_left _ he)
    have hc := nm_inv _ M rfl hM r fun e he => hMq e he r (by simp)
    have hbl : ∀ x, before M x ≤ M.length := fun x => List.length_filter_le _ _
    have hr := hok r (by simp)
    have hst : (nmAll (M ++ [r])).2.2 = (nmAll M).2.2 ++ [(disp r.name (before M r.name + 1), r)] := by
      rw [nmAll_snoc, ← hc]
      rfl
    rw [hst]
    constructor
    · rw [List.map_append, List.nodup_append]
      refine ⟨i1, by simp, fun a ha b hb z => ?_⟩
      obtain ⟨e, he, rfl⟩ := List.mem_map.mp ha
      simp only [List.map_cons, List.map_nil, List.mem_singleton] at hb
      obtain ⟨c, c1, c2, c3, c4⟩ := i2 e he
      rw [c1, hb] at z
      have h1 := hbl e.2.name
      have h2 := hbl r.name
      obtain ⟨z1, z2⟩ := disp_inj c4 hr (by omega) c2 (by omega) (by omega) z
      rw [z1] at c3
      omega
    · intro z hz
      rcases List.mem_append.mp hz with hz | hz
      · obtain ⟨c, c1, c2, c3, c4⟩ := i2 z hz
        exact ⟨c, c1, c2, by rw [before_snoc]; omega, c4⟩
      · rw [List.mem_singleton.mp hz]
        exact ⟨_, rfl, by omega, by rw [before_snoc, if_pos rfl]; exact Nat.le_refl _, hr⟩
theorem displays_nodup {P : List Deed} (ok : ∀ d ∈ P, okDeed d = true) (h : P.length < 64) : ((namedM P).map (·.1)).Nodup := by
  have := there_len P
  exact (shown_once _ (thereM P) rfl (by omega) names_srt fun r hr => rows_ok ok r (there_mem.mp hr).1).1
theorem dedup_id : ∀ {ds : List D}, ds.Nodup → dedup ds = ds
  | [], _ => rfl
  | d :: r, h => by
    rw [List.nodup_cons] at h
    unfold dedup
    rw [if_neg, dedup_id h.2]
    intro z
    obtain ⟨e, he, z⟩ := List.any_eq_true.mp z
    have := cmpD_eq.mp (of_decide_eq_true z)
    exact h.1 (this ▸ he)
def tbT (z : List Nat × RowSt) : D := .tup [.str z.1, pairD z.2.key, .int z.2.worth]
/-- the rows of a table, sorted -/
def tabM (P : List Deed) : List (List Nat × RowSt) := sortBy (fun a b => ltD (tbT a) (tbT b)) (namedM P)
theorem tableM_eq (P : List Deed) : tableM P = (tabM P).map tbT := sort_mapB tbT (fun _ _ => rfl) _
theorem tabM_len (P : List Deed) : (tabM P).length ≤ P.length := by
  unfold tabM
  rw [(sort_perm _).length_eq]
  exact named_len (f := id) (by simp)
theorem tabM_once {P : List Deed} (ok : ∀ d ∈ P, okDeed d = true) (h : P.length < 64) : ((tabM P).map fun z => D.str z.1).Nodup := by
  have h1 : ((tabM P).map (·.1)).Nodup := ((sort_perm (namedM P)).map (·.1)).nodup_iff.mpr (displays_nodup ok h)
  unfold List.Nodup at *
  rw [List.pairwise_map] at *
  exact h1.imp fun h z => h (by simpa using z)
end NF
end -- NfPl4

section -- NfPl5
set_option linter.all false
set_option autoImplicit false
set_option maxRecDepth 10000
/-! Squeezed deeds. -/
namespace NF
open SrtO
def isDropAt (t : Key) (d : Deed) : Bool := match d.2 with
  | .drop u => decide (u = t)
  | _ => false
def isWorthAt (t : Key) (d : Deed) : Bool := match d.2 with
  | .worth u _ => decide (u = t)
  | _ => false
/-- the first drop of a row; the last worth -/
def firstDrop (P : List Deed) (t : Key) : Option Deed := P.find? (isDropAt t)
def lastWorth (P : List Deed) (t : Key) : Option Deed := (P.filter (isWorthAt t)).getLast?
def keep (P : List Deed) (d : Deed) : Bool := match d.2 with
  | .new _ _ => true
  | .drop t => decide (firstDrop P t = some d)
  | .name t _ => (firstDrop P t).isNone
  | .worth t _ => (firstDrop P t).isNone && decide (lastWorth P t = some d)
def sqM (P : List Deed) : List Deed := P.filter (keep P)
theorem keep_new {P : List Deed} {d : Deed} {r : RowSt} (h : new0 d = some r) : keep P d = true := by
  obtain ⟨p, a⟩ := d
  cases a with
  | new x w => rfl
  | _ => cases h
theorem sq_news {P : List Deed} : ∀ L : List Deed, (L.filter (keep P)).filterMap new0 = L.filterMap new0
  | [] => rfl
  | d :: L => by
    rw [List.filter_cons]
    split
    · rw [List.filterMap_cons, List.filterMap_cons, sq_news L]
    · rename_i h
      rw [sq_news L, List.filterMap_cons]
      cases e : new0 d with
      | none => rfl
      | some r => exact (h (keep_new e)).elim
theorem firstDrop_some {P : List Deed} {t : Key} {d : Deed} (h : firstDrop P t = some d) : d ∈ P ∧ isDropAt t d = true := ⟨List.mem_of_find?_eq_some h, List.find?_some h⟩
theorem firstDrop_none {P : List Deed} {t : Key} : firstDrop P t = none ↔ ∀ d ∈ P, isDropAt t d = false := by
  unfold firstDrop
  rw [List.find?_eq_none]
  constructor
  · intro h d hd
    cases e : isDropAt t d with
    | false => rfl
    | true => exact (h d hd e).elim
  · intro h d hd
    rw [h d hd]
    simp
theorem lastWorth_some {P : List Deed} {t : Key} {d : Deed} (h : lastWorth P t = some d) : d ∈ P ∧ isWorthAt t d = true := by
  have := List.mem_of_getLast? h
  exact List.mem_filter.mp this
/-- the first in a sorted list: no other before it -/
theorem find_first {P : List Deed} (srt : P.Pairwise fun a b => ltK a.1 b.1 = true) {p : Deed → Bool} {d : Deed} : P.find? p = some d ↔ d ∈ P ∧ p d = true ∧ ∀ e ∈ P, p e = true → ltK e.1 d.1 = false := by
  induction srt with
  | nil => simp
  | cons h1 h2 ih =>
    rename_i a P
    rw [List.find?_cons]
    cases ha : p a with
    | true =>
      constructor
      · intro z
        cases z
        refine ⟨List.mem_cons_self, ha, fun e he _ => ?_⟩
        rcases List.mem_cons.mp he with z | z
        · rw [z]; exact ltK_irr _
        · cases q : ltK e.1 d.1 with
          | false => rfl
          | true => exact (ltK_asym q (h1 e z)).elim
      · rintro ⟨hd, _, hmin⟩
        rcases List.mem_cons.mp hd with z | z
        · rw [z]
        · have := hmin a List.mem_cons_self ha
          rw [h1 d z] at this
          cases this
    | false =>
      dsimp only
      rw [ih]
      constructor
      · rintro ⟨hd, hp, hmin⟩
        refine ⟨List.mem_cons_of_mem _ hd, hp, fun e he hpe => ?_⟩
        rcases List.mem_cons.mp he with z | z
        · rw [z, ha] at hpe; cases hpe
        · exact hmin e z hpe
      · rintro ⟨hd, hp, hmin⟩
        refine ⟨?_, hp, fun e he hpe => hmin e (List.mem_cons_of_mem _ he) hpe⟩
        rcases List.mem_cons.mp hd with z | z
        · rw [z, ha] at hp; cases hp
        · exact z
/-- the last in a sorted list: no other behind it -/
theorem last_iff : ∀ {P : List Deed} (srt : P.Pairwise fun a b => ltK a.1 b.1 = true) {d : Deed}, P.getLast? = some d ↔ d ∈ P ∧ ∀ e ∈ P, ltK d.1 e.1 = false
  | [], _, d => by simp
  | a :: P, srt, d => by
    obtain ⟨h1, h2⟩ := List.pairwise_cons.mp srt
    cases P with
    | nil =>
      simp only [List.getLast?_singleton, Option.some.injEq, List.mem_singleton]
      constructor
      · rintro rfl
        exact ⟨rfl, fun e he => by rw [he]; exact ltK_irr _⟩
      · rintro ⟨rfl, _⟩
        rfl
    | cons b P =>
      rw [List.getLast?_cons_cons, last_iff h2]
      constructor
      · rintro ⟨hd, hmax⟩
        refine ⟨List.mem_cons_of_mem _ hd, fun e he => ?_⟩
        rcases List.mem_cons.mp he with z | z
        · cases q : ltK d.1 e.1 with
          | false => rfl
          | true => rw [z] at q; exact (ltK_asym q (h1 d hd)).elim
        · exact hmax e z
      · rintro ⟨hd, hmax⟩
        refine ⟨?_, fun e he => hmax e (List.mem_cons_of_mem _ he)⟩
        rcases List.mem_cons.mp hd with z | z
        · have := hmax b (by simp)
          rw [z, h1 b (by simp)] at this
          cases this
        · exact z
theorem lastWorth_iff {P : List Deed} (srt : P.Pairwise fun a b => ltK a.1 b.1 = true) {t : Key} {d : Deed} : lastWorth P t = some d ↔ d ∈ P ∧ isWorthAt t d = true ∧ ∀ e ∈ P, isWorthAt t e = true → ltK d.1 e.1 = false := by
  unfold lastWorth
  rw [last_iff (srt.filter _), List.mem_filter]
  constructor
  · rintro ⟨⟨h1, h2⟩, h3⟩
    exact ⟨h1, h2, fun e he hw => h3 e (List.mem_filter.mpr ⟨he, hw⟩)⟩
  · rintro ⟨h1, h2, h3⟩
    exact ⟨⟨h1, h2⟩, fun e he => h3 e (List.mem_filter.mp he).1 (List.mem_filter.mp he).2⟩
/-- what is kept, by the deeds alone -/
theorem keep_drop {P : List Deed} (srt : P.Pairwise fun a b => ltK a.1 b.1 = true) {p t : Key} (hd : (p, Act.drop t) ∈ P) : keep P (p, .drop t) = true ↔ ∀ e ∈ P, isDropAt t e = true → ltK e.1 p = false := by
  show decide (firstDrop P t = some (p, Act.drop t)) = true ↔ _
  rw [decide_eq_true_eq, firstDrop, find_first srt]
  exact ⟨fun h => h.2.2, fun h => ⟨hd, decide_eq_true rfl, h⟩⟩
theorem keep_name {P : List Deed} {p t : Key} {x : List Nat} : keep P (p, .name t x) = true ↔ ∀ e ∈ P, isDropAt t e = false := by
  show (firstDrop P t).isNone = true ↔ _
  rw [Option.isNone_iff_eq_none, firstDrop_none]
theorem keep_worth {P : List Deed} (srt : P.Pairwise fun a b => ltK a.1 b.1 = true) {p t : Key} {w : Int} (hd : (p, Act.worth t w) ∈ P) : keep P (p, .worth t w) = true ↔ (∀ e ∈ P, isDropAt t e = false) ∧ ∀ e ∈ P, isWorthAt t e = true → ltK p e.1 = false := by
  show ((firstDrop P t).isNone && decide (lastWorth P t = some (p, Act.worth t w))) = true ↔ _
  rw [Bool.and_eq_true, Option.isNone_iff_eq_none, firstDrop_none, decide_eq_true_eq, lastWorth_iff srt]
  exact ⟨fun h => ⟨h.1, h.2.2.2⟩, fun h => ⟨h.1, hd, decide_eq_true rfl, h.2⟩⟩
/-- where there is a drop, there is a first one, and it is kept -/
theorem first_kept {P : List Deed} (srt : P.Pairwise fun a b => ltK a.1 b.1 = true) {t : Key} (h : ∃ e ∈ P, isDropAt t e = true) : ∃ e ∈ P, isDropAt t e = true ∧ keep P e = true ∧ ∀ f ∈ P, isDropAt t f = true → ltK f.1 e.1 = false := by
  cases hf : firstDrop P t with
  | none =>
    rw [firstDrop_none] at hf
    obtain ⟨e, he, hd⟩ := h
    rw [hf e he] at hd
    cases hd
  | some e =>
    have hf' := hf
    unfold firstDrop at hf'
    obtain ⟨h1, h2, h3⟩ := (find_first srt).mp hf'
    refine ⟨e, h1, h2, ?_, h3⟩
    obtain ⟨p, a⟩ := e
    cases a with
    | drop u =>
      have : u = t := of_decide_eq_true h2
      subst this
      exact decide_eq_true hf
    | _ => cases h2
end NF
end -- NfPl5

section -- NfPl6
set_option linter.all false
set_option autoImplicit false
set_option maxRecDepth 10000
/-! What may be squeezed out of deeds. -/
namespace NF
open SrtO
/-- d tells nothing beside Z -/
def redund (Z : List Deed) (d : Deed) : Prop := match d.2 with
  | .new _ _ => False
  | .drop t => ∃ e ∈ Z, isDropAt t e = true ∧ ltK e.1 d.1 = true
  | .name t _ => ∃ e ∈ Z, isDropAt t e = true
  | .worth t _ => (∃ e ∈ Z, isDropAt t e = true) ∨ ∃ e ∈ Z, isWorthAt t e = true ∧ ltK d.1 e.1 = true
/-- Z is Y but for what tells nothing -/
structure Sqz (Y Z : List Deed) : Prop where
  sy : Y.Pairwise fun a b => ltK a.1 b.1 = true
  sz : Z.Pairwise fun a b => ltK a.1 b.1 = true
  sub : ∀ d ∈ Z, d ∈ Y
  red : ∀ d ∈ Y, d ∉ Z → redund Z d
theorem isDropAt_iff {t : Key} {d : Deed} : isDropAt t d = true ↔ d.2 = .drop t := by
  obtain ⟨p, a⟩ := d
  cases a <;> simp [isDropAt]
theorem isWorthAt_iff {t : Key} {d : Deed} : isWorthAt t d = true ↔ ∃ w, d.2 = .worth t w := by
  obtain ⟨p, a⟩ := d
  cases a <;> simp [isWorthAt]
theorem ltK_ne {a b : Key} (h : ltK a b = false) (h2 : a ≠ b) : ltK b a = true := by
  rcases ltK_tri h2 with z | z
  · rw [h] at z; cases z
  · exact z
section
variable {Y Z : List Deed}
theorem Sqz.drops (q : Sqz Y Z) {t : Key} (h : ∃ e ∈ Y, isDropAt t e = true) : ∃ e ∈ Z, isDropAt t e = true := by
  obtain ⟨e, he, hd⟩ := h
  by_cases hz : e ∈ Z
  · exact ⟨e, hz, hd⟩
  · have := q.red e he hz
    unfold redund at this
    rw [isDropAt_iff.mp hd] at this
    obtain ⟨f, hf, hfd, _⟩ := this
    exact ⟨f, hf, hfd⟩
theorem Sqz.noDrop (q : Sqz Y Z) {t : Key} (h : ∀ e ∈ Z, isDropAt t e = false) : ∀ e ∈ Y, isDropAt t e = false := by
  intro e he
  cases hd : isDropAt t e with
  | false => rfl
  | true =>
    obtain ⟨f, hf, hfd⟩ := q.drops ⟨e, he, hd⟩
    rw [h f hf] at hfd
    cases hfd
theorem Sqz.noDrop' (q : Sqz Y Z) {t : Key} (h : ∀ e ∈ Y, isDropAt t e = false) : ∀ e ∈ Z, isDropAt t e = false := fun e he => h e (q.sub e he)
theorem Sqz.keep (q : Sqz Y Z) (d : Deed) : (d ∈ Y ∧ keep Y d = true) ↔ (d ∈ Z ∧ NF.keep Z d = true) := by
  obtain ⟨p, a⟩ := d
  constructor
  · rintro ⟨hd, hk⟩
    have hz : (p, a) ∈ Z := by
      by_cases hz : (p, a) ∈ Z
      · exact hz
      · have hr := q.red _ hd hz
        cases a with
        | new x w => exact hr.elim
        | drop t =>
          obtain ⟨e, he, h1, h2⟩ := hr
          rw [(keep_drop q.sy hd).mp hk e (q.sub e he) h1] at h2
          cases h2
        | name t x =>
          obtain ⟨e, he, h1⟩ := hr
          rw [keep_name.mp hk e (q.sub e he)] at h1
          cases h1
        | worth t w =>
          obtain ⟨k1, k2⟩ := (keep_worth q.sy hd).mp hk
          rcases hr with ⟨e, he, h1⟩ | ⟨e, he, h1, h2⟩
          · rw [k1 e (q.sub e he)] at h1
            cases h1
          · rw [k2 e (q.sub e he) h1] at h2
            cases h2
    refine ⟨hz, ?_⟩
    cases a with
    | new x w => rfl
    | drop t => exact (keep_drop q.sz hz).mpr fun e he h => (keep_drop q.sy hd).mp hk e (q.sub e he) h
    | name t x => exact keep_name.mpr (q.noDrop' (keep_name.mp hk))
    | worth t w =>
      obtain ⟨k1, k2⟩ := (keep_worth q.sy hd).mp hk
      exact (keep_worth q.sz hz).mpr ⟨q.noDrop' k1, fun e he h => k2 e (q.sub e he) h⟩
  · rintro ⟨hz, hk⟩
    have hd := q.sub _ hz
    refine ⟨hd, ?_⟩
    cases a with
    | new x w => rfl
    | drop t =>
      refine (keep_drop q.sy hd).mpr fun e he h => ?_
      have hk' := (keep_drop q.sz hz).mp hk
      by_cases hez : e ∈ Z
      · exact hk' e hez h
      · have hr := q.red e he hez
        unfold redund at hr
        rw [isDropAt_iff.mp h] at hr
        obtain ⟨f, hf, hfd, hlt⟩ := hr
        cases z : ltK e.1 p with
        | false => rfl
        | true =>
          have := ltK_tr hlt z
          rw [hk' f hf hfd] at this
          cases this
    | name t x => exact keep_name.mpr (q.noDrop (keep_name.mp hk))
    | worth t w =>
      obtain ⟨k1, k2⟩ := (keep_worth q.sz hz).mp hk
      refine (keep_worth q.sy hd).mpr ⟨q.noDrop k1, fun e he h => ?_⟩
      by_cases hez : e ∈ Z
      · exact k2 e hez h
      · have hr := q.red e he hez
        unfold redund at hr
        obtain ⟨v, hv⟩ := isWorthAt_iff.mp h
        rw [hv] at hr
        rcases hr with ⟨f, hf, hfd⟩ | ⟨f, hf, hfw, hlt⟩
        · rw [k1 f hf] at hfd
          cases hfd
        · cases z : ltK p e.1 with
          | false => rfl
          | true =>
            have := ltK_tr z hlt
            rw [k2 f hf hfw] at this
            cases this
theorem uniq_srt {A B : List Deed} (ha : A.Pairwise fun a b => ltK a.1 b.1 = true) (hb : B.Pairwise fun a b => ltK a.1 b.1 = true) (h : ∀ d, d ∈ A ↔ d ∈ B) : A = B :=
  strict_unique (r := fun a b => ltK a.1 b.1 = true) (fun a h => by rw [ltK_irr] at h; cases h) (fun _ _ => ltK_asym) ha hb h
theorem Sqz.sq (q : Sqz Y Z) : sqM Y = sqM Z := by
  refine uniq_srt (q.sy.filter _) (q.sz.filter _) fun d => ?_
  unfold sqM
  rw [List.mem_filter, List.mem_filter]
  exact q.keep d
/-- of one kind nothing is lost -/
theorem Sqz.kind (q : Sqz Y Z) (p : Deed → Bool) (h : ∀ d ∈ Y, p d = true → redund Z d → False) : Y.filter p = Z.filter p := by
  refine uniq_srt (q.sy.filter _) (q.sz.filter _) fun d => ?_
  rw [List.mem_filter, List.mem_filter]
  constructor
  · rintro ⟨h1, h2⟩
    refine ⟨?_, h2⟩
    by_cases hz : d ∈ Z
    · exact hz
    · exact (h d h1 h2 (q.red d h1 hz)).elim
  · rintro ⟨h1, h2⟩
    exact ⟨q.sub d h1, h2⟩
theorem fm_of_filter {B : Type} (f : Deed → Option B) (p : Deed → Bool) (hp : ∀ d, p d = false → f d = none) : ∀ L : List Deed, L.filterMap f = (L.filter p).filterMap f
  | [] => rfl
  | d :: L => by
    rw [List.filterMap_cons, List.filter_cons]
    cases h : p d with
    | true => simp only [if_true, List.filterMap_cons]; rw [← fm_of_filter f p hp L]
    | false => simp only [Bool.false_eq_true, if_false]; rw [hp d h]; exact fm_of_filter f p hp L
theorem Sqz.news (q : Sqz Y Z) : Y.filterMap new0 = Z.filterMap new0 := by
  have hp : ∀ d : Deed, d.2.at.isNone = false → new0 d = none := by
    intro d h
    obtain ⟨p, a⟩ := d
    cases a <;> first | rfl | cases h
  rw [fm_of_filter new0 (fun d => d.2.at.isNone) hp, fm_of_filter new0 (fun d => d.2.at.isNone) hp Z]
  rw [q.kind (fun d => d.2.at.isNone) fun d _ h hr => ?_]
  obtain ⟨p, a⟩ := d
  cases a with
  | new x w => exact hr
  | _ => cases h
theorem any_drop (P : List Deed) (p : Key) : (atRow P p).any isDrop = P.any (isDropAt p) := by
  unfold atRow
  rw [List.any_filter]
  congr 1
  funext d
  obtain ⟨k, a⟩ := d
  cases a <;> simp [isDrop, isDropAt, Act.at]
def isNameAt (t : Key) (d : Deed) : Bool := match d.2 with
  | .name u _ => decide (u = t)
  | _ => false
theorem atRow_names (P : List Deed) (p : Key) : (atRow P p).filterMap nmOf = (P.filter (isNameAt p)).filterMap nmOf := by
  unfold atRow
  induction P with
  | nil => rfl
  | cons d P ih =>
    obtain ⟨k, a⟩ := d
    rw [List.filter_cons, List.filter_cons]
    cases a with
    | name u x =>
      by_cases e : u = p
      · subst e
        have e1 : decide ((Act.name u x).at = some u) = true := decide_eq_true rfl
        simp only [e1, isNameAt, decide_true, if_true]
        show (k, x) :: _ = (k, x) :: _
        rw [ih]
      · have e1 : decide ((Act.name u x).at = some p) = false := decide_eq_false fun z => e (Option.some.inj z)
        simp only [e1, isNameAt, decide_eq_false e, Bool.false_eq_true, if_false]
        exact ih
    | _ =>
      simp only [isNameAt, Bool.false_eq_true, if_false]
      split
      · rw [List.filterMap_cons]
        exact ih
      · exact ih
theorem atRow_worths (P : List Deed) (p : Key) : (atRow P p).filterMap woOf = (P.filter (isWorthAt p)).filterMap woOf := by
  unfold atRow
  induction P with
  | nil => rfl
  | cons d P ih =>
    obtain ⟨k, a⟩ := d
    rw [List.filter_cons, List.filter_cons]
    cases a with
    | worth u x =>
      by_cases e : u = p
      · subst e
        have e1 : decide ((Act.worth u x).at = some u) = true := decide_eq_true rfl
        simp only [e1, isWorthAt, decide_true, if_true]
        show x :: _ = x :: _
        rw [ih]
      · have e1 : decide ((Act.worth u x).at = some p) = false := decide_eq_false fun z => e (Option.some.inj z)
        simp only [e1, isWorthAt, decide_eq_false e, Bool.false_eq_true, if_false]
        exact ih
    | _ =>
      simp only [isWorthAt, Bool.false_eq_true, if_false]
      split
      · rw [List.filterMap_cons]
        exact ih
      · exact ih
theorem Sqz.lastW (q : Sqz Y Z) {t : Key} (h : ∀ e ∈ Y, isDropAt t e = false) : lastWorth Y t = lastWorth Z t := by
  have noD : ¬ ∃ e ∈ Z, isDropAt t e = true := fun ⟨e, he, hd⟩ => by rw [h e (q.sub e he)] at hd; cases hd
  have push : ∀ d, lastWorth Y t = some d → lastWorth Z t = some d := by
    intro d hd
    obtain ⟨h1, h2, h3⟩ := (lastWorth_iff q.sy).mp hd
    refine (lastWorth_iff q.sz).mpr ⟨?_, h2, fun e he hw => h3 e (q.sub e he) hw⟩
    by_cases hz : d ∈ Z
    · exact hz
    · have hr := q.red d h1 hz
      unfold redund at hr
      obtain ⟨v, hv⟩ := isWorthAt_iff.mp h2
      rw [hv] at hr
      rcases hr with z | ⟨f, hf, hfw, hlt⟩
      · exact (noD z).elim
      · rw [h3 f (q.sub f hf) hfw] at hlt
        cases hlt
  cases hY : lastWorth Y t with
  | some d => rw [push d hY]
  | none =>
    cases hZ : lastWorth Z t with
    | none => rfl
    | some d =>
      obtain ⟨h1, h2⟩ := lastWorth_some hZ
      unfold lastWorth at hY
      rw [List.getLast?_eq_none_iff] at hY
      have : d ∈ Y.filter (isWorthAt t) := List.mem_filter.mpr ⟨q.sub d h1, h2⟩
      rw [hY] at this
      cases this
theorem last_worth (P : List Deed) (p : Key) (w : Int) : (w :: (atRow P p).filterMap woOf).getLast (by simp) = (((lastWorth P p).bind woOf).getD w) := by
  have e : ∀ L : List Deed, (∀ d ∈ L, isWorthAt p d = true) → (w :: L.filterMap woOf).getLast (by simp) = (L.getLast?.bind woOf).getD w := by
    intro L
    induction L with
    | nil => intro _; rfl
    | cons d L ih =>
      intro h
      obtain ⟨v, hv⟩ := isWorthAt_iff.mp (h d List.mem_cons_self)
      have hwo : woOf d = some v := by unfold woOf; rw [hv]
      have e1 : (d :: L).filterMap woOf = v :: L.filterMap woOf := by rw [List.filterMap_cons, hwo]
      simp only [e1]
      rw [List.getLast_cons (List.cons_ne_nil _ _)]
      cases L with
      | nil => simp [hwo]
      | cons f L =>
        have ih' := ih fun x hx => h x (List.mem_cons_of_mem _ hx)
        obtain ⟨u, hu⟩ := isWorthAt_iff.mp (h f (by simp))
        have hwo2 : woOf f = some u := by unfold woOf; rw [hu]
        have e2 : (f :: L).filterMap woOf = u :: L.filterMap woOf := by rw [List.filterMap_cons, hwo2]
        simp only [e2] at ih' ⊢
        rw [List.getLast_cons (List.cons_ne_nil _ _)] at ih' ⊢
        rw [ih', List.getLast?_cons_cons]
  simp only [atRow_worths]
  exact e _ fun d hd => (List.mem_filter.mp hd).2
theorem RowSt.ext' {r s : RowSt} (h1 : r.key = s.key) (h2 : (r.since, r.name) = (s.since, s.name)) (h3 : r.worth = s.worth) (h4 : r.gone = s.gone) : r = s := by
  cases r
  cases s
  simp only [Prod.mk.injEq] at h1 h2 h3 h4
  simp [h1, h2.1, h2.2, h3, h4]
/-- the rows that are there are the same -/
theorem Sqz.row (q : Sqz Y Z) {r : RowSt} (hr : r.gone = false) : (Y.foldl step r).gone = (Z.foldl step r).gone ∧ ((Y.foldl step r).gone = false → Y.foldl step r = Z.foldl step r) := by
  rw [step_at r Y, step_at r Z]
  have hg : ((atRow Y r.key).foldl upd r).gone = ((atRow Z r.key).foldl upd r).gone := by
    rw [upd_gone, upd_gone, any_drop, any_drop]
    congr 1
    rw [Bool.eq_iff_iff, List.any_eq_true, List.any_eq_true]
    exact ⟨q.drops, fun ⟨e, he, hd⟩ => ⟨e, q.sub e he, hd⟩⟩
  refine ⟨hg, fun h0 => ?_⟩
  have hno : ∀ e ∈ Y, isDropAt r.key e = false := by
    rw [upd_gone, any_drop, hr, Bool.false_or] at h0
    intro e he
    cases z : isDropAt r.key e with
    | false => rfl
    | true => rw [List.any_eq_false] at h0; exact (h0 e he z).elim
  refine RowSt.ext' (by rw [upd_ky, upd_ky]) ?_ ?_ hg
  · rw [upd_name, upd_name, atRow_names, atRow_names]
    rw [q.kind (isNameAt r.key) fun d hd hp hrd => ?_]
    obtain ⟨p, a⟩ := d
    cases a with
    | name u x =>
      have : u = r.key := of_decide_eq_true hp
      subst this
      obtain ⟨e, he, hde⟩ := hrd
      rw [hno e (q.sub e he)] at hde
      cases hde
    | _ => cases hp
  · rw [upd_worth, upd_worth, last_worth, last_worth, q.lastW hno]
theorem Sqz.there (q : Sqz Y Z) : thereM Y = thereM Z := by
  unfold thereM rowsM
  rw [q.news]
  congr 1
  have hng : ∀ r ∈ Z.filterMap new0, r.gone = false := by
    intro r hr
    obtain ⟨d, _, e⟩ := List.mem_filterMap.mp hr
    obtain ⟨p, a⟩ := d
    cases a with
    | new x w => cases e; rfl
    | _ => cases e
  generalize Z.filterMap new0 = R at hng
  induction R with
  | nil => rfl
  | cons r R ih =>
    obtain ⟨h1, h2⟩ := q.row (hng r List.mem_cons_self)
    have ih' := ih fun x hx => hng x (List.mem_cons_of_mem _ hx)
    rw [List.map_cons, List.map_cons, List.filter_cons, List.filter_cons, ih', h1]
    cases hz : (Z.foldl step r).gone with
    | true => rfl
    | false => rw [h2 (by rw [h1, hz])]
end
end NF
end -- NfPl6

section -- NfWr4
set_option linter.all false
set_option autoImplicit false
set_option maxRecDepth 10000
/-! The walk of as_of and names_of. -/
namespace NF
open SrtO
local macro_rules | `(tactic| walk_at "nf") => `(tactic| simp only [↓ws_nil, ↓ws_cons, ↓ws_asg, ↓ws_unp, ↓ws_par, ↓ws_sat, ↓ws_ssub, ↓ws_dsub, ↓ws_exp, ↓ws_ret, ↓ws_retN, ↓ws_pass, ↓ws_cont, ↓ws_ife, ↓ws_raise, ↓ws_for, ↓goS_nx, ↓goS_ct, ↓goS_rt, ↓we_var, ↓we_int, ↓we_str, ↓we_bl, ↓we_non, ↓we_neg, ↓we_glb, ↓we_tup, ↓we_lst, ↓we_dctT, ↓we_dctK, ↓we_bin, ↓we_cmp, ↓we_chain, ↓we_isn, ↓we_andv, ↓we_orv, ↓wand1, ↓wand2, ↓wor1, ↓wor2, ↓we_notv, ↓we_ife, ↓we_idx, ↓we_dix, ↓we_slc, ↓we_rev, ↓we_att, ↓we_call, ↓we_mk, ↓we_meth, ↓we_bi, ↓we_bm, ↓we_lenset, ↓we_sortset, ↓we_sortk, ↓we_sortf, ↓we_sortkeys, ↓we_listkeys, ↓we_isTy, ↓we_isEx, ↓we_lc, ↓wo_none, ↓wo_some, ↓wes_nil, ↓wes_cons, ↓wc_none, ↓wc_some, ↓wb_nm, ↓wt_ex, ↓wt_not, ↓wt_and, ↓wt_or, ↓wt_ife, ↓wtand_nil, ↓wtand_cons, ↓wtor_nil, ↓wtor_cons, ↓wtr_bl, ↓wtr_int, ↓w_turn, ↓w_body, ↓ifB_bl, ↓wp_ret, ↓wp_orS, ↓wp_bnd, List.getElem?_cons_zero, List.getElem?_cons_succ, Option.join_some, List.set_cons_zero, List.set_cons_succ, List.map_cons, List.map_nil, List.cons_append, List.nil_append, List.length_cons, List.length_nil, List.replicate_succ, List.replicate_zero, wipeE, cmp_le, cmp_lt, cmp_gt, cmp_ge, cmp_eqS, cmp_neS, cmp_eqI, cmp_neI, add_int, sub_int, len_tup, list_tup, ↓wk_seqT, ↓wk_seqS, ↓lv_lst, ↓lv_fix, isN, idx_t0, idx_t1, idx_t2, idx_t3, idx_t4, slc_t2, intO_2, Nat.reduceSub, Nat.reduceAdd, Bool.false_eq_true, if_true, if_false, Bool.not_true, Bool.not_false, Wk.items, decide_eq_true_eq, Bool.not_eq_true', decide_eq_false_iff_not, List.cons.injEq, Nat.reduceEqDiff, reduceCtorEq, and_false, false_and, and_true, true_and, decide_true, decide_false, not_true_eq_false, not_false_eq_true, Int.cast_ofNat_Int, Int.reduceLT, Int.reduceLE, Int.reduceEq, Int.reduceNe, Option.isSome_some, Option.isSome_none, sNew, sName, sWorth, sDrop, ne_eq, ↓wb_t2, ↓wb_t3, ↓wb_t4])
theorem cut_from {α : Type} (xs : List α) (j : Nat) : cut xs (some (j : Int)) none = xs.drop j := by
  unfold cut sIx
  dsimp only
  rw [if_neg (by omega)]
  by_cases h : j ≤ xs.length
  · rw [show min (j : Int).toNat xs.length = j by omega]
    exact List.take_of_length_le (by rw [List.length_drop]; omega)
  · rw [show min (j : Int).toNat xs.length = xs.length by omega, List.drop_of_length_le (Nat.le_refl _), List.drop_of_length_le (by omega)]
    simp
theorem cut_to {α : Type} (xs : List α) (j : Nat) : cut xs none (some (j : Int)) = xs.take j := by
  unfold cut sIx
  dsimp only
  rw [if_neg (by omega), List.drop_zero, Nat.sub_zero]
  by_cases h : j ≤ xs.length
  · rw [show min (j : Int).toNat xs.length = j by omega]
  · rw [show min (j : Int).toNat xs.length = xs.length by omega, List.take_of_length_le (Nat.le_refl _), List.take_of_length_le (by omega)]
theorem IsOrd.self {P L : List Deed} (o : IsOrd P L) : IsOrd P P := ⟨o.srt, fun _ => Iff.rfl⟩
theorem IsOrd.filt {P L : List Deed} (o : IsOrd P L) (p : Deed → Bool) : IsOrd (P.filter p) (L.filter p) := ⟨o.srt.filter p, fun d => by rw [List.mem_filter, List.mem_filter, o.mem d]⟩
theorem IsOrd.upTo {P L : List Deed} (o : IsOrd P L) (j : Nat) : IsOrd (P.take j) (P.take j) := ⟨o.srt.sublist (List.take_sublist j P), fun _ => Iff.rfl⟩
theorem pure7_table (P : List Deed) : (tableM P).all (pureN 7) = true := by
  rw [List.all_eq_true]
  intro d hd
  have := (sort_perm _).mem_iff.mp hd
  obtain ⟨z, _, rfl⟩ := List.mem_map.mp this
  rfl
/-- what is shown for a row -/
def shownOf (P : List Deed) (q : Key) : Option (List Nat) := ((namedM P).filterMap fun z => if z.2.key = q then some z.1 else none).head?
def nmsAt (P : List Deed) (q : Key) (s : Option (List Nat) × List (Key × Option (List Nat))) (i : Nat) : Option (List Nat) × List (Key × Option (List Nat)) :=
  (shownOf (P.take (i + 1)) q, if shownOf (P.take (i + 1)) q = s.1 then s.2 else s.2 ++ [((P.map (·.1)).getD i (0, 0), shownOf (P.take (i + 1)) q)])
def namesF (P : List Deed) (q : Key) (n : Nat) : Option (List Nat) × List (Key × Option (List Nat)) := (List.range n).foldl (nmsAt P q) (none, [])
theorem namesF_succ (P : List Deed) (q : Key) (n : Nat) : namesF P q (n + 1) = nmsAt P q (namesF P q n) n := by
  unfold namesF
  rw [List.range_succ, List.foldl_append]
  rfl
theorem namesF_len (P : List Deed) (q : Key) : ∀ n, (namesF P q n).2.length ≤ n
  | 0 => Nat.le_refl _
  | n + 1 => by
    rw [namesF_succ]
    have := namesF_len P q n
    unfold nmsAt
    dsimp only
    split
    · omega
    · rw [List.length_append]; simp; omega
theorem namesF_last (P : List Deed) (q : Key) : ∀ n, (namesF P q n).1 = ((namesF P q n).2.getLast?.bind (·.2))
  | 0 => rfl
  | n + 1 => by
    rw [namesF_succ]
    have ih := namesF_last P q n
    unfold nmsAt
    dsimp only
    split
    · rename_i e
      rw [e]
      exact ih
    · simp
def nmsD (e : Key × Option (List Nat)) : D := .tup [pairD e.1, optS e.2]
section
variable {Δ : String → Option Fn} {k n m : Nat} {S : Store} {Q : D → Store → Prop} {X : Ex → Store → Prop}
theorem ne_opt {x l : Option (List Nat)} : wp (cmpM .ne (optS x) (optS l)) S Q X = Q (.bl (decide (x ≠ l))) S := by
  have tvo : ∀ o : Option (List Nat), tv S 8 (optS o) = some (match o with | none => .non | some z => .str z) := fun o => by cases o <;> rfl
  rw [wp_neV (tvo x) (tvo l)]
  congr 2
  apply decide_eq_decide.mpr
  cases x <;> cases l <;> simp
theorem idx_deed0 (d : Deed) : idxM (dD d) (.int 0) = ret (.int d.1.1) := idx_t0 _ _
theorem as_of_ok (ha : Δ "as_of" = some TR.fn_as_of) (ht : Δ "table" = some TR.fn_table) (hΔ : HRows Δ) {P L : List Deed} (g : Good S n P L) {st : Int} (h : ∀ S' m, Sub [] S S' → S.length ≤ m → S'[m]? = some (.lst (tableM (P.filter fun d => decide (d.1.1 ≤ st)))) → Q (.ref m) S') : wp (callF Δ (k + 6) "as_of" [.ref n, .int st]) S Q X := by
  rw [wp_call ha rfl]
  unfold TR.fn_as_of
  walk_at "nf"
  refine look_ok hΔ.toHDeeds g.b g.l g.ok g.o.fnl g.sz fun S1 s1 => ?_
  have g1 := g.sub s1
  try walk_at "nf"
  rw [wk_seqL g1.l]
  try walk_at "nf"
  refine wp_gather0 L (fun d => if decide (d.1.1 ≤ st) then some (dD d) else none) g1.l (fun d hd => ?_) ?_
  · walk_at "nf"
    rw [idx_deed0]
    try walk_at "nf"
    by_cases e : d.1.1 ≤ st <;> simp [e]
  have hlf := List.length_filter_le (fun d : Deed => decide (d.1.1 ≤ st)) L
  have hsz := g.sz
  rw [fm_filter, if_pos (by rw [List.length_map]; unfold line; omega)]
  have g2 : Good (S1 ++ [O.lst ((L.filter fun d => decide (d.1.1 ≤ st)).map dD)]) S1.length (P.filter fun d => decide (d.1.1 ≤ st)) (L.filter fun d => decide (d.1.1 ≤ st)) := ⟨g.o.filt _, fun d hd => g.ok d (List.mem_filter.mp hd).1, by omega, g1.b.sub (Sub.app (W := []) _ _) (by simp), .inl (get_new _ _)⟩
  refine table_ok ht hΔ g2 fun S' m s l ht => ?_
  have hl1 := s1.1
  have hl2 : S1.length ≤ m := Nat.le_trans (by simp) l
  exact h S' m ((s1.trans (Sub.app _ _)).trans s) (by omega) ht
theorem filter_key {P : List Deed} {q : Key} {zs : List (List Nat × Nat × RowSt)} (h : zs.map (fun z => (z.1, z.2.2)) = namedM P) : (zs.filterMap fun z => if z.2.2.key = q then some z.1 else none) = (namedM P).filterMap fun z => if z.2.key = q then some z.1 else none := by
  rw [← h, List.filterMap_map]
  rfl
theorem fm_if {A B C : Type} (f : A → Option B) (g : B → C) (xs : List A) : (xs.filterMap fun x => (f x).map g) = (xs.filterMap f).map g := fm_opt f g xs
theorem names_of_ok (ha : Δ "names_of" = some TR.fn_names_of) (hΔ : HRows Δ) {P L : List Deed} (g : Good S n P L) (q : Key) (h : ∀ S' m, Sub [] S S' → S.length ≤ m → S'[m]? = some (.lst ((namesF P q P.length).2.map nmsD)) → Q (.ref m) S') : wp (callF Δ (k + 5) "names_of" [.ref n, pairD q]) S Q X := by
  rw [wp_call ha rfl]
  unfold TR.fn_names_of
  walk_at "nf"
  refine look_ok hΔ.toHDeeds g.b g.l g.ok g.o.fnl g.sz fun S1 s1 => ?_
  have g1 := g.sub s1
  try walk_at "nf"
  have g2 := g1.sub (Sub.app S1 [.lst []])
  refine in_order_ok hΔ.toHDeeds g2.o g2.l g2.sz fun S2 r s2 hrl hr => ?_
  have g3 := g2.sub s2
  have hrS : S1.length < r := by simp at hrl; omega
  have hf2 := s2.get0 (get_new S1 (.lst []))
  have hP := g.hp
  try walk_at "nf"
  rw [wp_len (.inl hr), List.length_map]
  try walk_at "nf"
  rw [wk_rng1 (small_of (by omega) (by omega))]
  try walk_at "nf"
  rw [show ((P.length : Nat) : Int).toNat = P.length by omega]
  refine wpS_forM (List.range P.length) (fun done ρ S' => ∃ d5 d6 d7, ρ = [some (.ref n), some (pairD q), some (.ref S1.length), some (.ref r), some (optS (namesF P q done.length).1), d5, d6, d7, none] ∧ Sub [] S S' ∧ S'[r]? = some (.lst (P.map dD)) ∧ S'[S1.length]? = some (.lst ((namesF P q done.length).2.map nmsD))) ?_ (fun _ _ _ _ => trivial) ?_ ?_
  · exact ⟨none, none, none, rfl, (s1.trans (Sub.app _ _)).trans s2, hr, hf2⟩
  · rintro done i rest ρ S3 e ⟨d5, d6, d7, hρ, s3, hr3, hf3⟩
    subst hρ
    have hi : i = done.length := by
      have h1 := congrArg (fun l => l[done.length]?) e
      simp only [List.getElem?_append_right (Nat.le_refl _), Nat.sub_self, List.getElem?_cons_zero] at h1
      rw [List.getElem?_range] at h1
      · exact (Option.some.inj h1).symm
      · have := congrArg List.length e
        rw [List.length_range, List.length_append, List.length_cons] at this
        omega
    have hiP : i < P.length := by
      have := congrArg List.length e
      rw [List.length_range, List.length_append, List.length_cons] at this
      omega
    rw [List.length_append, List.length_cons, List.length_nil, namesF_succ, ← hi]
    rw [← hi] at hf3
    generalize hst : namesF P q i = st at hf3
    have hlenF : st.2.length ≤ i := by rw [← hst]; exact namesF_len P q i
    -- STEP
    walk_at "nf"
    have hrl := get_lt hr3
    rw [show (0 + (i : Int) + 1) = ((i + 1 : Nat) : Int) by omega, intO_int (small_of (by omega) (by omega))]
    try walk_at "nf"
    rw [wp_slcL (.inl hr3), cut_to, ← List.map_take]
    have sa : Sub [] S3 (S3 ++ [O.lst ((P.take (i + 1)).map dD)]) := Sub.app _ _
    have htk : (S3 ++ [O.lst ((P.take (i + 1)).map dD)])[S3.length]? = some (.lst ((P.take (i + 1)).map dD)) := get_new _ _
    generalize (S3 ++ [O.lst ((P.take (i + 1)).map dD)]) = Sa at sa htk
    have htl : (P.take (i + 1)).length ≤ P.length := by rw [List.length_take]; omega
    refine named_ok hΔ (g.o.upTo (i + 1)) (fun d hd => g.okP d (List.mem_of_mem_take hd)) (.inl htk) (by omega) (by omega) fun S4 l zs s4 hl4 hz hzr hzn => ?_
    have zlen := named_len hzn
    try walk_at "nf"
    rw [wk_seqL (.inl hz)]
    try walk_at "nf"
    refine wp_gather0 zs (fun z => (if z.2.2.key = q then some z.1 else none).map D.str) (.inl hz) (fun z hzm => ?_) ?_
    · walk_at "nf"
      rw [wp_attI (hzr z hzm) rfl, cmp_eqK]
      try walk_at "nf"
      by_cases e1 : z.2.2.key = q <;> simp [e1]
    rw [fm_opt, filter_key hzn]
    have hFl := List.length_filterMap_le (fun z : List Nat × RowSt => if z.2.key = q then some z.1 else none) (namedM (P.take (i + 1)))
    have hnl : (namedM (P.take (i + 1))).length ≤ (P.take (i + 1)).length := named_len (f := id) (by simp)
    rw [if_pos (by rw [List.length_map]; unfold line; omega), wtr_ref, wp_lst1 (get_new _ _)]
    have hsh : shownOf (P.take (i + 1)) q = ((namedM (P.take (i + 1))).filterMap fun z => if z.2.key = q then some z.1 else none).head? := rfl
    generalize ((namedM (P.take (i + 1))).filterMap fun z => if z.2.key = q then some z.1 else none) = F at hsh
    have s34 : Sub [] S3 (S4 ++ [O.lst (F.map D.str)]) := sa.trans (s4.trans (Sub.app _ _))
    have hF := get_new S4 (.lst (F.map D.str))
    generalize (S4 ++ [O.lst (F.map D.str)]) = S5 at s34 hF
    have s5 := s3.trans s34
    have hr5 := s34.get0 hr3
    have hf5 := s34.get0 hf3
    have hidx : ∀ {Q : D → Store → Prop} {X : Ex → Store → Prop}, wp (idxM (.ref r) (.int (0 + (i : Int)))) S5 Q X = Q (dD (P[i]'hiP)) S5 := by
      intro Q X
      rw [show (0 + (i : Int)) = ((i : Nat) : Int) by omega, wp_idxL (.inl hr5), ix_nat (by rw [List.length_map]; exact hiP)]
      show wp (orBad ((P.map dD)[i]?)) S5 Q X = _
      rw [List.getElem?_map, List.getElem?_eq_getElem hiP]
      exact wp_orS
    have hkey : (P.map (·.1)).getD i (0, 0) = (P[i]'hiP).1 := by
      rw [List.getD_eq_getElem?_getD, List.getElem?_map, List.getElem?_eq_getElem hiP]
      rfl
    have fin : ∀ (x : Option (List Nat)) (R : Store → Prop), x = shownOf (P.take (i + 1)) q → (∀ S7, Sub [] S S7 → S7[r]? = some (.lst (P.map dD)) → S7[S1.length]? = some (.lst ((nmsAt P q st i).2.map nmsD)) → R S7) → wp (cmpM .ne (optS x) (optS st.1)) S5 (fun d S6 => wp (truthM d) S6 (fun b S7 => if b = true then wp (bmTy .append (.ref S1.length)) S7 (fun _ S8 => wp (idxM (.ref r) (.int (0 + (i : Int)))) S8 (fun y S9 => wp (slcM y none (some 2)) S9 (fun z S10 => wp (bmM .append (.ref S1.length) [.tup [z, optS x]]) S10 (fun _ S11 => R S11) X) X) X) X else R S7) X) X := by
      intro x R hx hR
      rw [ne_opt, wtr_bl]
      unfold nmsAt at hR
      dsimp only at hR
      rw [← hx, hkey] at hR
      by_cases e1 : x = st.1
      · rw [if_neg (by simpa using e1)]
        rw [if_pos e1] at hR
        exact hR S5 s5 hr5 hf5
      · rw [if_pos (by simpa using e1), bmTy_lst rfl (.inl hf5), hidx, slc_dD, wp_ret, wp_append hf5 (by rw [List.length_map]; unfold line; omega)]
        rw [if_neg e1] at hR
        refine hR _ (s5.putNew s1.1 _) ?_ ?_
        · rw [List.getElem?_set_ne (Nat.ne_of_lt hrS)]
          exact hr5
        · rw [get_set (get_lt hf5), List.map_append]
          rfl
    have hn1 : (nmsAt P q st i).1 = shownOf (P.take (i + 1)) q := rfl
    try walk_at "nf"
    cases F with
    | nil =>
      rw [if_neg (by simp)]
      refine fin none _ hsh.symm fun S7 a b c => ?_
      exact ⟨_, _, _, ⟨by rw [hn1, hsh]; rfl, rfl, rfl, rfl⟩, a, b, c⟩
    | cons x F =>
      rw [if_pos (by simp), show (0 : Int) = ((0 : Nat) : Int) from rfl, wp_idxL (.inl hF), ix_nat (by simp)]
      show wp (orBad (some (D.str x))) S5 _ _
      rw [wp_orS]
      refine fin (some x) _ hsh.symm fun S7 a b c => ?_
      exact ⟨_, _, _, ⟨by rw [hn1, hsh]; rfl, rfl, rfl, rfl⟩, a, b, c⟩
  · rintro ρ S3 ⟨d5, d6, d7, rfl, s3, hr3, hf3⟩
    walk_at "nf"
    rw [List.length_range] at hf3
    exact h S3 S1.length s3 s1.1 hf3
end
end NF
end -- NfWr4

section -- NfWr5
set_option linter.all false
set_option autoImplicit false
set_option maxRecDepth 10000
/-! The walk of squeezed. -/
namespace NF
open SrtO
local macro_rules | `(tactic| walk_at "nf") => `(tactic| simp only [↓ws_nil, ↓ws_cons, ↓ws_asg, ↓ws_unp, ↓ws_par, ↓ws_sat, ↓ws_ssub, ↓ws_dsub, ↓ws_exp, ↓ws_ret, ↓ws_retN, ↓ws_pass, ↓ws_cont, ↓ws_ife, ↓ws_raise, ↓ws_for, ↓goS_nx, ↓goS_ct, ↓goS_rt, ↓we_var, ↓we_int, ↓we_str, ↓we_bl, ↓we_non, ↓we_neg, ↓we_glb, ↓we_tup, ↓we_lst, ↓we_dctT, ↓we_dctK, ↓we_bin, ↓we_cmp, ↓we_chain, ↓we_isn, ↓we_andv, ↓we_orv, ↓wand1, ↓wand2, ↓wor1, ↓wor2, ↓we_notv, ↓we_ife, ↓we_idx, ↓we_dix, ↓we_slc, ↓we_rev, ↓we_att, ↓we_call, ↓we_mk, ↓we_meth, ↓we_bi, ↓we_bm, ↓we_lenset, ↓we_sortset, ↓we_sortk, ↓we_sortf, ↓we_sortkeys, ↓we_listkeys, ↓we_isTy, ↓we_isEx, ↓we_lc, ↓wo_none, ↓wo_some, ↓wes_nil, ↓wes_cons, ↓wc_none, ↓wc_some, ↓wb_nm, ↓wt_ex, ↓wt_not, ↓wt_and, ↓wt_or, ↓wt_ife, ↓wtand_nil, ↓wtand_cons, ↓wtor_nil, ↓wtor_cons, ↓wtr_bl, ↓wtr_int, ↓w_turn, ↓w_body, ↓ifB_bl, ↓wp_ret, ↓wp_orS, ↓wp_bnd, List.getElem?_cons_zero, List.getElem?_cons_succ, Option.join_some, List.set_cons_zero, List.set_cons_succ, List.map_cons, List.map_nil, List.cons_append, List.nil_append, List.length_cons, List.length_nil, List.replicate_succ, List.replicate_zero, wipeE, cmp_le, cmp_lt, cmp_gt, cmp_ge, cmp_eqS, cmp_neS, cmp_eqI, cmp_neI, add_int, sub_int, len_tup, list_tup, ↓wk_seqT, ↓wk_seqS, ↓lv_lst, ↓lv_fix, isN, idx_t0, idx_t1, idx_t2, idx_t3, idx_t4, slc_t2, intO_2, Nat.reduceSub, Nat.reduceAdd, Bool.false_eq_true, if_true, if_false, Bool.not_true, Bool.not_false, Wk.items, decide_eq_true_eq, Bool.not_eq_true', decide_eq_false_iff_not, List.cons.injEq, Nat.reduceEqDiff, reduceCtorEq, and_false, false_and, and_true, true_and, decide_true, decide_false, not_true_eq_false, not_false_eq_true, Int.cast_ofNat_Int, Int.reduceLT, Int.reduceLE, Int.reduceEq, Int.reduceNe, Option.isSome_some, Option.isSome_none, sNew, sName, sWorth, sDrop, ne_eq, ↓wb_t2, ↓wb_t3, ↓wb_t4])
section
variable {Δ : String → Option Fn} {k n m : Nat} {S : Store} {Q : D → Store → Prop} {X : Ex → Store → Prop}
theorem wp_bmTyD {b : Bm} {n : Nat} {kvs : List ((Int × Int) × D)} {Q : Unit → Store → Prop} (hb : b = .get ∨ b = .popD) (h : S[n]? = some (.dct kvs)) : wp (bmTy b (.ref n)) S Q X = Q () S := by
  have e : bmTy b (.ref n) = isDctM (.ref n) := by rcases hb with rfl | rfl <;> rfl
  rw [e]
  show wp (bnd (obj n) _) S Q X = _
  rw [wp_bnd, wp_obj h]
  exact wp_ret
theorem wp_getK {n : Nat} {kvs : List ((Int × Int) × D)} (h : S[n]? = some (.dct kvs)) (t : Key) (d : D) : wp (bmM .get (.ref n) [pairD t, d]) S Q X = Q ((kvGet kvs t).getD d) S := by
  show wp (bnd (obj n) _) S Q X = _
  rw [wp_bnd, wp_obj h]
  show wp (bnd (orBad (asPair (pairD t))) fun p => ret ((kvGet kvs p).getD d)) S Q X = _
  rw [asPair_pairD, wp_bnd, wp_orS, wp_ret]
theorem wp_mulB {n : Nat} {x : D} (h : S[n]? = some (.lst [x])) (b : Bool) : wp (binD .mul (.ref n) (.int (if b then 1 else 0))) S Q X = Q (.ref S.length) (S ++ [.lst (if b then [x] else [])]) := by
  show wp (bnd (obj n) _) S Q X = _
  rw [wp_bnd, wp_obj h]
  cases b with
  | true =>
    show wp (if (small 1 && decide (([x] : List D).length * (1 : Int).toNat ≤ line)) = true then new (.lst (List.replicate (1 : Int).toNat [x]).flatten) else bad) S Q X = _
    rw [if_pos (by rw [small_of (by omega) (by omega)]; simp; unfold line; omega), wp_new]
    rfl
  | false =>
    show wp (if (small 0 && decide (([x] : List D).length * (0 : Int).toNat ≤ line)) = true then new (.lst (List.replicate (0 : Int).toNat [x]).flatten) else bad) S Q X = _
    rw [if_pos (by rw [small_of (by omega) (by omega)]; simp), wp_new]
    rfl
theorem firstDrop_snoc (P : List Deed) (d : Deed) (t : Key) : firstDrop (P ++ [d]) t = (firstDrop P t).or (if isDropAt t d then some d else none) := by
  unfold firstDrop
  rw [List.find?_append]
  congr 1
  rw [List.find?_cons]
  cases isDropAt t d <;> rfl
theorem lastWorth_snoc (P : List Deed) (d : Deed) (t : Key) : lastWorth (P ++ [d]) t = if isWorthAt t d then some d else lastWorth P t := by
  unfold lastWorth
  rw [List.filter_append, List.filter_cons]
  cases isWorthAt t d <;> simp
/-- the dicts of first drops and last worths -/
structure DWAt (S : Store) (a b : Nat) (P : List Deed) : Prop where
  d : ∃ kvs, S[a]? = some (.dct kvs) ∧ kvs.length ≤ P.length ∧ ∀ t, kvGet kvs t = (firstDrop P t).map dD
  w : ∃ kvs, S[b]? = some (.dct kvs) ∧ kvs.length ≤ P.length ∧ ∀ t, kvGet kvs t = (lastWorth P t).map dD
theorem DWAt.sub {S' : Store} {a b : Nat} {P : List Deed} {W : List Nat} (h : DWAt S a b P) (s : Sub W S S') (ha : a ∉ W) (hb : b ∉ W) : DWAt S' a b P := ⟨let ⟨k, x, y⟩ := h.d; ⟨k, s.get x ha, y⟩, let ⟨k, x, y⟩ := h.w; ⟨k, s.get x hb, y⟩⟩
theorem squeezed_ok (hq : Δ "squeezed" = some TR.fn_squeezed) (hΔ : HDeeds Δ) {P L : List Deed} (g : Good S n P L) (h : ∀ S' m, Sub [] S S' → S.length ≤ m → S'[m]? = some (.lst ((sqM P).map dD)) → Q (.ref m) S') : wp (callF Δ (k + 4) "squeezed" [.ref n]) S Q X := by
  have hP := g.hp
  rw [wp_call hq rfl]
  unfold TR.fn_squeezed
  walk_at "nf"
  refine look_ok hΔ g.b g.l g.ok g.o.fnl g.sz fun S1 s1 => ?_
  try walk_at "nf"
  have s12 : Sub [] S1 (S1 ++ [O.dct []] ++ [O.dct []]) := (Sub.app _ _).trans (Sub.app _ _)
  have hdw : DWAt (S1 ++ [O.dct []] ++ [O.dct []]) S1.length (S1 ++ [O.dct []]).length [] := ⟨⟨[], (Sub.app (W := []) _ _).get0 (get_new _ _), Nat.le_refl _, fun _ => rfl⟩, ⟨[], get_new _ _, Nat.le_refl _, fun _ => rfl⟩⟩
  have hab : (S1 ++ [O.dct []]).length = S1.length + 1 := by simp
  generalize (S1 ++ [O.dct []]).length = bb at hdw hab
  generalize (S1 ++ [O.dct []] ++ [O.dct []]) = S2 at s12 hdw
  have g2 := (g.sub s1).sub s12
  have l2 : bb < S2.length := by
    obtain ⟨_, h, _⟩ := hdw.w
    exact get_lt h
  refine in_order_ok hΔ g2.o g2.l g2.sz fun S3 r s3 hr hro => ?_
  have s13 := s12.trans s3
  have hdw3 := hdw.sub s3 (by simp) (by simp)
  rw [wk_seqL (.inl hro)]
  try walk_at "nf"
  refine wpS_forM P (fun done ρ S' => ∃ d3, ρ = [some (.ref n), some (.ref S1.length), some (.ref bb), d3, none] ∧ Sub [] S1 S' ∧ S'[r]? = some (.lst (P.map dD)) ∧ DWAt S' S1.length bb done) ?_ ?_ ?_ ?_
  · exact ⟨none, rfl, s13, hro, hdw3⟩
  · rintro done ρ S' ⟨d3, rfl, _, hr', _⟩
    exact .inl hr'
  · rintro done d rest ρ S4 e ⟨d3, rfl, s4, hr4, hdw4⟩
    have hdl : done.length < 64 := by
      have := congrArg List.length e
      rw [List.length_append, List.length_cons] at this
      omega
    obtain ⟨⟨kv1, a1, a2, a3⟩, ⟨kv2, b1, b2, b3⟩⟩ := id hdw4
    have same : (∀ t, isDropAt t d = false) → (∀ t, isWorthAt t d = false) → DWAt S4 S1.length bb (done ++ [d]) := by
      intro h1 h2
      refine ⟨⟨kv1, a1, by rw [List.length_append]; omega, fun t => ?_⟩, ⟨kv2, b1, by rw [List.length_append]; omega, fun t => ?_⟩⟩
      · rw [firstDrop_snoc, h1 t, a3 t]
        simp
      · rw [lastWorth_snoc, h2 t, b3 t]
        simp
    obtain ⟨p, a⟩ := d
    cases a with
    | new x w =>
      rw [dD_new]
      walk_at "nf"
      exact ⟨_, rfl, s4, hr4, same (fun _ => rfl) fun _ => rfl⟩
    | name t x =>
      rw [dD_name]
      walk_at "nf"
      exact ⟨_, rfl, s4, hr4, same (fun _ => rfl) fun _ => rfl⟩
    | worth t w =>
      rw [dD_worth]
      walk_at "nf"
      rw [wp_dsubK b1 (by unfold line; omega)]
      refine ⟨_, rfl, s4.putNew (by omega) _, ?_, ⟨⟨kv1, ?_, by rw [List.length_append]; omega, fun u => ?_⟩, ⟨_, get_set (get_lt b1) _, ?_, fun u => ?_⟩⟩⟩
      · rw [List.getElem?_set_ne (by omega)]
        exact hr4
      · rw [List.getElem?_set_ne (by omega)]
        exact a1
      · rw [firstDrop_snoc, a3 u]
        simp [isDropAt]
      · have := kvPut_len (kvs := kv2) (k := t) (v := dD (p, .worth t w))
        rw [List.length_append]
        exact Nat.le_trans this (by simp; omega)
      · rw [kvGet_put, lastWorth_snoc, b3 u]
        by_cases z : u = t
        · subst z
          simp [isWorthAt]
          rfl
        · have : isWorthAt u (p, Act.worth t w) = false := decide_eq_false (Ne.symm z)
          rw [if_neg z, this]
          rfl
    | drop t =>
      rw [dD_drop]
      walk_at "nf"
      rw [wp_bmTyD (.inl rfl) a1]
      try walk_at "nf"
      rw [wp_getK a1]
      try walk_at "nf"
      rw [wp_dsubK a1 (by unfold line; omega)]
      refine ⟨_, rfl, s4.putNew (Nat.le_refl _) _, ?_, ⟨⟨_, get_set (get_lt a1) _, ?_, fun u => ?_⟩, ⟨kv2, ?_, by rw [List.length_append]; omega, fun u => ?_⟩⟩⟩
      · rw [List.getElem?_set_ne (by omega)]
        exact hr4
      · have := kvPut_len (kvs := kv1) (k := t) (v := (kvGet kv1 t).getD (D.tup [D.int p.1, D.int p.2, D.str [100, 114, 111, 112], pairD t]))
        rw [List.length_append]
        exact Nat.le_trans this (by simp; omega)
      · rw [kvGet_put, firstDrop_snoc, a3 u]
        by_cases z : u = t
        · subst z
          rw [if_pos rfl, a3 u]
          have : isDropAt u (p, Act.drop u) = true := decide_eq_true rfl
          rw [this]
          cases firstDrop done u with
          | none => rfl
          | some f => rfl
        · have : isDropAt u (p, Act.drop t) = false := decide_eq_false (Ne.symm z)
          rw [if_neg z, this]
          simp
      · rw [List.getElem?_set_ne (by omega)]
        exact b1
      · rw [lastWorth_snoc, b3 u]
        rfl
  · rintro ρ S4 ⟨d3, rfl, s4, hr4, hdw4⟩
    walk_at "nf"
    -- SECOND
    have s05 : Sub [] S4 (S4 ++ [O.lst []]) := Sub.app _ _
    have hfo := get_new S4 (.lst [])
    have hdw5 := hdw4.sub s05 (by simp) (by simp)
    have g5 := (g2.sub s3 |>.l)
    have hb4 : bb < S4.length := by obtain ⟨_, h, _⟩ := hdw4.w; exact get_lt h
    have s14 := s4
    have gS : Good S4 n P L := (g.sub s1).sub s4
    generalize (S4 ++ [O.lst []]) = S5 at s05 hfo hdw5
    refine in_order_ok hΔ gS.o (gS.sub s05).l gS.sz fun S6 r2 s6 hr2 hro6 => ?_
    have s46 := s05.trans s6
    have hfr : S4.length < r2 := by have := get_lt hfo; omega
    rw [wk_seqL (.inl hro6)]
    try walk_at "nf"
    refine wpS_forM P (fun done ρ S' => ∃ d3, ρ = [some (.ref n), some (.ref S1.length), some (.ref bb), d3, some (.ref S4.length)] ∧ Sub [] S4 S' ∧ S'[r2]? = some (.lst (P.map dD)) ∧ S'[S4.length]? = some (.lst ((done.filter (keep P)).map dD))) ?_ ?_ ?_ ?_
    · exact ⟨d3, rfl, s46, hro6, s6.get0 hfo⟩
    · rintro done ρ S' ⟨d3, rfl, _, hr', _⟩
      exact .inl hr'
    · rintro done d rest ρ S7 e ⟨d3, rfl, s7, hr7, hf7⟩
      have hdP : d ∈ P := by rw [e]; simp
      have hdl : done.length < 64 := by
        have := congrArg List.length e
        rw [List.length_append, List.length_cons] at this
        omega
      have hdw7 := hdw4.sub s7 (by simp) (by simp)
      obtain ⟨⟨kv1, a1, a2, a3⟩, ⟨kv2, b1, b2, b3⟩⟩ := hdw7
      have hfl := List.length_filter_le (keep P) done
      have yes : ∀ {X : Ex → Store → Prop} (R : Store → Prop) (v : D), v = dD d → keep P d = true → (∀ S8, Sub [] S4 S8 → S8[r2]? = some (.lst (P.map dD)) → S8[S4.length]? = some (.lst (((done ++ [d]).filter (keep P)).map dD)) → R S8) → wp (bmTy .append (.ref S4.length)) S7 (fun _ S8 => wp (bmM .append (.ref S4.length) [v]) S8 (fun _ S9 => R S9) X) X := by
        intro X R v hv hk hR
        rw [bmTy_lst rfl (.inl hf7), wp_append hf7 (by rw [List.length_map]; unfold line; omega)]
        refine hR _ (s7.putNew (Nat.le_refl _) _) ?_ ?_
        · rw [List.getElem?_set_ne (Nat.ne_of_lt hfr)]
          exact hr7
        · rw [get_set (get_lt hf7), List.filter_append, List.map_append, hv]
          simp [hk]
      have no : keep P d = false → S7[S4.length]? = some (.lst (((done ++ [d]).filter (keep P)).map dD)) := by
        intro hk
        rw [List.filter_append, hf7]
        simp [hk]
      obtain ⟨p, a⟩ := d
      cases a with
      | new x w =>
        rw [dD_new]
        walk_at "nf"
        refine yes _ _ rfl rfl fun S8 x y z => ?_
        exact ⟨_, rfl, x, y, z⟩
      | name t x =>
        rw [dD_name]
        walk_at "nf"
        rw [wp_ninK a1, a3 t]
        cases hfd : firstDrop P t with
        | none =>
          have hk : keep P (p, .name t x) = true := by show (firstDrop P t).isNone = true; rw [hfd]; rfl
          simp only [Option.map_none]
          try walk_at "nf"
          refine yes _ _ rfl hk fun S8 x y z => ?_
          exact ⟨_, rfl, x, y, z⟩
        | some f =>
          have hk : keep P (p, .name t x) = false := by show (firstDrop P t).isNone = false; rw [hfd]; rfl
          simp only [Option.map_some]
          try walk_at "nf"
          exact ⟨_, rfl, s7, hr7, no hk⟩
      | worth t w =>
        rw [dD_worth]
        walk_at "nf"
        rw [wp_ninK a1, a3 t]
        cases hfd : firstDrop P t with
        | none =>
          simp only [Option.map_none]
          try walk_at "nf"
          rw [wp_dixP b1, b3 t]
          cases hlw : lastWorth P t with
          | none =>
            unfold lastWorth at hlw
            rw [List.getLast?_eq_none_iff] at hlw
            have : (p, Act.worth t w) ∈ P.filter (isWorthAt t) := List.mem_filter.mpr ⟨hdP, decide_eq_true rfl⟩
            rw [hlw] at this
            cases this
          | some f =>
            simp only [Option.map_some]
            try walk_at "nf"
            rw [show (D.tup [D.int p.1, D.int p.2, D.str [119, 111, 114, 116, 104], pairD t, D.int w]) = dD (p, .worth t w) from rfl, cmp_eqP (pure_dD f) (pure_dD _)]
            by_cases hfe : f = (p, Act.worth t w)
            · have hk : keep P (p, .worth t w) = true := by
                show ((firstDrop P t).isNone && decide (lastWorth P t = some (p, Act.worth t w))) = true
                rw [hfd, hlw, hfe]
                simp
              rw [hfe, decide_eq_true rfl]
              try walk_at "nf"
              refine yes _ _ rfl hk fun S8 x y z => ?_
              exact ⟨_, rfl, x, y, z⟩
            · have hk : keep P (p, .worth t w) = false := by
                show ((firstDrop P t).isNone && decide (lastWorth P t = some (p, Act.worth t w))) = false
                rw [hfd, hlw]
                simp [hfe]
              rw [decide_eq_false fun z => hfe (dD_inj z)]
              try walk_at "nf"
              exact ⟨_, rfl, s7, hr7, no hk⟩
        | some f =>
          have hk : keep P (p, .worth t w) = false := by show ((firstDrop P t).isNone && _) = false; rw [hfd]; rfl
          simp only [Option.map_some]
          try walk_at "nf"
          exact ⟨_, rfl, s7, hr7, no hk⟩
      | drop t =>
        rw [dD_drop]
        walk_at "nf"
        rw [wp_dixP a1, a3 t]
        cases hfd : firstDrop P t with
        | none =>
          rw [firstDrop_none] at hfd
          have := hfd _ hdP
          have h2 : isDropAt t (p, Act.drop t) = true := decide_eq_true rfl
          rw [h2] at this
          cases this
        | some f =>
          simp only [Option.map_some]
          try walk_at "nf"
          rw [show (D.tup [D.int p.1, D.int p.2, D.str [100, 114, 111, 112], pairD t]) = dD (p, .drop t) from rfl, cmp_eqP (pure_dD f) (pure_dD _)]
          by_cases hfe : f = (p, Act.drop t)
          · have hk : keep P (p, .drop t) = true := by
              show decide (firstDrop P t = some (p, Act.drop t)) = true
              rw [hfd, hfe]
              simp
            rw [hfe, decide_eq_true rfl]
            try walk_at "nf"
            refine yes _ _ rfl hk fun S8 x y z => ?_
            exact ⟨_, rfl, x, y, z⟩
          · have hk : keep P (p, .drop t) = false := by
              show decide (firstDrop P t = some (p, Act.drop t)) = false
              rw [hfd]
              simp [hfe]
            rw [decide_eq_false fun z => hfe (dD_inj z)]
            try walk_at "nf"
            rw [wp_ninK a1, a3 t, hfd]
            simp only [Option.map_some]
            try walk_at "nf"
            exact ⟨_, rfl, s7, hr7, no hk⟩
    · rintro ρ S7 ⟨d3, rfl, s7, hr7, hf7⟩
      walk_at "nf"
      refine h S7 S4.length (s1.trans (s4.trans s7)) ?_ hf7
      have h1 := s1.1
      have h2 := s4.1
      omega
end
end NF
end -- NfWr5

section -- NfPl7
set_option linter.all false
set_option autoImplicit false
set_option maxRecDepth 10000
/-! Squeezed deeds and more. -/
namespace NF
open SrtO
theorem redund_mono {A B : List Deed} (h : ∀ d ∈ A, d ∈ B) {d : Deed} (r : redund A d) : redund B d := by
  obtain ⟨p, a⟩ := d
  cases a with
  | new x w => exact r
  | drop t => obtain ⟨e, he, z⟩ := r; exact ⟨e, h e he, z⟩
  | name t x => obtain ⟨e, he, z⟩ := r; exact ⟨e, h e he, z⟩
  | worth t w =>
    rcases r with ⟨e, he, z⟩ | ⟨e, he, z⟩
    · exact .inl ⟨e, h e he, z⟩
    · exact .inr ⟨e, h e he, z⟩
theorem kept_mem {P : List Deed} {e : Deed} (he : e ∈ P) (hk : keep P e = true) : e ∈ sqM P := List.mem_filter.mpr ⟨he, hk⟩
theorem not_kept {P : List Deed} (srt : P.Pairwise fun a b => ltK a.1 b.1 = true) {d : Deed} (hd : d ∈ P) (hk : keep P d = false) : redund (sqM P) d := by
  have fn : Fnl P := (⟨srt, fun _ => Iff.rfl⟩ : IsOrd P P).fnl
  have some_drop : ∀ {t : Key}, (∃ e ∈ P, isDropAt t e = true) → ∃ e ∈ sqM P, isDropAt t e = true ∧ ∀ f ∈ P, isDropAt t f = true → ltK f.1 e.1 = false := by
    intro t h
    obtain ⟨e, h1, h2, h3, h4⟩ := first_kept srt h
    exact ⟨e, kept_mem h1 h3, h2, h4⟩
  have exd : ∀ {t : Key}, ¬ (∀ e ∈ P, isDropAt t e = false) → ∃ e ∈ P, isDropAt t e = true := by
    intro t h
    apply Classical.byContradiction
    intro hn
    refine h fun e he => ?_
    cases z : isDropAt t e with
    | false => rfl
    | true => exact (hn ⟨e, he, z⟩).elim
  obtain ⟨p, a⟩ := d
  cases a with
  | new x w => cases hk
  | drop t =>
    obtain ⟨e, he, h1, h2⟩ := some_drop (t := t) ⟨_, hd, decide_eq_true rfl⟩
    refine ⟨e, he, h1, ?_⟩
    have hle := h2 _ hd (decide_eq_true rfl)
    have hne : p ≠ e.1 := by
      intro z
      have : (p, Act.drop t) = e := fn _ hd e (List.mem_filter.mp he).1 z
      rw [this, (List.mem_filter.mp he).2] at hk
      cases hk
    exact ltK_ne hle hne
  | name t x =>
    have hn : ¬ (∀ e ∈ P, isDropAt t e = false) := fun z => by
      rw [keep_name.mpr z] at hk
      cases hk
    obtain ⟨e, he, h1, _⟩ := some_drop (exd hn)
    exact ⟨e, he, h1⟩
  | worth t w =>
    by_cases hn : ∀ e ∈ P, isDropAt t e = false
    · have hmem : (p, Act.worth t w) ∈ P.filter (isWorthAt t) := List.mem_filter.mpr ⟨hd, decide_eq_true rfl⟩
      cases hl : lastWorth P t with
      | none =>
        unfold lastWorth at hl
        rw [List.getLast?_eq_none_iff] at hl
        rw [hl] at hmem
        cases hmem
      | some e =>
        obtain ⟨h1, h2, h3⟩ := (lastWorth_iff srt).mp hl
        obtain ⟨v, hv⟩ := isWorthAt_iff.mp h2
        have hke : keep P e = true := by
          obtain ⟨q, b⟩ := e
          simp only at hv
          subst hv
          exact (keep_worth srt h1).mpr ⟨hn, h3⟩
        refine .inr ⟨e, kept_mem h1 hke, h2, ?_⟩
        have hle := h3 _ hd (decide_eq_true rfl)
        have hne : e.1 ≠ p := by
          intro z
          have : e = (p, Act.worth t w) := fn e h1 _ hd z
          rw [← this, hke] at hk
          cases hk
        exact ltK_ne hle hne
    · obtain ⟨e, he, h1, _⟩ := some_drop (exd hn)
      exact .inl ⟨e, he, h1⟩
theorem sqz_self {P : List Deed} (srt : P.Pairwise fun a b => ltK a.1 b.1 = true) : Sqz P (sqM P) :=
  ⟨srt, srt.filter _, fun d hd => (List.mem_filter.mp hd).1, fun d hd hz => not_kept srt hd (by
    cases h : keep P d with
    | false => rfl
    | true => exact (hz (kept_mem hd h)).elim)⟩
theorem sq_sq {P : List Deed} (srt : P.Pairwise fun a b => ltK a.1 b.1 = true) : sqM (sqM P) = sqM P := ((sqz_self srt).sq).symm
theorem sqz_more {P L M Y Z : List Deed} (o : IsOrd P L) (oy : IsOrd Y (L ++ M)) (oz : IsOrd Z (sqM P ++ M)) : Sqz Y Z := by
  refine ⟨oy.srt, oz.srt, fun d hd => ?_, fun d hd hz => ?_⟩
  · rw [oy.mem, List.mem_append]
    rw [oz.mem, List.mem_append] at hd
    exact hd.imp (fun h => (o.mem d).mp (List.mem_filter.mp h).1) id
  · rw [oy.mem, List.mem_append] at hd
    rw [oz.mem, List.mem_append] at hz
    rcases hd with h | h
    · have hP := (o.mem d).mpr h
      have hk : keep P d = false := by
        cases hk : keep P d with
        | false => rfl
        | true => exact (hz (.inl (kept_mem hP hk))).elim
      exact redund_mono (fun e he => (oz.mem e).mpr (List.mem_append_left _ he)) (not_kept o.srt hP hk)
    · exact (hz (.inr h)).elim
theorem Sqz.named {Y Z : List Deed} (q : Sqz Y Z) : namedM Y = namedM Z := by
  unfold namedM
  rw [q.there]
theorem Sqz.table {Y Z : List Deed} (q : Sqz Y Z) : tableM Y = tableM Z := by
  unfold tableM
  rw [q.named]
theorem Sqz.fallen {Y Z : List Deed} (q : Sqz Y Z) : fallenM Y = fallenM Z := by
  unfold fallenM
  rw [q.named]
end NF
end -- NfPl7

section -- P12
set_option linter.all false
set_option autoImplicit false
set_option maxRecDepth 10000
set_option maxHeartbeats 8000000
/-! The plain law k12. -/
namespace K12
open NF SrtO
local macro_rules | `(tactic| walk_at "nf") => `(tactic| simp only [↓ws_nil, ↓ws_cons, ↓ws_asg, ↓ws_unp, ↓ws_par, ↓ws_sat, ↓ws_ssub, ↓ws_dsub, ↓ws_exp, ↓ws_ret, ↓ws_retN, ↓ws_pass, ↓ws_cont, ↓ws_ife, ↓ws_raise, ↓ws_for, ↓goS_nx, ↓goS_ct, ↓goS_rt, ↓we_var, ↓we_int, ↓we_str, ↓we_bl, ↓we_non, ↓we_neg, ↓we_glb, ↓we_tup, ↓we_lst, ↓we_dctT, ↓we_dctK, ↓we_bin, ↓we_cmp, ↓we_chain, ↓we_isn, ↓we_andv, ↓we_orv, ↓wand1, ↓wand2, ↓wor1, ↓wor2, ↓we_notv, ↓we_ife, ↓we_idx, ↓we_dix, ↓we_slc, ↓we_rev, ↓we_att, ↓we_call, ↓we_mk, ↓we_meth, ↓we_bi, ↓we_bm, ↓we_lenset, ↓we_sortset, ↓we_sortk, ↓we_sortf, ↓we_sortkeys, ↓we_listkeys, ↓we_isTy, ↓we_isEx, ↓we_lc, ↓wo_none, ↓wo_some, ↓wes_nil, ↓wes_cons, ↓wc_none, ↓wc_some, ↓wb_nm, ↓wt_ex, ↓wt_not, ↓wt_and, ↓wt_or, ↓wt_ife, ↓wtand_nil, ↓wtand_cons, ↓wtor_nil, ↓wtor_cons, ↓wtr_bl, ↓wtr_int, ↓w_turn, ↓w_body, ↓ifB_bl, ↓wp_ret, ↓wp_orS, ↓wp_bnd, List.getElem?_cons_zero, List.getElem?_cons_succ, Option.join_some, List.set_cons_zero, List.set_cons_succ, List.map_cons, List.map_nil, List.cons_append, List.nil_append, List.length_cons, List.length_nil, List.replicate_succ, List.replicate_zero, wipeE, cmp_le, cmp_lt, cmp_gt, cmp_ge, cmp_eqS, cmp_neS, cmp_eqI, cmp_neI, add_int, sub_int, len_tup, list_tup, ↓wk_seqT, ↓wk_seqS, ↓lv_lst, ↓lv_fix, isN, idx_t0, idx_t1, idx_t2, idx_t3, idx_t4, slc_t2, intO_2, Nat.reduceSub, Nat.reduceAdd, Bool.false_eq_true, if_true, if_false, Bool.not_true, Bool.not_false, Wk.items, decide_eq_true_eq, Bool.not_eq_true', decide_eq_false_iff_not, List.cons.injEq, Nat.reduceEqDiff, reduceCtorEq, and_false, false_and, and_true, true_and, decide_true, decide_false, not_true_eq_false, not_false_eq_true, Int.cast_ofNat_Int, Int.reduceLT, Int.reduceLE, Int.reduceEq, Int.reduceNe, Option.isSome_some, Option.isSome_none, sNew, sName, sWorth, sDrop, ne_eq, ↓wb_t2, ↓wb_t3, ↓wb_t4])
def isNew (d : Deed) : Bool := d.2.at.isNone
theorem sort_all {P L : List Deed} (o : IsOrd P L) (hn : (L.map (·.1)).Nodup) : sortBy ltD (L.map dD) = P.map dD := by
  rw [sort_same ((ord_perm o hn).map dD), srt_deeds o.srt]
theorem gt_deeds {a b : Deed} (f : a.1 = b.1 → a = b) : cmpM .gt (dD a) (dD b) = ret (.bl (ltK b.1 a.1)) := by
  have hc : cmpb (dD a) (dD b) = true := by
    unfold dD
    refine cmpb_ints _ _ _ _ fun e => ?_
    rw [f e]
    exact cmpbs_refl _
  rw [cmp_gtP (pure_dD a) (pure_dD b) hc]
  congr 2
  have hs : (cmpD (dD a) (dD b) == .gt) = ltD (dD b) (dD a) := by
    unfold ltD
    rw [cmpD_swap (dD a) (dD b)]
    cases cmpD (dD a) (dD b) <;> rfl
  rw [hs]
  by_cases e : b.1 = a.1
  · rw [f e.symm, swo_ltD.refl, ltK_irr]
  · rw [ltD_dD e]
def depth : Nat := 12
theorem pure7_fallen (P : List Deed) : (fallenM P).all (pureN 7) = true := by
  rw [List.all_eq_true]
  intro d hd
  have := (sort_perm (lt := ltD) _).mem_iff.mp hd
  obtain ⟨z, _, rfl⟩ := List.mem_map.mp this
  rfl
theorem hR : HRows Δ := ⟨⟨rfl, rfl, rfl, rfl, rfl, rfl⟩, rfl, rfl, rfl, rfl⟩
theorem hD : HDraw Δ := ⟨rfl, rfl, rfl, rfl, rfl, rfl, rfl⟩
theorem plainW (ns : List Int) : wp (callF Δ (depth + 1) "law" [.ref 1]) [.rod rod, .rol (ns.map D.int)] (fun d _ => d = .bl true) noX := by
  have hlaw : Δ "law" = some fn_law := rfl
  rw [wp_call hlaw rfl]
  unfold fn_law depth
  walk_at "nf"
  have w0 : Drw [O.rod rod, O.rol (ns.map D.int), O.lst [], O.lst [D.int 9, D.int 25]] 1 2 ns 0 := ⟨.inr rfl, ⟨[], rfl, Nat.le_refl _⟩, by decide⟩
  refine pick_ok hD w0 (by decide) (xs := [D.int 9, D.int 25]) (.inl rfl) (by decide) (by simp) fun S1 x s1 w1 hx => ?_
  obtain ⟨mo, rfl, hmo0, hmo1⟩ : ∃ mo : Int, x = .int mo ∧ 0 < mo ∧ mo ≤ 999 := by
    simp only [List.mem_cons, List.not_mem_nil, or_false] at hx
    rcases hx with rfl | rfl
    · exact ⟨_, rfl, by decide, by decide⟩
    · exact ⟨_, rfl, by decide, by decide⟩
  have b1 : Bse S1 := Bse.sub (show Bse [O.rod rod, O.rol (ns.map D.int), O.lst [], O.lst [D.int 9, D.int 25]] from rfl) s1 (by decide)
  try walk_at "nf"
  show wp (callF Δ 12 "_law_deeds" [.ref 1, .ref 2, .int ((24 : Nat) : Int), .int mo]) S1 _ _
  refine deeds_ok hD w1 (by decide) (by decide) hmo0 hmo1 fun S2 m L s2 w2 hm hL ok nd hlen => ?_
  have b2 : Bse S2 := b1.sub s2 (by decide)
  have h2S : 2 < S1.length := w1.lt
  have hm2 : 2 < m := by omega
  have fnl : Fnl L := nodup_inj nd
  have o := ordL_ord fnl
  generalize ordL L = P at o
  have okP : ∀ d ∈ P, okDeed d = true := fun d hd => ok d ((o.mem d).mp hd)
  have hPlen : P.length = L.length := (ord_perm o nd).length_eq.symm
  clear b1 s1 w1 hx w0 s2
  try walk_at "nf"
  have s3 : Sub [] S2 (S2 ++ [O.dct []]) := Sub.app _ _
  have hmd := get_new S2 (.dct [])
  have lm := get_lt hL
  have hL3 := s3.get0 hL
  have w3 := w2.sub s3
  have b3 := b2.sub s3 (by simp)
  generalize (S2 ++ [O.dct []]) = S3 at s3 hmd hL3 w3 b3
  generalize S2.length = md at hmd lm
  clear hL w2 b2
  rw [wk_seqL (.inl hL3)]
  try walk_at "nf"
  refine wp_gather0 L (fun d => some (pairD d.1)) (.inl hL3) (fun d _ => ?_) ?_
  · walk_at "nf"
    rw [slc_dD]
    try walk_at "nf"
  rw [fm_some, if_pos (by rw [List.length_map]; unfold line; omega)]
  have lmd := get_lt hmd
  have s4 : Sub [] S3 (S3 ++ [O.lst (L.map fun d => pairD d.1)]) := Sub.app _ _
  have hke := get_new S3 (.lst (L.map fun d => pairD d.1))
  have hL4 := s4.get0 hL3
  have hmd4 := s4.get0 hmd
  have w4 := w3.sub s4
  have b4 := b3.sub s4 (by simp)
  generalize (S3 ++ [O.lst (L.map fun d => pairD d.1)]) = S4 at s4 hke hL4 hmd4 w4 b4
  generalize S3.length = ke at hke lmd
  clear s3 hmd hL3 w3 b3 s4
  try walk_at "nf"
  have lke := get_lt hke
  have hL5 := (Sub.app (W := []) S4 [O.lst [D.tup [D.int 1, D.int 1]]]).get0 hL4
  rw [wk_seqL (.inl hL5)]
  try walk_at "nf"
  refine wp_gather0 L (fun d => if isNew d then some (pairD d.1) else none) (.inl hL5) (fun d hd => ?_) ?_
  · obtain ⟨q, a⟩ := d
    cases a with
    | new y v => rw [dD_new]; walk_at "nf"; rfl
    | name u y => rw [dD_name]; walk_at "nf"; rfl
    | worth u v => rw [dD_worth]; walk_at "nf"; rfl
    | drop u => rw [dD_drop]; walk_at "nf"; rfl
  have hkl := List.length_filter_le isNew L
  rw [fm_filter, if_pos (by rw [List.length_map]; unfold line; omega)]
  have g1 : (S4 ++ [O.lst [D.tup [D.int 1, D.int 1]]] ++ [O.lst ((L.filter isNew).map fun d => pairD d.1)])[S4.length]? = some (.lst [D.tup [D.int 1, D.int 1]]) := (Sub.app (W := []) _ _).get0 (get_new _ _)
  try walk_at "nf"
  rw [wp_addL g1 (get_new _ _) (by rw [List.length_map]; simp; unfold line; omega)]
  have s6 : Sub [] S4 (S4 ++ [O.lst [D.tup [D.int 1, D.int 1]]] ++ [O.lst ((L.filter isNew).map fun d => pairD d.1)] ++ [O.lst ([D.tup [D.int 1, D.int 1]] ++ (L.filter isNew).map fun d => pairD d.1)]) := (Sub.app _ _).trans ((Sub.app _ _).trans (Sub.app _ _))
  have hro : (S4 ++ [O.lst [D.tup [D.int 1, D.int 1]]] ++ [O.lst ((L.filter isNew).map fun d => pairD d.1)] ++ [O.lst ([D.tup [D.int 1, D.int 1]] ++ (L.filter isNew).map fun d => pairD d.1)])[(S4 ++ [O.lst [D.tup [D.int 1, D.int 1]]] ++ [O.lst ((L.filter isNew).map fun d => pairD d.1)]).length]? = some (.lst (((1, 1) :: (L.filter isNew).map fun d => d.1).map pairD)) := by
    rw [get_new, List.map_cons, List.map_map]
    rfl
  have l6 : S4.length ≤ (S4 ++ [O.lst [D.tup [D.int 1, D.int 1]]] ++ [O.lst ((L.filter isNew).map fun d => pairD d.1)]).length := by simp
  generalize (S4 ++ [O.lst [D.tup [D.int 1, D.int 1]]] ++ [O.lst ((L.filter isNew).map fun d => pairD d.1)] ++ [O.lst ([D.tup [D.int 1, D.int 1]] ++ (L.filter isNew).map fun d => pairD d.1)]) = S6 at s6 hro
  generalize (S4 ++ [O.lst [D.tup [D.int 1, D.int 1]]] ++ [O.lst ((L.filter isNew).map fun d => pairD d.1)]).length = ro at hro l6
  have hrk : ∀ q ∈ ((1, 1) :: (L.filter isNew).map fun d => d.1), okKey q = true := by
    intro q hq
    rcases List.mem_cons.mp hq with z | z
    · rw [z]; decide
    · obtain ⟨d, hd, rfl⟩ := List.mem_map.mp z
      have := ok d (List.mem_filter.mp hd).1
      unfold okDeed at this
      rw [Bool.and_eq_true] at this
      exact this.1
  have hrkl : ((1, 1) :: (L.filter isNew).map fun d => d.1).length < 64 := by simp; omega
  generalize ((1, 1) :: (L.filter isNew).map fun d => d.1) = RS at hro hrk hrkl
  have hL6 := s6.get0 hL4
  have hmd6 := s6.get0 hmd4
  have hke6 := s6.get0 hke
  have w6 := w4.sub s6
  have b6 := b4.sub s6 (by simp)
  clear g1 hL4 hmd4 hke w4 b4 hL5
  try walk_at "nf"
  refine draw_ok hD w6 (by decide) (by decide) fun S7 j s7 w7 hj0 hj1 => ?_
  have hL7 := s7.get hL6 (by simp; omega)
  have hmd7 := s7.get hmd6 (by simp; omega)
  have hke7 := s7.get hke6 (by simp; omega)
  have hro7 := s7.get hro (by simp; omega)
  have b7 := b6.sub s7 (by simp)
  clear hL6 hmd6 hke6 hro b6 w6 s7 s6
  rw [wk_rng1 (small_of (by omega) (by omega))]
  try walk_at "nf"
  -- MORE
  have lro := get_lt hro7
  have hcont : ∀ q : Key, (L.map fun d => pairD d.1).contains (pairD q) = decide (q ∈ L.map (·.1)) := by
    intro q
    rw [Bool.eq_iff_iff, List.contains_iff_mem, decide_eq_true_eq, List.mem_map, List.mem_map]
    constructor
    · rintro ⟨d, hd, e⟩
      exact ⟨d, hd, pairD_inj e⟩
    · rintro ⟨d, hd, e⟩
      exact ⟨d, hd, by rw [← e]⟩
  have hkp : (L.map fun d => pairD d.1).all pureD = true := by
    rw [List.all_map, List.all_eq_true]
    intro _ _
    rfl
  refine wpS_forM (List.range j.toNat) (fun done ρ S' => ∃ (M : List Deed) (d7 d9 : Option D), ρ = [some (.ref 1), some (.ref 2), some (.int mo), some (.ref m), some (.ref md), some (.ref ke), some (.ref ro), d7, none, d9, none, none, none, none, none] ∧ NF.Sub [2, md] S7 S' ∧ Drw S' 1 2 ns (1502 + 20 * done.length) ∧ S'[md]? = some (.dct (kvL M)) ∧ (∀ d ∈ M, okDeed d = true) ∧ (M.map (·.1)).Nodup ∧ (∀ d ∈ M, d.1 ∉ L.map (·.1)) ∧ M.length ≤ done.length) ?_ (fun _ _ _ _ => trivial) ?_ ?_
  · exact ⟨[], none, none, rfl, Sub.refl _ _, w7, hmd7, fun d hd => (by cases hd), List.nodup_nil, fun d hd => (by cases hd), Nat.le_refl _⟩
  · rintro done i rest ρ S8 e ⟨M, d7, d9, hρ, s8, w8, hmd8, hMok, hMn, hMd, hMl⟩
    subst hρ
    have hdl : done.length < 9 := by
      have := congrArg List.length e
      rw [List.length_range, List.length_append, List.length_cons] at this
      omega
    have hro8 := s8.get hro7 (by simp; omega)
    have hke8 := s8.get hke7 (by simp; omega)
    walk_at "nf"
    refine deed_ok hD w8 (by omega) (.inl hro8) (by omega) hrk (by omega) hmo0 hmo1 fun S9 d s9 w9 hdok => ?_
    have hke9 := s9.get hke8 (by simp; omega)
    have hmd9 := s9.get hmd8 (by simp; omega)
    have s79 : NF.Sub [2, md] S7 S9 := s8.trans (s9.mono fun n h => by simp at h; simp [h])
    try walk_at "nf"
    rw [slc_dD]
    try walk_at "nf"
    rw [wp_ninL hke9 (pure_pairD _) hkp, hcont]
    try walk_at "nf"
    by_cases hin : d.1 ∈ L.map (·.1)
    · rw [if_neg (by simpa using hin)]
      exact ⟨M, _, _, ⟨rfl, rfl⟩, s79, by rw [List.length_append]; exact w9.more (by simp; omega), hmd9, hMok, hMn, hMd, by rw [List.length_append]; omega⟩
    · rw [if_pos (by simpa using hin)]
      rw [wp_dsubK hmd9 (by unfold kvL; rw [List.length_map]; unfold line; omega), putL_kv]
      refine ⟨putL M d, _, _, ⟨rfl, rfl⟩, s79.putIn (by simp) _, ?_, get_set (get_lt hmd9) _, fun e he => ?_, putL_keys M d hMn, fun e he => ?_, ?_⟩
      · have w10 := w9.more (c' := 1502 + 20 * (done ++ [i]).length) (by rw [List.length_append]; simp; omega)
        obtain ⟨ds, h1, h2⟩ := w10.twn
        refine ⟨?_, ⟨ds, ?_, h2⟩, w10.ne⟩
        · rcases w10.scr with z | z
          · exact .inl (by rw [List.getElem?_set_ne (by omega)]; exact z)
          · exact .inr (by rw [List.getElem?_set_ne (by omega)]; exact z)
        · rw [List.getElem?_set_ne (by omega)]
          exact h1
      · rcases putL_mem he with z | z
        · rw [z]; exact hdok
        · exact hMok e z
      · rcases putL_mem he with z | z
        · rw [z]; exact hin
        · exact hMd e z
      · have := putL_len M d
        rw [List.length_append]
        simp
        omega
  rintro ρ S8 ⟨M, d7, d9, hρ, s8, w8, hmd8, hMok, hMn, hMd, hMl⟩
  subst hρ
  rw [List.length_range] at hMl
  have hL8 := s8.get hL7 (by simp; omega)
  have b8 : Bse S8 := b7.sub s8 (by simp; omega)
  clear hL7 hke7 hmd7 hro7 b7 w7 w8
  try walk_at "nf"
  rw [wp_lkM hmd8]
  try walk_at "nf"
  rw [wk_seqL (.inl (get_new _ _))]
  try walk_at "nf"
  have e1 : ((kvL M).map fun kv => pairD kv.1) = M.map fun d => pairD d.1 := by
    unfold kvL
    rw [List.map_map]
    rfl
  rw [e1]
  refine wp_gather0 M (fun d => some (dD d)) (.inl (get_new _ _)) (fun d hdm => ?_) ?_
  · walk_at "nf"
    rw [wp_dixP ((Sub.app (W := []) _ _).get0 hmd8), kvL_get hMn hdm]
    exact ⟨rfl, rfl⟩
  rw [fm_some, if_pos (by rw [List.length_map]; unfold line; omega)]
  have s9 : NF.Sub [] S8 (S8 ++ [O.lst (M.map fun d => pairD d.1)] ++ [O.lst (M.map dD)]) := (Sub.app _ _).trans (Sub.app _ _)
  have hmo := get_new (S8 ++ [O.lst (M.map fun d => pairD d.1)]) (.lst (M.map dD))
  have lm8 := get_lt hL8
  have l9 : S8.length ≤ (S8 ++ [O.lst (M.map fun d => pairD d.1)]).length := by simp
  generalize (S8 ++ [O.lst (M.map fun d => pairD d.1)] ++ [O.lst (M.map dD)]) = S9 at s9 hmo
  generalize (S8 ++ [O.lst (M.map fun d => pairD d.1)]).length = mr at hmo l9
  have hL9 := s9.get0 hL8
  have b9 := b8.sub s9 (by simp)
  clear hL8 b8 hmd8 s8 s9
  try walk_at "nf"
  -- DROPS
  have lm9 := get_lt hL9
  have lmo := get_lt hmo
  have s10 : NF.Sub [] S9 (S9 ++ [O.dct []] ++ [O.lst (P.map dD)] ++ [O.lst (P.reverse.map dD)]) := (Sub.app _ _).trans ((Sub.app _ _).trans (Sub.app _ _))
  rw [wp_sorted (.inl ((Sub.app (W := []) _ _).get0 hL9)) (allCmp_deeds o.fnl), sort_all o nd, wp_lst1 (get_new _ _), ← List.map_reverse]
  have hdr : (S9 ++ [O.dct []] ++ [O.lst (P.map dD)] ++ [O.lst (P.reverse.map dD)])[S9.length]? = some (.dct []) := (Sub.app (W := []) _ _).get0 ((Sub.app (W := []) _ _).get0 (get_new _ _))
  have hrv := get_new (S9 ++ [O.dct []] ++ [O.lst (P.map dD)]) (.lst (P.reverse.map dD))
  have lrv : S9.length < (S9 ++ [O.dct []] ++ [O.lst (P.map dD)]).length := by simp
  generalize (S9 ++ [O.dct []] ++ [O.lst (P.map dD)] ++ [O.lst (P.reverse.map dD)]) = S10 at s10 hdr hrv
  generalize (S9 ++ [O.dct []] ++ [O.lst (P.map dD)]).length = rv at hrv lrv
  have hL10 := s10.get0 hL9
  have hmo10 := s10.get0 hmo
  have b10 := b9.sub s10 (by simp)
  clear hL9 hmo b9 s10
  rw [wk_seqL (.inl hrv)]
  try walk_at "nf"
  refine wpS_forM P.reverse (fun done ρ S' => ∃ (d9' : Option D) (kvs : List (Key × D)), ρ = [some (.ref 1), some (.ref 2), some (.int mo), some (.ref m), some (.ref mr), some (.ref ke), some (.ref ro), d7, some (.ref S9.length), d9', none, none, none, none, none] ∧ NF.Sub [S9.length] S10 S' ∧ S'[S9.length]? = some (.dct kvs) ∧ kvs.length ≤ done.length ∧ ∀ t, kvGet kvs t = ((done.filter (isDropAt t)).getLast?).map dD) ?_ ?_ ?_ ?_
  · exact ⟨_, [], rfl, Sub.refl _ _, hdr, Nat.le_refl _, fun _ => rfl⟩
  · rintro done ρ S' ⟨d9', kvs, hρ, s, _⟩
    exact .inl (s.get hrv (by simp; omega))
  · rintro done d rest ρ S' e ⟨d9', kvs, hρ, s, hk, hkl, hg⟩
    subst hρ
    have hdl : done.length < 64 := by
      have := congrArg List.length e
      rw [List.length_append, List.length_cons, List.length_reverse] at this
      omega
    have same : (∀ t, isDropAt t d = false) → ∀ t, kvGet kvs t = (((done ++ [d]).filter (isDropAt t)).getLast?).map dD := by
      intro h t
      rw [List.filter_append, hg t]
      simp [h t]
    have klen : kvs.length ≤ (done ++ [d]).length := by rw [List.length_append]; omega
    obtain ⟨p, a⟩ := d
    cases a with
    | new x w => rw [dD_new]; walk_at "nf"; exact ⟨_, kvs, rfl, s, hk, klen, same fun _ => rfl⟩
    | name t x => rw [dD_name]; walk_at "nf"; exact ⟨_, kvs, rfl, s, hk, klen, same fun _ => rfl⟩
    | worth t w => rw [dD_worth]; walk_at "nf"; exact ⟨_, kvs, rfl, s, hk, klen, same fun _ => rfl⟩
    | drop t =>
      rw [dD_drop]
      walk_at "nf"
      rw [wp_dsubK hk (by unfold line; omega)]
      refine ⟨_, _, rfl, s.putIn (by simp) _, get_set (get_lt hk) _, ?_, fun u => ?_⟩
      · have := kvPut_len (kvs := kvs) (k := t) (v := D.tup [D.int p.1, D.int p.2, D.str [100, 114, 111, 112], pairD t])
        rw [List.length_append]
        exact Nat.le_trans this (by simp; omega)
      · rw [kvGet_put, List.filter_append, hg u]
        by_cases z : u = t
        · subst z
          have : isDropAt u (p, Act.drop u) = true := decide_eq_true rfl
          rw [if_pos rfl, List.filter_cons, if_pos this]
          simp
          rfl
        · have : isDropAt u (p, Act.drop t) = false := decide_eq_false (Ne.symm z)
          rw [if_neg z, List.filter_cons, this]
          simp
  rintro ρ S11 ⟨d9', kvs, hρ, s11, hk, hkl, hg⟩
  subst hρ
  have hg' : ∀ t, kvGet kvs t = (firstDrop P t).map dD := by
    intro t
    rw [hg t, List.filter_reverse, List.getLast?_reverse, List.head?_filter]
    rfl
  have hL11 := s11.get hL10 (by simp; omega)
  have hmo11 := s11.get hmo10 (by simp; omega)
  have b11 : Bse S11 := b10.sub s11 (by simp; omega)
  clear hL10 hmo10 b10 s11 hrv hdr hg
  try walk_at "nf"
  -- DUE
  have lm11 := get_lt hL11
  have ldr := get_lt hk
  rw [wp_sorted (.inl ((Sub.app (W := []) _ _).get0 hL11)) (allCmp_deeds o.fnl), sort_all o nd]
  have s12 : NF.Sub [] S11 (S11 ++ [O.lst []] ++ [O.lst (P.map dD)]) := (Sub.app _ _).trans (Sub.app _ _)
  have hq0 : (S11 ++ [O.lst []] ++ [O.lst (P.map dD)])[S11.length]? = some (.lst []) := (Sub.app (W := []) _ _).get0 (get_new _ _)
  have hsl := get_new (S11 ++ [O.lst []]) (.lst (P.map dD))
  have lsl : (S11 ++ [O.lst []]).length = S11.length + 1 := by simp
  generalize (S11 ++ [O.lst []] ++ [O.lst (P.map dD)]) = S12 at s12 hq0 hsl
  generalize (S11 ++ [O.lst []]).length = sl at hsl lsl
  rw [wk_seqL (.inl hsl)]
  try walk_at "nf"
  refine wpS_forM P (fun done ρ S' => ∃ (d9' d13 : Option D) (q : Nat), ρ = [some (.ref 1), some (.ref 2), some (.int mo), some (.ref m), some (.ref mr), some (.ref ke), some (.ref ro), d7, some (.ref S9.length), d9', some (.ref q), none, none, d13, none] ∧ NF.Sub [] S11 S' ∧ S'[sl]? = some (.lst (P.map dD)) ∧ S'[q]? = some (.lst ((done.filter (keep P)).map dD)) ∧ S11.length ≤ q ∧ q ≠ sl) ?_ ?_ ?_ ?_
  · exact ⟨_, _, S11.length, rfl, s12, hsl, hq0, Nat.le_refl _, by omega⟩
  · rintro done ρ S' ⟨d9', d13, q, hρ, s, hsl, _⟩
    exact .inl hsl
  · rintro done d rest ρ S13 e ⟨d9', d13, q, hρ, s13, hsl13, hq, hq1, hq2⟩
    subst hρ
    have hdP : d ∈ P := by rw [e]; simp
    have hdl : done.length < 64 := by
      have := congrArg List.length e
      rw [List.length_append, List.length_cons] at this
      omega
    have hfl := List.length_filter_le (keep P) done
    have hk13 := s13.get0 hk
    have hL13 := s13.get0 hL11
    -- what is added by a truth
    have addB : ∀ {X : Ex → Store → Prop} (b : Bool) (R : D → Store → Prop) (T : Store) (x : Nat), NF.Sub [] S13 T → T[x]? = some (.lst [dD d]) → b = keep P d → (∀ S14 q', NF.Sub [] S11 S14 → S14[sl]? = some (.lst (P.map dD)) → S14[q']? = some (.lst (((done ++ [d]).filter (keep P)).map dD)) → S11.length ≤ q' → q' ≠ sl → R (.ref q') S14) → wp (binD .mul (.ref x) (.int (if b then 1 else 0))) T (fun y S14 => wp (binD .add (.ref q) y) S14 R X) X := by
      intro X b R T x sT hT hb hR
      rw [wp_mulB hT, wp_addL ((sT.trans (Sub.app _ _)).get0 hq) (get_new _ _) (by rw [List.length_map]; cases b <;> simp <;> unfold line <;> omega)]
      have hsT : sl < T.length := get_lt (sT.get0 hsl13)
      have hST : S11.length ≤ T.length := (s13.trans sT).1
      refine hR _ _ (s13.trans (sT.trans ((Sub.app _ _).trans (Sub.app _ _)))) ((sT.trans ((Sub.app _ _).trans (Sub.app _ _))).get0 hsl13) ?_ (by simp; omega) (by simp; omega)
      rw [get_new, List.filter_append, List.map_append, List.filter_cons, ← hb]
      cases b <;> rfl
    obtain ⟨p, a⟩ := d
    cases a with
    | new x w =>
      rw [dD_new]
      walk_at "nf"
      rw [bmTy_lst rfl (.inl hq)]
      try walk_at "nf"
      rw [wp_append hq (by rw [List.length_map]; unfold line; omega)]
      refine ⟨_, _, q, ⟨rfl, rfl, rfl⟩, s13.putNew hq1 _, ?_, ?_, hq1, hq2⟩
      · rw [List.getElem?_set_ne hq2]
        exact hsl13
      · rw [get_set (get_lt hq), List.filter_append, List.map_append]
        rfl
    | name t x =>
      rw [dD_name]
      walk_at "nf"
      rw [wp_inK hk13, hg' t]
      cases hfd : firstDrop P t with
      | some f =>
        simp only [Option.map_some]
        try walk_at "nf"
        rw [wp_dixP ((Sub.app (W := []) _ _).get0 hk13), hg' t, hfd]
        simp only [Option.map_some]
        try walk_at "nf"
        rw [show (D.tup [D.int p.1, D.int p.2, D.str [110, 97, 109, 101], pairD t, D.str x]) = dD (p, .name t x) from rfl, cmp_eqP (pure_dD f) (pure_dD _)]
        generalize hb : decide (dD f = dD (p, _)) = b
        try walk_at "nf"
        rw [int_bl]
        try walk_at "nf"
        refine addB b _ _ _ (Sub.app _ _) (get_new _ _) ?_ fun S14 q' x1 x2 x3 x4 x5 => ⟨_, _, q', ⟨rfl, rfl, rfl⟩, x1, x2, x3, x4, x5⟩
        have hfk : isDropAt t f = true := (firstDrop_some hfd).2
        have hne : ¬ dD f = dD (p, Act.name t x) := fun z => by
          rw [dD_inj z] at hfk
          cases hfk
        rw [← hb, decide_eq_false hne]
        show false = keep P (p, Act.name t x)
        symm
        show (firstDrop P t).isNone = false
        rw [hfd]
        rfl
      | none =>
        simp only [Option.map_none]
        try walk_at "nf"
        rw [wk_seqL (.inl hL13)]
        try walk_at "nf"
        refine wp_gather0 L (fun e => if (isWorthAt t e && ltK p e.1) then some (dD e) else none) (.inl hL13) (fun e he => ?_) ?_
        · have hgt : cmpM .gt (dD e) (dD (p, .name t x)) = ret (.bl (ltK p e.1)) := gt_deeds fun z => o.fnl _ he _ ((o.mem _).mp hdP) z
          obtain ⟨q', a⟩ := e
          cases a with
          | new y v => rw [dD_new]; walk_at "nf"; rfl
          | name u y => rw [dD_name]; walk_at "nf"; rfl
          | drop u => rw [dD_drop]; walk_at "nf"; rfl
          | worth u v =>
            rw [dD_worth] at hgt ⊢
            walk_at "nf"
            rw [cmp_eqK, wtr_bl]
            by_cases hut : u = t
            · rw [decide_eq_true hut, if_pos rfl]
              have hgt' : cmpM .gt (D.tup [D.int q'.1, D.int q'.2, D.str [119, 111, 114, 116, 104], pairD u, D.int v]) (D.tup [D.int p.1, D.int p.2, D.str [110, 97, 109, 101], pairD t, D.str x]) = ret (.bl (ltK p q')) := hgt
              rw [hgt']
              try walk_at "nf"
              have hw : isWorthAt t (q', Act.worth u v) = true := decide_eq_true hut
              rw [hw]
              cases ltK p q' <;> simp
            · have hw : isWorthAt t (q', Act.worth u v) = false := decide_eq_false hut
              rw [decide_eq_false hut, hw]
              simp
        have hlf := List.length_filter_le (fun e => isWorthAt t e && ltK p e.1) L
        rw [fm_filter, if_pos (by rw [List.length_map]; unfold line; omega)]
        try walk_at "nf"
        rw [int_bl]
        try walk_at "nf"
        refine addB true _ _ _ ((Sub.app _ _).trans (Sub.app _ _)) (get_new _ _) ?_ fun S14 q' x1 x2 x3 x4 x5 => ⟨_, _, q', ⟨rfl, rfl, rfl⟩, x1, x2, x3, x4, x5⟩
        symm
        show (firstDrop P t).isNone = true
        rw [hfd]
        rfl
    | worth t w =>
      rw [dD_worth]
      walk_at "nf"
      rw [wp_inK hk13, hg' t]
      cases hfd : firstDrop P t with
      | some f =>
        simp only [Option.map_some]
        try walk_at "nf"
        rw [wp_dixP ((Sub.app (W := []) _ _).get0 hk13), hg' t, hfd]
        simp only [Option.map_some]
        try walk_at "nf"
        rw [show (D.tup [D.int p.1, D.int p.2, D.str [119, 111, 114, 116, 104], pairD t, D.int w]) = dD (p, .worth t w) from rfl, cmp_eqP (pure_dD f) (pure_dD _)]
        generalize hb : decide (dD f = dD (p, _)) = b
        try walk_at "nf"
        rw [int_bl]
        try walk_at "nf"
        refine addB b _ _ _ (Sub.app _ _) (get_new _ _) ?_ fun S14 q' x1 x2 x3 x4 x5 => ⟨_, _, q', ⟨rfl, rfl, rfl⟩, x1, x2, x3, x4, x5⟩
        have hfk : isDropAt t f = true := (firstDrop_some hfd).2
        have hne : ¬ dD f = dD (p, Act.worth t w) := fun z => by
          rw [dD_inj z] at hfk
          cases hfk
        rw [← hb, decide_eq_false hne]
        show false = keep P (p, Act.worth t w)
        symm
        show ((firstDrop P t).isNone && _) = false
        rw [hfd]
        rfl
      | none =>
        simp only [Option.map_none]
        try walk_at "nf"
        rw [wk_seqL (.inl hL13)]
        try walk_at "nf"
        refine wp_gather0 L (fun e => if (isWorthAt t e && ltK p e.1) then some (dD e) else none) (.inl hL13) (fun e he => ?_) ?_
        · have hgt : cmpM .gt (dD e) (dD (p, .worth t w)) = ret (.bl (ltK p e.1)) := gt_deeds fun z => o.fnl _ he _ ((o.mem _).mp hdP) z
          obtain ⟨q', a⟩ := e
          cases a with
          | new y v => rw [dD_new]; walk_at "nf"; rfl
          | name u y => rw [dD_name]; walk_at "nf"; rfl
          | drop u => rw [dD_drop]; walk_at "nf"; rfl
          | worth u v =>
            rw [dD_worth] at hgt ⊢
            walk_at "nf"
            rw [cmp_eqK, wtr_bl]
            by_cases hut : u = t
            · rw [decide_eq_true hut, if_pos rfl]
              have hgt' : cmpM .gt (D.tup [D.int q'.1, D.int q'.2, D.str [119, 111, 114, 116, 104], pairD u, D.int v]) (D.tup [D.int p.1, D.int p.2, D.str [119, 111, 114, 116, 104], pairD t, D.int w]) = ret (.bl (ltK p q')) := hgt
              rw [hgt']
              try walk_at "nf"
              have hw : isWorthAt t (q', Act.worth u v) = true := decide_eq_true hut
              rw [hw]
              cases ltK p q' <;> simp
            · have hw : isWorthAt t (q', Act.worth u v) = false := decide_eq_false hut
              rw [decide_eq_false hut, hw]
              simp
        have hlf := List.length_filter_le (fun e => isWorthAt t e && ltK p e.1) L
        rw [fm_filter, if_pos (by rw [List.length_map]; unfold line; omega)]
        try walk_at "nf"
        have t1 : tv (S13 ++ [O.lst ((L.filter fun e => isWorthAt t e && ltK p e.1).map dD)] ++ [O.lst [D.tup [D.int p.1, D.int p.2, D.str [119, 111, 114, 116, 104], pairD t, D.int w]]] ++ [O.lst []]) 8 (.ref S13.length) = some (.lst (((L.filter fun e => isWorthAt t e && ltK p e.1).map dD).map (d0 7))) := tv_lst (.inl ((Sub.app (W := []) _ _).get0 ((Sub.app (W := []) _ _).get0 (get_new _ _)))) (by rw [List.all_map, List.all_eq_true]; intro e _; exact pure7_dD e)
        have t2 : tv (S13 ++ [O.lst ((L.filter fun e => isWorthAt t e && ltK p e.1).map dD)] ++ [O.lst [D.tup [D.int p.1, D.int p.2, D.str [119, 111, 114, 116, 104], pairD t, D.int w]]] ++ [O.lst []]) 8 (.ref (S13 ++ [O.lst ((L.filter fun e => isWorthAt t e && ltK p e.1).map dD)] ++ [O.lst [D.tup [D.int p.1, D.int p.2, D.str [119, 111, 114, 116, 104], pairD t, D.int w]]]).length) = some (.lst (([] : List D).map (d0 7))) := tv_lst (.inl (get_new _ _)) rfl
        rw [wp_eqV t1 t2]
        generalize hb : decide (V0.lst (((L.filter fun e => isWorthAt t e && ltK p e.1).map dD).map (d0 7)) = V0.lst (([] : List D).map (d0 7))) = b
        clear t1 t2
        rw [int_bl]
        try walk_at "nf"
        refine addB b _ _ _ ((Sub.app _ _).trans ((Sub.app _ _).trans (Sub.app _ _))) ((Sub.app (W := []) _ _).get0 (get_new _ _)) ?_ fun S14 q' x1 x2 x3 x4 x5 => ⟨_, _, q', ⟨rfl, rfl, rfl⟩, x1, x2, x3, x4, x5⟩
        rw [← hb, Bool.eq_iff_iff, keep_worth o.srt hdP, decide_eq_true_eq]
        simp only [V0.lst.injEq, List.map_nil, List.map_eq_nil_iff, List.filter_eq_nil_iff]
        constructor
        · intro z
          refine ⟨firstDrop_none.mp hfd, fun e he hw => ?_⟩
          have := z e ((o.mem e).mp he)
          rw [hw] at this
          cases h : ltK p e.1 with
          | false => rfl
          | true => rw [h] at this; exact (this rfl).elim
        · intro z e he h
          rw [Bool.and_eq_true] at h
          have := z.2 e ((o.mem e).mpr he) h.1
          rw [h.2] at this
          cases this
    | drop t =>
      rw [dD_drop]
      walk_at "nf"
      rw [wp_inK hk13, hg' t]
      cases hfd : firstDrop P t with
      | some f =>
        simp only [Option.map_some]
        try walk_at "nf"
        rw [wp_dixP ((Sub.app (W := []) _ _).get0 hk13), hg' t, hfd]
        simp only [Option.map_some]
        try walk_at "nf"
        rw [show (D.tup [D.int p.1, D.int p.2, D.str [100, 114, 111, 112], pairD t]) = dD (p, .drop t) from rfl, cmp_eqP (pure_dD f) (pure_dD _)]
        generalize hb : decide (dD f = dD (p, _)) = b
        try walk_at "nf"
        rw [int_bl]
        try walk_at "nf"
        refine addB b _ _ _ (Sub.app _ _) (get_new _ _) ?_ fun S14 q' x1 x2 x3 x4 x5 => ⟨_, _, q', ⟨rfl, rfl, rfl⟩, x1, x2, x3, x4, x5⟩
        rw [← hb]
        show decide (dD f = dD (p, Act.drop t)) = decide (firstDrop P t = some (p, Act.drop t))
        rw [hfd]
        exact decide_eq_decide.mpr ⟨fun z => by rw [dD_inj z], fun z => by rw [Option.some.inj z]⟩
      | none =>
        rw [firstDrop_none] at hfd
        have h1 := hfd _ hdP
        have h2 : isDropAt t (p, Act.drop t) = true := decide_eq_true rfl
        rw [h2] at h1
        cases h1
  · rintro ρ S13 ⟨d9', d13, q, hρ, s13, hsl13, hq, hq1, hq2⟩
    subst hρ
    have hdue : S13[q]? = some (.lst ((sqM P).map dD)) := hq
    have g13 : Good S13 m P L := ⟨o, ok, by omega, b11.sub s13 (by simp), .inl (s13.get0 hL11)⟩
    have hmo13 := s13.get0 hmo11
    have hL13e := s13.get0 hL11
    clear hq hsl13 s13 hL11 hmo11 b11 hk hkl s12 hq0 hsl
    try walk_at "nf"
    refine squeezed_ok rfl hR.toHDeeds g13 fun S14 f s14 lf hf => ?_
    have g14 := g13.sub s14
    have hdue14 := s14.get0 hdue
    have hL14x : S14[m]? = some (.lst (L.map dD)) := s14.get0 hL13e
    have hmo14 := s14.get0 hmo13
    clear hdue hmo13 s14 g13
    try walk_at "nf"
    have p7 : ∀ A : List Deed, (A.map dD).all (pureN 7) = true := fun A => by
      rw [List.all_map, List.all_eq_true]
      intro e _
      exact pure7_dD e
    have neS : ∀ {S : Store} {Q : NF.D → Store → Prop} {X : Ex → Store → Prop} {a b : Nat} {ds : List NF.D}, S[a]? = some (.lst ds) → S[b]? = some (.lst ds) → ds.all (pureN 7) = true → wp (cmpM .ne (.ref a) (.ref b)) S Q X = Q (.bl false) S := fun {S Q X a b ds} h1 h2 h3 => by
      rw [wp_neV (tv_lst (.inl h1) h3) (tv_lst (.inl h2) h3), decide_eq_false (by simp)]
    have eqS : ∀ {S : Store} {Q : NF.D → Store → Prop} {X : Ex → Store → Prop} {a b : Nat} {ds : List NF.D}, S[a]? = some (.lst ds) → S[b]? = some (.lst ds) → ds.all (pureN 7) = true → wp (cmpM .eq (.ref a) (.ref b)) S Q X = Q (.bl true) S := fun {S Q X a b ds} h1 h2 h3 => by
      rw [wp_eqV (tv_lst (.inl h1) h3) (tv_lst (.inl h2) h3), decide_eq_true rfl]
    rw [neS hf hdue14 (p7 _)]
    try walk_at "nf"
    have hL14 : S14[m]? = some (.lst (L.map dD)) := hL14x
    rw [wp_lst1 hL14, ← List.map_reverse]
    have s15 : NF.Sub [] S14 (S14 ++ [O.lst (L.reverse.map dD)]) := Sub.app _ _
    have g15 : Good (S14 ++ [O.lst (L.reverse.map dD)]) S14.length P L.reverse := ⟨o.of_mem fun d => List.mem_reverse, fun d hd => ok d (List.mem_reverse.mp hd), by rw [List.length_reverse]; omega, g14.b.sub s15 (by simp), .inl (get_new _ _)⟩
    refine squeezed_ok rfl hR.toHDeeds g15 fun S16 f2 s16 lf2 hf2 => ?_
    have s1416 := s15.trans s16
    try walk_at "nf"
    rw [neS hf2 (s1416.get0 hdue14) (p7 _)]
    try walk_at "nf"
    have okS : ∀ d ∈ sqM P, okDeed d = true := fun d hd => okP d (List.mem_filter.mp hd).1
    have sql : (sqM P).length ≤ P.length := List.length_filter_le _ _
    have oS : IsOrd (sqM P) (sqM P) := ⟨o.srt.filter _, fun _ => Iff.rfl⟩
    have g16 : Good S16 f (sqM P) (sqM P) := ⟨oS, okS, by omega, g14.b.sub s1416 (by simp), .inl (s1416.get0 hf)⟩
    refine squeezed_ok rfl hR.toHDeeds g16 fun S17 f3 s17 lf3 hf3 => ?_
    rw [sq_sq o.srt] at hf3
    have s1417 := s1416.trans s17
    try walk_at "nf"
    rw [neS hf3 (s1417.get0 hdue14) (p7 _)]
    try walk_at "nf"
    have hf17 := s1417.get0 hf
    have hmo17 := s1417.get0 hmo14
    have hL17 := s1417.get0 hL14
    have b17 := g14.b.sub s1417 (by simp)
    clear s15 g15 s16 hf2 g16 s17 hf3 s1416 s1417 g14 hdue14 hmo14 hf hL14 hL14x
    -- MORE TOLD
    have ndLM : ((L ++ M).map (·.1)).Nodup := by
      rw [List.map_append, List.nodup_append]
      refine ⟨nd, hMn, fun a ha b hb z => ?_⟩
      obtain ⟨d, hd, rfl⟩ := List.mem_map.mp hb
      exact hMd d hd (z ▸ ha)
    have fLM : Fnl (L ++ M) := nodup_inj ndLM
    have oY := ordL_ord fLM
    generalize ordL (L ++ M) = Y at oY
    have fSM : Fnl (sqM P ++ M) := fun a ha b hb => fLM a (by
      rcases List.mem_append.mp ha with z | z
      · exact List.mem_append_left _ ((o.mem a).mp (List.mem_filter.mp z).1)
      · exact List.mem_append_right _ z) b (by
      rcases List.mem_append.mp hb with z | z
      · exact List.mem_append_left _ ((o.mem b).mp (List.mem_filter.mp z).1)
      · exact List.mem_append_right _ z)
    have oZ := ordL_ord fSM
    generalize ordL (sqM P ++ M) = Z at oZ
    have qz := sqz_more o oY oZ
    have okLM : ∀ d ∈ L ++ M, okDeed d = true := fun d hd => (List.mem_append.mp hd).elim (ok d) (hMok d)
    have okSM : ∀ d ∈ sqM P ++ M, okDeed d = true := fun d hd => (List.mem_append.mp hd).elim (okS d) (hMok d)
    have okY : ∀ d ∈ Y, okDeed d = true := fun d hd => okLM d ((oY.mem d).mp hd)
    have lLM : (L ++ M).length < 64 := by rw [List.length_append]; omega
    have lSM : (sqM P ++ M).length < 64 := by rw [List.length_append]; omega
    have addSM : ∀ {S : Store} {Q : NF.D → Store → Prop} {X : Ex → Store → Prop}, NF.Sub [] S17 S → wp (binD .add (.ref f) (.ref mr)) S Q X = Q (.ref S.length) (S ++ [.lst ((sqM P ++ M).map dD)]) := fun {S Q X} s => by
      rw [wp_addL (s.get0 hf17) (s.get0 hmo17) (by rw [List.length_map, List.length_map]; unfold line; omega), List.map_append]
    have addLM : ∀ {S : Store} {Q : NF.D → Store → Prop} {X : Ex → Store → Prop}, NF.Sub [] S17 S → wp (binD .add (.ref m) (.ref mr)) S Q X = Q (.ref S.length) (S ++ [.lst ((L ++ M).map dD)]) := fun {S Q X} s => by
      rw [wp_addL (s.get0 hL17) (s.get0 hmo17) (by rw [List.length_map, List.length_map]; unfold line; omega), List.map_append]
    have gZ : ∀ {S : Store}, NF.Sub [] S17 S → Good (S ++ [.lst ((sqM P ++ M).map dD)]) S.length Z (sqM P ++ M) := fun {S} s => ⟨oZ, okSM, lSM, b17.sub (s.trans (Sub.app _ _)) (by simp), .inl (get_new _ _)⟩
    have gY : ∀ {S : Store}, NF.Sub [] S17 S → Good (S ++ [.lst ((L ++ M).map dD)]) S.length Y (L ++ M) := fun {S} s => ⟨oY, okLM, lLM, b17.sub (s.trans (Sub.app _ _)) (by simp), .inl (get_new _ _)⟩
    rw [addSM (Sub.refl _ _)]
    try walk_at "nf"
    refine table_ok rfl hR (gZ (Sub.refl _ _)) fun S18 t1 s18 l18 ht1 => ?_
    have s1 : NF.Sub [] S17 S18 := (Sub.app _ _).trans s18
    try walk_at "nf"
    rw [addLM s1]
    try walk_at "nf"
    refine law_table_ok rfl rfl rfl oY ndLM okY (.inl (get_new _ _)) lLM fun S19 t2 s19 l19 ht2 => ?_
    have s1b : NF.Sub [] S18 S19 := (Sub.app _ _).trans s19
    have s2 := s1.trans s1b
    try walk_at "nf"
    have ht1' := s1b.get0 ht1
    rw [← qz.table] at ht1'
    rw [neS ht1' ht2 (pure7_table Y)]
    try walk_at "nf"
    rw [addSM s2]
    try walk_at "nf"
    refine fallen_ok rfl hR (gZ s2) fun S20 f1 s20 l20 hf1 => ?_
    have s3 : NF.Sub [] S17 S20 := s2.trans ((Sub.app _ _).trans s20)
    try walk_at "nf"
    rw [addLM s3]
    try walk_at "nf"
    refine fallen_ok rfl hR (gY s3) fun S21 f2 s21 l21 hf2 => ?_
    have s3b : NF.Sub [] S20 S21 := (Sub.app _ _).trans s21
    have s4 := s3.trans s3b
    try walk_at "nf"
    have hf1' := s3b.get0 hf1
    rw [← qz.fallen] at hf1'
    rw [neS hf1' hf2 (pure7_fallen Y)]
    try walk_at "nf"
    rw [addSM s4]
    try walk_at "nf"
    refine squeezed_ok rfl hR.toHDeeds (gZ s4) fun S22 q1 s22 l22 hq1 => ?_
    have s5 : NF.Sub [] S17 S22 := s4.trans ((Sub.app _ _).trans s22)
    try walk_at "nf"
    rw [addLM s5]
    try walk_at "nf"
    refine squeezed_ok rfl hR.toHDeeds (gY s5) fun S23 q2 s23 l23 hq2 => ?_
    try walk_at "nf"
    have hq1' := ((Sub.app (W := []) _ _).trans s23).get0 hq1
    rw [← qz.sq] at hq1'
    rw [eqS hq1' hq2 (p7 _)]
theorem plain (ns : List Int) (h : ns.length ≤ 63) : ∃ S', callF Δ (depth + 1) "law" [.ref 1] [.rod rod, .rol (ns.map D.int)] = .ok (.bl true) S' := by
  obtain ⟨a, S', e, h⟩ := of_wp (plainW ns)
  exact ⟨S', by rw [e, h]⟩
end K12
end -- P12

section -- Z12
set_option linter.all false
open PySem PySem.W PyProof.Rows
set_option maxRecDepth 100000 in
set_option maxHeartbeats 0 in
theorem PySem.Challenge.cw_namefall_k12_whole_squeezed_holds : PySem.Challenge.rw_namefall_k12_whole_squeezed.Holds := by
  w_on; o_law; k_head; (case hw => w_witness2)
  k_fill
  refine LamX.walk_ofTs (l := PySem.Challenge.rw_namefall_k12_whole_squeezed) (n := 63) (k := 7 * (K12.depth + 1)) (x := ("_law_script" : PySem.Str)) (CX := fun w => L2.CX PySem.Challenge.rw_namefall_k12_whole_squeezed.prog w) rfl (by decide) rfl ⟨rfl, by decide, by decide⟩ (fun w h Y => PySem.W.km_in_of Y) ?F (fun w H s e s' z => NF.cx_no w H s e s' z)
  case F =>
    intro w mg fa h Y KX G hmg
    refine' K12.all_mk KX G hmg (PySem.W.km_tabs_of Y _ List.mem_cons_self) ?gC0 ?pg0 ?hd0 ?po0 ?sa0 ?mk0 ?kc0 ?na0_0 ?na0_1 ?na0_2 ?na0_3 ?na0_4 ?a_is_name ?l_is_name ?c_is_name ?k_is_name ?a_is_worth ?l_is_worth ?c_is_worth ?k_is_worth ?a_is_key ?l_is_key ?c_is_key ?k_is_key ?a_is_deed ?l_is_deed ?c_is_deed ?k_is_deed ?a_look_deeds ?l_look_deeds ?c_look_deeds ?k_look_deeds ?a_in_order ?l_in_order ?c_in_order ?k_in_order ?a_Row_init ?i_Row_init ?l_Row_init ?c_Row_init ?k_Row_init ?a_all_rows ?l_all_rows ?c_all_rows ?k_all_rows ?a_there ?l_there ?c_there ?k_there ?a_named ?l_named ?c_named ?k_named ?a_table ?l_table ?c_table ?k_table ?a_fallen ?l_fallen ?c_fallen ?k_fallen ?a_squeezed ?l_squeezed ?c_squeezed ?k_squeezed ?a__law_cell ?l__law_cell ?c__law_cell ?k__law_cell ?a__law_mix ?l__law_mix ?c__law_mix ?k__law_mix ?a__law_draw ?l__law_draw ?c__law_draw ?k__law_draw ?a__law_pick ?l__law_pick ?c__law_pick ?k__law_pick ?a__law_name ?l__law_name ?c__law_name ?k__law_name ?a__law_deed ?l__law_deed ?c__law_deed ?k__law_deed ?a__law_deeds ?l__law_deeds ?c__law_deeds ?k__law_deeds ?a__law_there ?l__law_there ?c__law_there ?k__law_there ?a__law_shown ?l__law_shown ?c__law_shown ?k__law_shown ?a__law_table ?l__law_table ?c__law_table ?k__law_table ?a_law ?l_law ?c_law ?k_law ?gX0 ?gX1 ?xX1 ?kX1 ?bX1 ?tX1 ?con0 ?cov0 ?con1 ?cov1 ?con2 ?cov2 ?con3 ?cov3 ?con4 ?cov4 ?con5 ?rod0 ?rod1 ?rod2 ?rod3 ?blt0 ?blt1 ?blt2 ?blt3 ?blt4 ?blt5 ?blt6 ?blt7 ?blt8 ?blt9 ?blt10 ?blt11 ?blt12 ?blt13 ?hcT ?nT _ (fun ns hn => K12.plain ns hn)
    (case gC0 => k_is)
    (case pg0 => k_is)
    (case hd0 => k_is)
    (case po0 => k_is)
    (case sa0 => k_is)
    (case mk0 => k_is)
    (case kc0 => k_is)
    (case na0_0 => k_is)
    (case na0_1 => k_is)
    (case na0_2 => k_is)
    (case na0_3 => k_is)
    (case na0_4 => k_is)
    (case a_is_name => k_is)
    (case l_is_name => k_is)
    (case c_is_name => k_is)
    (case k_is_name => k_is)
    (case a_is_worth => k_is)
    (case l_is_worth => k_is)
    (case c_is_worth => k_is)
    (case k_is_worth => k_is)
    (case a_is_key => k_is)
    (case l_is_key => k_is)
    (case c_is_key => k_is)
    (case k_is_key => k_is)
    (case a_is_deed => k_is)
    (case l_is_deed => k_is)
    (case c_is_deed => k_is)
    (case k_is_deed => k_is)
    (case a_look_deeds => k_is)
    (case l_look_deeds => k_is)
    (case c_look_deeds => k_is)
    (case k_look_deeds => k_is)
    (case a_in_order => k_is)
    (case l_in_order => k_is)
    (case c_in_order => k_is)
    (case k_in_order => k_is)
    (case a_Row_init => k_is)
    (case i_Row_init => k_is)
    (case l_Row_init => k_is)
    (case c_Row_init => k_is)
    (case k_Row_init => k_is)
    (case a_all_rows => k_is)
    (case l_all_rows => k_is)
    (case c_all_rows => k_is)
    (case k_all_rows => k_is)
    (case a_there => k_is)
    (case l_there => k_is)
    (case c_there => k_is)
    (case k_there => k_is)
    (case a_named => k_is)
    (case l_named => k_is)
    (case c_named => k_is)
    (case k_named => k_is)
    (case a_table => k_is)
    (case l_table => k_is)
    (case c_table => k_is)
    (case k_table => k_is)
    (case a_fallen => k_is)
    (case l_fallen => k_is)
    (case c_fallen => k_is)
    (case k_fallen => k_is)
    (case a_squeezed => k_is)
    (case l_squeezed => k_is)
    (case c_squeezed => k_is)
    (case k_squeezed => k_is)
    (case a__law_cell => k_is)
    (case l__law_cell => k_is)
    (case c__law_cell => k_is)
    (case k__law_cell => k_is)
    (case a__law_mix => k_is)
    (case l__law_mix => k_is)
    (case c__law_mix => k_is)
    (case k__law_mix => k_is)
    (case a__law_draw => k_is)
    (case l__law_draw => k_is)
    (case c__law_draw => k_is)
    (case k__law_draw => k_is)
    (case a__law_pick => k_is)
    (case l__law_pick => k_is)
    (case c__law_pick => k_is)
    (case k__law_pick => k_is)
    (case a__law_name => k_is)
    (case l__law_name => k_is)
    (case c__law_name => k_is)
    (case k__law_name => k_is)
    (case a__law_deed => k_is)
    (case l__law_deed => k_is)
    (case c__law_deed => k_is)
    (case k__law_deed => k_is)
    (case a__law_deeds => k_is)
    (case l__law_deeds => k_is)
    (case c__law_deeds => k_is)
    (case k__law_deeds => k_is)
    (case a__law_there => k_is)
    (case l__law_there => k_is)
    (case c__law_there => k_is)
    (case k__law_there => k_is)
    (case a__law_shown => k_is)
    (case l__law_shown => k_is)
    (case c__law_shown => k_is)
    (case k__law_shown => k_is)
    (case a__law_table => k_is)
    (case l__law_table => k_is)
    (case c__law_table => k_is)
    (case k__law_table => k_is)
    (case a_law => k_is)
    (case l_law => k_is)
    (case c_law => k_is)
    (case k_law => k_is)
    (case gX0 => k_is)
    (case gX1 => k_is)
    (case xX1 => k_exc)
    (case kX1 => k_is)
    (case bX1 => k_is)
    (case tX1 => k_is)
    (case con0 => k_is)
    (case cov0 => exact ⟨⟨_, rfl⟩, by decide +kernel⟩)
    (case con1 => k_is)
    (case cov1 => exact ⟨_, rfl⟩)
    (case con2 => k_is)
    (case cov2 => exact ⟨_, rfl⟩)
    (case con3 => k_is)
    (case cov3 => exact ⟨_, rfl⟩)
    (case con4 => k_is)
    (case cov4 => exact ⟨_, rfl⟩)
    (case con5 => k_is)
    (case rod0 => k_is)
    (case rod1 => exact ⟨⟨_, _, rfl, rfl⟩, ⟨_, _, rfl, rfl⟩, ⟨_, _, rfl, rfl⟩, ⟨_, _, rfl, rfl⟩, trivial⟩)
    (case rod2 => decide)
    (case rod3 => kernel_rfl)
    (case blt0 => k_is)
    (case blt1 => k_is)
    (case blt2 => k_is)
    (case blt3 => k_is)
    (case blt4 => k_is)
    (case blt5 => k_is)
    (case blt6 => k_is)
    (case blt7 => k_is)
    (case blt8 => k_is)
    (case blt9 => k_is)
    (case blt10 => k_is)
    (case blt11 => k_is)
    (case blt12 => k_is)
    (case blt13 => k_is)
    (case hcT => with_unfolding_all rfl)
    (case nT => with_unfolding_all rfl)
end -- Z12
