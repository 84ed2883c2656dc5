import PyProof.Rows.All
import Wide.All
import OpenK.AllK
import Wide.FinOn
import HandS.ForMost
import HandS.Exc
import HandS.TryOnly
import HandS.ExcOwn
import HandS.WordsExc
import HandS.CallSlots
import HandS.Style
import HandS.TupAny
import HandS.NoneIn
import HandS.More
import KE.KStateDown
import HandS.Defaults
import HandS.Head0
import HandS.Head1
import HandS.Head2
import HandS.HeadEnd
import HandS.HeadHook1
import HandS.HeadHook2
import HandS.ExcValue
import HandS.ExcIs
import HandS.Iter
import HandS.Dict
import HandS.SortInts
import HandS.Text
import KE.KDictSum
import PyProof.DictCopy
import HandS.Conv
import HandS.Deep
import KE.KIntText
import KE.OsScanText
import PySem.Challenge.RW_logtable_k70_whole_walks
set_option Elab.async false
set_option linter.all false
set_option maxRecDepth 100000
/-! C1: data, memory, the monad, operations, expressions and statements (no Python in sight). -/
namespace Lt
open PySem L2

inductive Ecl where
  | row | file | size | old | ended | stop
  deriving DecidableEq
inductive Icl where
  | disk | store | thinning | look | desk
  deriving DecidableEq
/-- data: lists, tuples and frozen dicts are trees; what is changed in place is a cell of the memory -/
inductive D where
  | non | bl (b : Bool) | int (i : Int) | str (s : Str)
  | lst (xs : List D) | klst (xs : List D) | tup (xs : List D) | dic (kvs : List (Key × D))
  | ref (n : Nat) | exc (c : Ecl)
abbrev Ev := List (Option D)
inductive Cell where
  | lst (xs : List D)
  | dic (lk : Bool) (kvs : List (Key × D))
  | ins (c : Icl) (fs : List (Str × D))
  | dead
abbrev Mem := List Cell
inductive R (α : Type) where
  | ok (a : α) (m : Mem) | exc (c : Ecl) (m : Mem) | stk
def M (α : Type) := Mem → R α
inductive SR where
  | nx (ev : Ev) (m : Mem) | ret (d : D) (m : Mem) | brk (ev : Ev) (m : Mem) | ct (ev : Ev) (m : Mem) | exc (c : Ecl) (ev : Ev) (m : Mem) | stk
abbrev EC := Ev → M D
abbrev ET := Ev → M Bool
abbrev EA := Ev → M (List D)
abbrev SC := Ev → Mem → SR
/-- a target: a value into the slots; none where it doesn't fit -/
abbrev TGt := D → Ev → Mem → Option Ev

def pur {α : Type} (a : α) : M α := fun m => .ok a m
def bnd {α β : Type} (x : M α) (f : α → M β) : M β := fun m => match x m with
  | .ok a m' => f a m'
  | .exc c m' => .exc c m'
  | .stk => .stk
def stuck {α : Type} : M α := fun _ => .stk

/-! ### reading -/
def SZ : Nat := 16777216
def rdL : D → Mem → Option (List D)
  | .lst xs, _ => some xs
  | .klst xs, _ => some xs
  | .ref i, m => match m[i]? with
    | some (.lst xs) => some xs
    | _ => none
  | _, _ => none
/-- a list that is no written one -/
def rdW : D → Mem → Option (List D)
  | .lst xs, _ => some xs
  | .ref i, m => match m[i]? with
    | some (.lst xs) => some xs
    | _ => none
  | _, _ => none
def rdK : D → Mem → Option (List (Key × D))
  | .dic kvs, _ => some kvs
  | .ref i, m => match m[i]? with
    | some (.dic _ kvs) => some kvs
    | _ => none
  | _, _ => none
theorem rdL_ref {n : Nat} {m : Mem} {xs : List D} (h : rdL (.ref n) m = some xs) : m[n]? = some (.lst xs) := by
  cases q : m[n]? with
  | none => simp [rdL, q] at h
  | some c => cases c <;> simp_all [rdL]
theorem rdW_ref {n : Nat} {m : Mem} {xs : List D} (h : rdW (.ref n) m = some xs) : m[n]? = some (.lst xs) := by
  cases q : m[n]? with
  | none => simp [rdW, q] at h
  | some c => cases c <;> simp_all [rdW]
theorem rdK_ref {n : Nat} {m : Mem} {kvs : List (Key × D)} (h : rdK (.ref n) m = some kvs) : ∃ lk, m[n]? = some (.dic lk kvs) := by
  cases q : m[n]? with
  | none => simp [rdK, q] at h
  | some c => cases c <;> simp_all [rdK]
def mkL (xs : List D) : M D := fun m => if xs.length ≤ SZ then .ok (.lst xs) m else .stk
def newL (xs : List D) : M D := fun m => if xs.length ≤ SZ then .ok (.ref m.length) (m ++ [.lst xs]) else .stk
/-- a new list: a tree, or (nw) a cell -/
def outL (nw : Bool) (xs : List D) : M D := if nw then newL xs else mkL xs
def mkT (xs : List D) : M D := fun m => if xs.length ≤ SZ then .ok (.tup xs) m else .stk

/-! ### operators -/
def oAdd (nw : Bool) (x y : D) : M D := fun m => match x, y with
  | .int i, .int j => .ok (.int (i + j)) m
  | .str a, .str b => if a.length + b.length ≤ SZ then .ok (.str (a ++ b)) m else .stk
  | .tup a, .tup b => if a.length + b.length ≤ SZ then .ok (.tup (a ++ b)) m else .stk
  | x, y => match rdW x m, rdW y m with
    | some a, some b => if a.length + b.length ≤ SZ then outL nw (a ++ b) m else .stk
    | _, _ => .stk
def oSub (x y : D) : M D := fun m => match x, y with
  | .int i, .int j => .ok (.int (i - j)) m
  | _, _ => .stk
def oMul (x y : D) : M D := fun m => match x, y with
  | .int i, .int j => if (-(2 ^ 64) < i ∧ i < 2 ^ 64) ∨ (-(2 ^ 64) < j ∧ j < 2 ^ 64) then .ok (.int (i * j)) m else .stk
  | _, _ => .stk
def oFdiv (x y : D) : M D := fun m => match x, y with
  | .int i, .int j => if 0 < j ∧ j < 1073741824 then .ok (.int (i / j)) m else .stk
  | _, _ => .stk
def oMod (x y : D) : M D := fun m => match x, y with
  | .int i, .int j => if 0 < j then .ok (.int (i % j)) m else .stk
  | _, _ => .stk
def oPow (x y : D) : M D := fun m => match x, y with
  | .int i, .int j => if 0 ≤ j ∧ j ≤ 1000000 ∧ i.natAbs < 2 ^ 64 then .ok (.int (i ^ j.toNat)) m else .stk
  | _, _ => .stk
def repS (z : Str) (n : Int) : Str := ⟨(List.replicate n.toNat z.cps.toList).flatten.toArray⟩
def oRep (nw : Bool) (x y : D) : M D := fun m => match y with
  | .int n => match x with
    | .str z => if 0 ≤ n ∧ n ≤ 1000000 ∧ z.length * n.toNat ≤ SZ then .ok (.str (repS z n)) m else .stk
    | x => match rdW x m with
      | some xs => if -(2 ^ 63) ≤ n ∧ n < 2 ^ 63 ∧ xs.length * n.toNat ≤ SZ then outL nw (List.replicate n.toNat xs).flatten m else .stk
      | none => .stk
  | _ => .stk
def strLt (a b : Str) : Bool := decide (a.cps.toList < b.cps.toList)
def oLt (x y : D) : M D := fun m => match x, y with
  | .int i, .int j => .ok (.bl (decide (i < j))) m
  | .str i, .str j => .ok (.bl (strLt i j)) m
  | _, _ => .stk
def oLe (x y : D) : M D := fun m => match x, y with
  | .int i, .int j => .ok (.bl (decide (i ≤ j))) m
  | .str i, .str j => .ok (.bl (!strLt j i)) m
  | _, _ => .stk
def oGt (x y : D) : M D := fun m => match x, y with
  | .int i, .int j => .ok (.bl (decide (j < i))) m
  | .str i, .str j => .ok (.bl (strLt j i)) m
  | _, _ => .stk
def oGe (x y : D) : M D := fun m => match x, y with
  | .int i, .int j => .ok (.bl (decide (j ≤ i))) m
  | .str i, .str j => .ok (.bl (!strLt i j)) m
  | _, _ => .stk
/-! equality: scalars by themselves, else by the library's data -/
mutual
def toPy : Mem → D → Option PyData
  | _, .non => some .none
  | _, .bl b => some (.bool b)
  | _, .int i => some (.int i)
  | _, .str s => some (.str s)
  | m, .lst xs => (toPys m xs).map .list
  | m, .klst xs => (toPys m xs).map .list
  | m, .tup xs => (toPys m xs).map .tuple
  | _, .dic _ => none
  | _, .ref _ => none
  | _, .exc _ => none
def toPys : Mem → List D → Option (List PyData)
  | _, [] => some []
  | m, x :: xs => match toPy m x, toPys m xs with
    | some d, some ds => some (d :: ds)
    | _, _ => none
end
/-- .. and a cell's list at the top -/
def toPyT (d : D) (m : Mem) : Option PyData := match d with
  | .ref i => match m[i]? with
    | some (.lst xs) => (toPys m xs).map .list
    | _ => none
  | d => toPy m d
def scalD : D → D → Option Bool
  | .int i, .int j => some (decide (i = j))
  | .str i, .str j => some (decide (i = j))
  | .bl i, .bl j => some (decide (i = j))
  | .non, .non => some true
  | .non, .int _ => some false | .int _, .non => some false
  | .non, .str _ => some false | .str _, .non => some false
  | .non, .bl _ => some false | .bl _, .non => some false
  | .int _, .str _ => some false | .str _, .int _ => some false
  | .bl _, .str _ => some false | .str _, .bl _ => some false
  | _, _ => none
def eqD (x y : D) (m : Mem) : Option Bool := match scalD x y with
  | some b => some b
  | none => match toPyT x m, toPyT y m with
    | some d, some e => if SeqAt.shaped d = true ∧ SeqAt.shaped e = true then some (PyData.eqv d e) else none
    | _, _ => none
def oEq (x y : D) : M D := fun m => match eqD x y m with
  | some b => .ok (.bl b) m
  | none => .stk
def oNe (x y : D) : M D := fun m => match eqD x y m with
  | some b => .ok (.bl (!b)) m
  | none => .stk
def oIsN (x y : D) : M D := fun m => match y with
  | .non => match x with
    | .non => .ok (.bl true) m
    | _ => .ok (.bl false) m
  | _ => .stk
def oNotN (x y : D) : M D := fun m => match y with
  | .non => match x with
    | .non => .ok (.bl false) m
    | _ => .ok (.bl true) m
  | _ => .stk
def flatD : D → Bool
  | .non => true | .bl _ => true | .int _ => true | .str _ => true
  | _ => false
def eqF : D → D → Bool
  | .non, .non => true
  | .bl a, .bl b => a == b
  | .bl a, .int b => (if a then 1 else 0) == b
  | .int a, .bl b => a == (if b then 1 else 0)
  | .int a, .int b => a == b
  | .str a, .str b => a == b
  | _, _ => false
def inF (x : D) (xs : List D) : Bool := xs.any fun y => eqF y x
def keyD : D → Option Key
  | .int i => some (.inl i)
  | .str s => some (.inr s)
  | _ => none
def valD (kvs : List (Key × D)) (k : Key) : Option D := (kvs.find? fun kv => decide (kv.1 = k)).map (·.2)
/-- x in y: flat things in lists and tuples; one sign in a text; a key in a dict -/
def inD (x y : D) (m : Mem) : Option Bool := match y with
  | .str z => match x with
    | .str ⟨⟨[c]⟩⟩ => some (decide (c ∈ z.cps.toList))
    | _ => none
  | .tup ys => if flatD x = true ∧ ys.all flatD = true then some (inF x ys) else none
  | y => match rdL y m with
    | some ys => if flatD x = true ∧ ys.all flatD = true then some (inF x ys) else none
    | none => match rdK y m, keyD x with
      | some kvs, some k => some (valD kvs k).isSome
      | _, _ => none
def oIn (x y : D) : M D := fun m => match inD x y m with
  | some b => .ok (.bl b) m
  | none => .stk
def oNotIn (x y : D) : M D := fun m => match inD x y m with
  | some b => .ok (.bl (!b)) m
  | none => .stk
def oNeg (x : D) : M D := fun m => match x with
  | .int i => .ok (.int (-i)) m
  | _ => .stk

/-! ### places, slices -/
def oIx (x y : D) : M D := fun m => match y with
  | .int i => match x with
    | .tup xs => match atI xs i with
      | some d => .ok d m
      | none => .stk
    | .str z => if z.length ≤ SZ then match atI z.cps.toList i with
        | some c => .ok (.str ⟨#[c]⟩) m
        | none => .stk
      else .stk
    | x => match rdL x m with
      | some xs => match atI xs i with
        | some d => .ok d m
        | none => .stk
      | none => match rdK x m with
        | some kvs => match valD kvs (.inl i) with
          | some d => .ok d m
          | none => .stk
        | none => .stk
  | .str s => match rdK x m with
    | some kvs => match valD kvs (.inr s) with
      | some d => .ok d m
      | none => .stk
    | none => .stk
  | _ => .stk
def cutD (xs : List D) (lo hi : Option Int) : List D := (xs.drop (HT.sIx xs.length 0 lo)).take (HT.sIx xs.length xs.length hi - HT.sIx xs.length 0 lo)
def oSl (nw : Bool) (x : D) (lo hi : Option Int) : M D := fun m => match x with
  | .tup xs => .ok (.tup (cutD xs lo hi)) m
  | .str z => if z.length ≤ SZ then .ok (.str (cutS z lo hi)) m else .stk
  | x => match rdL x m with
    | some xs => outL nw (cutD xs lo hi) m
    | none => .stk
def oRev (nw : Bool) (x : D) : M D := fun m => match rdL x m with
  | some xs => outL nw xs.reverse m
  | none => .stk

/-! ### truth -/
def oTru (x : D) : M Bool := fun m => match x with
  | .non => .ok false m
  | .bl b => .ok b m
  | .int i => .ok (i != 0) m
  | .str s => if s.length ≤ SZ then .ok ((s.length : Int) != 0) m else .stk
  | .tup xs => .ok (!xs.isEmpty) m
  | x => match rdL x m with
    | some xs => .ok (!xs.isEmpty) m
    | none => .stk

/-! ### built-ins -/
def bLen : List D → M D
  | [.str s] => fun m => if s.length ≤ SZ then .ok (.int s.length) m else .stk
  | [.tup xs] => fun m => .ok (.int xs.length) m
  | [x] => fun m => match rdL x m with
    | some xs => .ok (.int xs.length) m
    | none => .stk
  | _ => stuck
def bOrd : List D → M D
  | [.str ⟨⟨[c]⟩⟩] => pur (.int (c : Nat))
  | _ => stuck
def bList (nw : Bool) : List D → M D
  | [.tup xs] => outL nw xs
  | [x] => fun m => match rdL x m with
    | some xs => outL nw xs m
    | none => .stk
  | _ => stuck
def allB : List D → Option (List Bool)
  | [] => some []
  | .bl b :: r => (allB r).map (b :: ·)
  | _ :: _ => none
def bAll : List D → M D
  | [x] => fun m => match rdL x m with
    | some xs => match allB xs with
      | some bs => .ok (.bl (bs.all id)) m
      | none => .stk
    | none => .stk
  | _ => stuck
def bInt : List D → M D
  | [.int i] => pur (.int i)
  | [.bl k] => pur (.int (if k then 1 else 0))
  | _ => stuck
def allS : List D → Option (List Str)
  | [] => some []
  | .str s :: r => (allS r).map (s :: ·)
  | _ :: _ => none
def allI : List D → Option (List Int)
  | [] => some []
  | .int s :: r => (allI r).map (s :: ·)
  | _ :: _ => none
def mJoin (x : D) : List D → M D
  | [y] => fun m => match x, rdL y m with
    | .str a, some ys => match allS ys with
      | some ss => if (ss.map (·.length)).sum + ss.length * a.length ≤ SZ then .ok (.str (Txt.join a ss)) m else .stk
      | none => .stk
    | _, _ => .stk
  | _ => stuck
/-- the first place of a flat thing -/
def idxF (y : D) : List D → Option Nat
  | [] => none
  | z :: r => if eqF z y then some 0 else (idxF y r).map (· + 1)
def mIndex (x : D) : List D → M D
  | [y] => fun m => match rdL x m with
    | some ys => if flatD y = true ∧ ys.all flatD = true then match idxF y ys with
        | some j => .ok (.int (j : Nat)) m
        | none => .stk
      else .stk
    | none => .stk
  | _ => stuck
def mAppend (x : D) : List D → M D
  | [y] => fun m => match x with
    | .ref i => match m[i]? with
      | some (.lst xs) => if xs.length < SZ then .ok .non (m.set i (.lst (xs ++ [y]))) else .stk
      | _ => .stk
    | _ => .stk
  | _ => stuck
def mExtend (x : D) : List D → M D
  | [y] => fun m => match x with
    | .ref i => match m[i]? with
      | some (.lst xs) => match rdW y m with
        | some zs => if xs.length + zs.length ≤ SZ then .ok .non (m.set i (.lst (xs ++ zs))) else .stk
        | none => .stk
      | _ => .stk
    | _ => .stk
  | _ => stuck

/-! ### expressions -/
def eVar (i : Nat) : EC := fun ev m => match ev[i]? with
  | some (some d) => .ok d m
  | _ => .stk
/-- the cell of a name is frozen: its list (dict) is a tree from now on -/
def eFrz (i : Nat) : EC := fun ev m => match ev[i]? with
  | some (some (.ref n)) => match m[n]? with
    | some (.lst xs) => .ok (.lst xs) (m.set n .dead)
    | some (.dic false kvs) => .ok (.dic kvs) (m.set n .dead)
    | _ => .stk
  | _ => .stk
def eC (d : D) : EC := fun _ => pur d
def eBin (o : D → D → M D) (a b : EC) : EC := fun ev => bnd (a ev) fun x => bnd (b ev) fun y => o x y
def eUn (o : D → M D) (a : EC) : EC := fun ev => bnd (a ev) o
def eB1 (b : List D → M D) (a : EA) : EC := fun ev => bnd (a ev) b
def eM (f : D → List D → M D) (o : EC) (a : EA) : EC := fun ev => bnd (o ev) fun x => bnd (a ev) fun xs => f x xs
def aNil : EA := fun _ => pur []
def aCons (a : EC) (r : EA) : EA := fun ev => bnd (a ev) fun x => bnd (r ev) fun xs => pur (x :: xs)
def eTup (a : EA) : EC := fun ev => bnd (a ev) mkT
def eLst (nw : Bool) (a : EA) : EC := fun ev => bnd (a ev) (outL nw)
abbrev EO := Ev → M (Option Int)
def oNone : EO := fun _ => pur none
def oSome (e : EC) : EO := fun ev => bnd (e ev) fun x => match x with
  | .int i => pur (some i)
  | _ => stuck
def eSl (nw : Bool) (e : EC) (lo hi : EO) : EC := fun ev => bnd (e ev) fun x => bnd (lo ev) fun l => bnd (hi ev) fun h => oSl nw x l h
def eIf (t : ET) (a b : EC) : EC := fun ev => bnd (t ev) fun c => if c then a ev else b ev
def tOf (e : EC) : ET := fun ev => bnd (e ev) fun x => match x with
  | .bl b => pur b
  | _ => stuck
def tTru (e : EC) : ET := fun ev => bnd (e ev) oTru
def eTst (t : ET) : EC := fun ev => bnd (t ev) fun b => pur (.bl b)
def tAnd (a b : ET) : ET := fun ev => bnd (a ev) fun c => if c then b ev else pur false
def tOr (a b : ET) : ET := fun ev => bnd (a ev) fun c => if c then pur true else b ev
def tNot (a : ET) : ET := fun ev => bnd (a ev) fun c => pur (!c)
/-- a o b p c, the middle once -/
def eChain (o p : D → D → M D) (a b c : EC) : EC := fun ev => bnd (a ev) fun x => bnd (b ev) fun y => bnd (o x y) fun z => match z with
  | .bl k => if k then bnd (c ev) fun w => p y w else pur (.bl false)
  | _ => stuck
def eCall (f : List D → M D) (a : EA) : EC := fun ev => bnd (a ev) f
def eMeth (f : List D → M D) (o : EC) (a : EA) : EC := fun ev => bnd (o ev) fun x => bnd (a ev) fun xs => f (x :: xs)

def eAnd (a b : EC) : EC := fun ev => bnd (a ev) fun x => match x with
  | .bl true => b ev
  | .bl false => pur (.bl false)
  | _ => stuck
def eOr (a b : EC) : EC := fun ev => bnd (a ev) fun x => match x with
  | .bl true => pur (.bl true)
  | .bl false => b ev
  | _ => stuck
def eNot (a : EC) : EC := fun ev => bnd (a ev) fun x => match x with
  | .bl b => pur (.bl (!b))
  | _ => stuck
/-- o.m(..), o a list -/
def eML (f : D → List D → M D) (o : EC) (a : EA) : EC := fun ev => bnd (o ev) fun x => fun m => match rdL x m with
  | some _ => bnd (a ev) (fun xs => f x xs) m
  | none => .stk
def eMS (f : D → List D → M D) (o : EC) (a : EA) : EC := fun ev => bnd (o ev) fun x => match x with
  | .str s => bnd (a ev) fun xs => f (.str s) xs
  | _ => stuck

/-! ### targets -/
def gName (i : Nat) : TGt := fun d ev _ => some (ev.set i (some d))
def gTups : List Nat → List D → Ev → Option Ev
  | [], [], ev => some ev
  | i :: is, d :: ds, ev => gTups is ds (ev.set i (some d))
  | _, _, _ => none
def gTup (is : List Nat) : TGt := fun d ev _ => match d with
  | .tup ds => gTups is ds ev
  | _ => none
def gLst (is : List Nat) : TGt := fun d ev m => match rdL d m with
  | some ds => gTups is ds ev
  | none => none

/-! ### what is walked: the items, and what must hold of the memory at each turn -/
structure Walk where
  items : List D
  hold : Mem → Prop
abbrev EI := Ev → M Walk
def iLst (e : EC) : EI := fun ev => bnd (e ev) fun x => fun m => match x with
  | .ref i => match m[i]? with
    | some (.lst xs) => .ok ⟨xs, fun m' => m'[i]? = some (.lst xs)⟩ m
    | _ => .stk
  | x => match rdL x m with
    | some xs => .ok ⟨xs, fun _ => True⟩ m
    | none => .stk
def iTup (e : EC) : EI := fun ev => bnd (e ev) fun x => match x with
  | .tup xs => pur ⟨xs, fun _ => True⟩
  | _ => stuck
def iStr (e : EC) : EI := fun ev => bnd (e ev) fun x => match x with
  | .str s => pur ⟨s.cps.toList.map fun c => .str ⟨#[c]⟩, fun _ => True⟩
  | _ => stuck
def rngI (lo hi : Int) : List D := (List.range (hi - lo).toNat).map fun k => D.int (lo + (k : Nat))
def smallI (i : Int) : Prop := -(2 ^ 62) ≤ i ∧ i < 2 ^ 62
instance (i : Int) : Decidable (smallI i) := inferInstanceAs (Decidable (_ ∧ _))
def iRng1 (a : EC) : EI := fun ev => bnd (a ev) fun x => match x with
  | .int j => if smallI j then pur ⟨rngI 0 j, fun _ => True⟩ else stuck
  | _ => stuck
def iRng2 (a b : EC) : EI := fun ev => bnd (a ev) fun x => bnd (b ev) fun y => match x, y with
  | .int i, .int j => if smallI i ∧ smallI j then pur ⟨rngI i j, fun _ => True⟩ else stuck
  | _, _ => stuck

/-! ### comprehensions: the names of their own are empty around each turn -/
def wipeE (ev : Ev) : List Nat → Ev
  | [] => ev
  | v :: vs => (wipeE ev vs).set v none
open Classical in
noncomputable def lcGo (hold : Mem → Prop) (g : TGt) (t : ET) (e : EC) (ev : Ev) : List D → List D → M (List D)
  | [], acc => fun m => if hold m then .ok acc m else .stk
  | x :: xs, acc => fun m => if hold m then match g x ev m with
    | none => .stk
    | some ev1 => match t ev1 m with
      | .ok true m1 => match e ev1 m1 with
        | .ok y m2 => if acc.length < SZ then lcGo hold g t e ev xs (acc ++ [y]) m2 else .stk
        | _ => .stk
      | .ok false m1 => lcGo hold g t e ev xs acc m1
      | _ => .stk
    else .stk
noncomputable def eLc (nw : Bool) (own : List Nat) (i : EI) (g : TGt) (t : ET) (e : EC) : EC := fun ev => bnd (i ev) fun w =>
  bnd (lcGo w.hold g t e (wipeE ev own) w.items []) (outL nw)
def tYes : ET := fun _ => pur true

/-! ### statements -/
def ofE {α : Type} (r : R α) (ev : Ev) (k : α → Mem → SR) : SR := match r with
  | .ok a m => k a m
  | .exc c m => .exc c ev m
  | .stk => .stk
def sNop : SC := fun ev m => .nx ev m
def sSeq (a b : SC) : SC := fun ev m => match a ev m with
  | .nx ev' m' => b ev' m'
  | r => r
def sSet (i : Nat) (e : EC) : SC := fun ev m => ofE (e ev m) ev fun d m' => .nx (ev.set i (some d)) m'
def sUnp (g : TGt) (e : EC) : SC := fun ev m => ofE (e ev m) ev fun d m' => match g d ev m' with
  | some ev' => .nx ev' m'
  | none => .stk
def sPar (i j : Nat) (a b : EC) : SC := fun ev m => ofE (a ev m) ev fun x m1 => ofE (b ev m1) ev fun y m2 => .nx ((ev.set i (some x)).set j (some y)) m2
def sExpr (e : EC) : SC := fun ev m => ofE (e ev m) ev fun _ m' => .nx ev m'
def sRet (e : EC) : SC := fun ev m => ofE (e ev m) ev fun d m' => .ret d m'
def sRetN : SC := fun _ m => .ret .non m
def sIf (t : ET) (a b : SC) : SC := fun ev m => ofE (t ev m) ev fun c m' => if c then a ev m' else b ev m'
def sRaise (c : Ecl) : SC := fun ev m => .exc c ev m
open Classical in
noncomputable def forGo (hold : Mem → Prop) (g : TGt) (b : SC) : List D → SC
  | [], ev, m => if hold m then .nx ev m else .stk
  | x :: xs, ev, m => if hold m then match g x ev m with
    | none => .stk
    | some ev1 => match b ev1 m with
      | .nx ev2 m2 => forGo hold g b xs ev2 m2
      | .ct ev2 m2 => forGo hold g b xs ev2 m2
      | .brk ev2 m2 => .nx ev2 m2
      | .ret d m2 => .ret d m2
      | .exc c ev2 m2 => .exc c ev2 m2
      | .stk => .stk
    else .stk
noncomputable def sFor (i : EI) (g : TGt) (b : SC) : SC := fun ev m => ofE (i ev m) ev fun w m' => forGo w.hold g b w.items ev m'
def whGo (t : ET) (b : SC) : Nat → SC
  | 0, _, _ => .stk
  | n + 1, ev, m => ofE (t ev m) ev fun c m1 => if c then match b ev m1 with
      | .nx ev2 m2 => whGo t b n ev2 m2
      | .ct ev2 m2 => whGo t b n ev2 m2
      | .brk ev2 m2 => .nx ev2 m2
      | .ret d m2 => .ret d m2
      | .exc c ev2 m2 => .exc c ev2 m2
      | .stk => .stk
    else .nx ev m1
/-- a loop has so many turns at most: a number that no run reaches -/
def FUEL : Nat := 2 ^ 64
def sWhile (t : ET) (b : SC) : SC := whGo t b FUEL

/-- try: b / except: s; ps: what b may raise; mt: what is caught -/
def sTryOnly (ps : List Ecl) (mt : Ecl → Bool) (b s : SC) : SC := fun ev m => match b ev m with
  | .exc c ev' m' => if c ∈ ps then (if mt c = true then (match s ev' m' with | .exc _ _ _ => .stk | r => r) else .exc c ev' m') else .stk
  | r => r

/-! ### defs -/
def evOf (n : Nat) (ds : List D) : Ev := ds.map some ++ List.replicate (n - ds.length) none
def runB (n : Nat) (b : SC) (ds : List D) : M D := fun m => match b (evOf n ds) m with
  | .nx _ m' => .ok .non m'
  | .ret d m' => .ok d m'
  | .exc c _ m' => .exc c m'
  | _ => .stk
/-- a def of k parameters and n names -/
@[irreducible] def runF (k n : Nat) (b : SC) (ds : List D) : M D := if ds.length = k then runB n b ds else stuck
/-! data without cells -/
mutual
def flat0 : D → Bool
  | .non => true | .bl _ => true | .int _ => true | .str _ => true | .exc _ => true
  | .lst xs => flat0s xs
  | .klst xs => flat0s xs
  | .tup xs => flat0s xs
  | .dic kvs => flat0k kvs
  | .ref _ => false
def flat0s : List D → Bool
  | [] => true
  | x :: xs => flat0 x && flat0s xs
def flat0k : List (Key × D) → Bool
  | [] => true
  | (_, x) :: xs => flat0 x && flat0k xs
end
open Classical in
/-- .. that leaves the memory as it was: its own cells are forgotten -/
noncomputable def runP (k n : Nat) (b : SC) (ds : List D) : M D := fun m => match runF k n b ds m with
  | .ok d m' => if m'.take m.length = m ∧ flat0 d = true then .ok d m else .stk
  | .exc c m' => if m'.take m.length = m then .exc c m else .stk
  | .stk => .stk
end Lt

set_option Elab.async false
set_option linter.all false
set_option maxRecDepth 100000
/-! C2: how data and memory stand in the abstract heap; growth. -/
namespace Lt
open PySem L2

/-- the constants: the written part, where the classes stand -/
structure Cn where
  K : PySem.W.Frag
  eA : Ecl → Addr
  iA : Icl → Addr
inductive Own where
  | imm | cell (i : Nat) | lck (i : Nat)
/-- whose objects stay as they are -/
def Own.fx : Own → Bool
  | .cell _ => false
  | _ => true
structure Wd where
  own : Addr → Option Own
  al : List Addr
def ExV (cls : Value) (a : Addr) : HO := .ext fun h => ∃ (oe : Obj) (vs : Array Value), h.get? a = some oe ∧ Zc cls none oe ∧ oe.data = .fields vs
mutual
inductive IsV (C : Cn) (S : Wd) (H : Hp) : V → D → Prop where
  | non : IsV C S H .non .non
  | bl (b : Bool) : IsV C S H (.bl b) (.bl b)
  | int (i : Int) : IsV C S H (.int i) (.int i)
  | str (s : Str) : IsV C S H (.str s) (.str s)
  | lst {a : Addr} {vs : List V} {ds : List D} : S.own a = some .imm → H a = some (.lst vs) → IsVs C S H vs ds → IsV C S H (.ref a) (.lst ds)
  | klst {a : Addr} {vs : List V} {ds : List D} : ((S.own a = some .imm ∧ ∃ o, H a = some (.frz o (.lst vs))) ∨ SqL C.K (fun _ => none) a vs) → IsVs C S H vs ds → IsV C S H (.ref a) (.klst ds)
  | tup {a : Addr} {vs : List V} {ds : List D} : S.own a = some .imm → H a = some (.tup vs) → IsVs C S H vs ds → IsV C S H (.ref a) (.tup ds)
  | dic {a : Addr} {kvs : List (Key × V)} {kds : List (Key × D)} : S.own a = some .imm → Rd H a (.dK kvs) → IsKs C S H kvs kds → IsV C S H (.ref a) (.dic kds)
  | ref {a : Addr} {n : Nat} : S.al[n]? = some a → IsV C S H (.ref a) (.ref n)
  | exc {a : Addr} (c : Ecl) : S.own a = some .imm → H a = some (ExV (.ref (C.eA c)) a) → IsV C S H (.ref a) (.exc c)
inductive IsVs (C : Cn) (S : Wd) (H : Hp) : List V → List D → Prop where
  | nil : IsVs C S H [] []
  | cons {v : V} {d : D} {vs : List V} {ds : List D} : IsV C S H v d → IsVs C S H vs ds → IsVs C S H (v :: vs) (d :: ds)
inductive IsKs (C : Cn) (S : Wd) (H : Hp) : List (Key × V) → List (Key × D) → Prop where
  | nil : IsKs C S H [] []
  | cons {k : Key} {v : V} {d : D} {vs : List (Key × V)} {ds : List (Key × D)} : IsV C S H v d → IsKs C S H vs ds → IsKs C S H ((k, v) :: vs) ((k, d) :: ds)
end
def Hard : HO → Prop
  | .lst _ => True
  | .tup _ => True
  | .ext _ => True
  | .frz _ (.lst _) => True
  | .frz _ (.dK _) => True
  | _ => False
structure Grow0 (S : Wd) (H : Hp) (S' : Wd) (H' : Hp) : Prop where
  al : ∀ (i : Nat) (a : Addr), S.al[i]? = some a → S'.al[i]? = some a
  own : ∀ a, S.own a = some .imm → S'.own a = some .imm
  hd : ∀ a u, S.own a = some .imm → Hard u → H a = some u → H' a = some u
  dk : ∀ a kvs, S.own a = some .imm → Rd H a (.dK kvs) → Rd H' a (.dK kvs)
structure Grow (S : Wd) (H : Hp) (S' : Wd) (H' : Hp) : Prop where
  al : ∀ (i : Nat) (a : Addr), S.al[i]? = some a → S'.al[i]? = some a
  own : ∀ a o, S.own a = some o → o.fx = true → S'.own a = some o
  hd : ∀ a o u, S.own a = some o → o.fx = true → Hard u → H a = some u → H' a = some u
  dk : ∀ a kvs, S.own a = some .imm → Rd H a (.dK kvs) → Rd H' a (.dK kvs)
  fr : ∀ a u, S.own a = none → H a = some u → H' a = some u ∧ S'.own a = none
section
variable {C : Cn} {S S1 S2 : Wd} {H H1 H2 : Hp}
theorem Grow.g0 (g : Grow S H S1 H1) : Grow0 S H S1 H1 := ⟨g.al, fun a h => g.own a _ h rfl, fun a u h => g.hd a _ u h rfl, g.dk⟩
theorem Grow.refl : Grow S H S H := ⟨fun _ _ h => h, fun _ _ h _ => h, fun _ _ _ _ _ _ h => h, fun _ _ _ h => h, fun _ _ h1 h2 => ⟨h2, h1⟩⟩
theorem Grow.trans (a : Grow S H S1 H1) (b : Grow S1 H1 S2 H2) : Grow S H S2 H2 :=
  ⟨fun i x h => b.al i x (a.al i x h), fun x o h f => b.own x o (a.own x o h f) f, fun x o u h f z e => b.hd x o u (a.own x o h f) f z (a.hd x o u h f z e), fun x k o h => b.dk x k (a.own x _ o rfl) (a.dk x k o h),
    fun x u o h => b.fr x u (a.fr x u o h).2 (a.fr x u o h).1⟩
mutual
theorem IsV.mono0 (g : Grow0 S H S1 H1) : ∀ {v : V} {d : D}, IsV C S H v d → IsV C S1 H1 v d
  | _, _, .non => .non
  | _, _, .bl b => .bl b
  | _, _, .int i => .int i
  | _, _, .str s => .str s
  | _, _, .lst o h t => .lst (g.own _ o) (g.hd _ _ o trivial h) (IsVs.mono0 g t)
  | _, _, .klst (.inl ⟨o, ob, h⟩) t => .klst (.inl ⟨g.own _ o, ob, g.hd _ _ o trivial h⟩) (IsVs.mono0 g t)
  | _, _, .klst (.inr h) t => .klst (.inr h) (IsVs.mono0 g t)
  | _, _, .tup o h t => .tup (g.own _ o) (g.hd _ _ o trivial h) (IsVs.mono0 g t)
  | _, _, .dic o h t => .dic (g.own _ o) (g.dk _ _ o h) (IsKs.mono0 g t)
  | _, _, .ref h => .ref (g.al _ _ h)
  | _, _, .exc c o h => .exc c (g.own _ o) (g.hd _ _ o trivial h)
theorem IsVs.mono0 (g : Grow0 S H S1 H1) : ∀ {v : List V} {d : List D}, IsVs C S H v d → IsVs C S1 H1 v d
  | _, _, .nil => .nil
  | _, _, .cons h t => .cons (IsV.mono0 g h) (IsVs.mono0 g t)
theorem IsKs.mono0 (g : Grow0 S H S1 H1) : ∀ {v : List (Key × V)} {d : List (Key × D)}, IsKs C S H v d → IsKs C S1 H1 v d
  | _, _, .nil => .nil
  | _, _, .cons h t => .cons (IsV.mono0 g h) (IsKs.mono0 g t)
end
theorem IsV.mono {v : V} {d : D} (g : Grow S H S1 H1) (h : IsV C S H v d) : IsV C S1 H1 v d := IsV.mono0 g.g0 h
theorem IsVs.mono {v : List V} {d : List D} (g : Grow S H S1 H1) (h : IsVs C S H v d) : IsVs C S1 H1 v d := IsVs.mono0 g.g0 h
theorem IsKs.mono {v : List (Key × V)} {d : List (Key × D)} (g : Grow S H S1 H1) (h : IsKs C S H v d) : IsKs C S1 H1 v d := IsKs.mono0 g.g0 h
/-! lists of data -/
theorem IsVs.length : ∀ {vs : List V} {ds : List D}, IsVs C S H vs ds → vs.length = ds.length
  | _, _, .nil => rfl
  | _, _, .cons _ t => by rw [List.length_cons, List.length_cons, IsVs.length t]
theorem IsVs.app : ∀ {vs ws : List V} {ds es : List D}, IsVs C S H vs ds → IsVs C S H ws es → IsVs C S H (vs ++ ws) (ds ++ es)
  | _, _, _, _, .nil, h => h
  | _, _, _, _, .cons a t, h => .cons a (IsVs.app t h)
theorem IsVs.one {v : V} {d : D} (h : IsV C S H v d) : IsVs C S H [v] [d] := .cons h .nil
theorem IsVs.at : ∀ {vs : List V} {ds : List D} {i : Nat} {d : D}, IsVs C S H vs ds → ds[i]? = some d → ∃ v, vs[i]? = some v ∧ IsV C S H v d
  | _, _, 0, _, .cons h _, e => by
    cases (Option.some.inj e : _ = _)
    exact ⟨_, rfl, h⟩
  | _, _, i + 1, d, .cons _ t, e => IsVs.at (i := i) t e
theorem IsVs.atV : ∀ {vs : List V} {ds : List D} {i : Nat} {v : V}, IsVs C S H vs ds → vs[i]? = some v → ∃ d, ds[i]? = some d ∧ IsV C S H v d
  | _, _, 0, _, .cons h _, e => by
    cases (Option.some.inj e : _ = _)
    exact ⟨_, rfl, h⟩
  | _, _, i + 1, d, .cons _ t, e => IsVs.atV (i := i) t e
theorem IsVs.dropn : ∀ {vs : List V} {ds : List D} (n : Nat), IsVs C S H vs ds → IsVs C S H (vs.drop n) (ds.drop n)
  | _, _, 0, h => h
  | _, _, n + 1, .nil => .nil
  | _, _, n + 1, .cons _ t => IsVs.dropn n t
theorem IsVs.taken : ∀ {vs : List V} {ds : List D} (n : Nat), IsVs C S H vs ds → IsVs C S H (vs.take n) (ds.take n)
  | _, _, 0, _ => .nil
  | _, _, n + 1, .nil => .nil
  | _, _, n + 1, .cons h t => .cons h (IsVs.taken n t)
theorem IsVs.rev {vs : List V} {ds : List D} (h : IsVs C S H vs ds) : IsVs C S H vs.reverse ds.reverse := by
  induction vs generalizing ds with
  | nil => cases h; exact .nil
  | cons v vs ih =>
    cases h with
    | cons a t =>
      rw [List.reverse_cons, List.reverse_cons]
      exact (ih t).app (.one a)
theorem IsVs.cut {vs : List V} {ds : List D} (lo hi : Option Int) (h : IsVs C S H vs ds) : IsVs C S H (cutV vs lo hi) (cutD ds lo hi) := by
  unfold cutV cutD
  rw [h.length]
  exact (h.dropn _).taken _
theorem IsVs.atI {vs : List V} {ds : List D} {i : Int} {d : D} (h : IsVs C S H vs ds) (e : L2.atI ds i = some d) : ∃ v, L2.atI vs i = some v ∧ IsV C S H v d := by
  unfold L2.atI at e ⊢
  rw [h.length]
  cases q : ixN ds.length i with
  | none => rw [q] at e; cases e
  | some j =>
    rw [q] at e
    exact h.at e
theorem IsVs.setn : ∀ {vs : List V} {ds : List D} (n : Nat) {v : V} {d : D}, IsVs C S H vs ds → IsV C S H v d → IsVs C S H (vs.set n v) (ds.set n d)
  | _, _, _, _, _, .nil, _ => .nil
  | _, _, 0, _, _, .cons _ t, h => .cons h t
  | _, _, n + 1, _, _, .cons a t, h => .cons a (IsVs.setn n t h)
theorem IsVs.repl {v : V} {d : D} (h : IsV C S H v d) : ∀ n : Nat, IsVs C S H (List.replicate n v) (List.replicate n d)
  | 0 => .nil
  | n + 1 => .cons h (IsVs.repl h n)

/-! the memory -/
def FsOk (C : Cn) (S : Wd) (H : Hp) (fv : List (Str × V)) (fs : List (Str × D)) : Prop := fv.map (·.1) = fs.map (·.1) ∧ IsVs C S H (fv.map (·.2)) (fs.map (·.2))
def CellOk (C : Cn) (S : Wd) (H : Hp) (i : Nat) (a : Addr) : Cell → Prop
  | .lst ds => ∃ vs, H a = some (.lst vs) ∧ IsVs C S H vs ds
  | .dic lk kds => ∃ kvs, Rd H a (.dK kvs) ∧ (lk = false → H a = some (.dK kvs)) ∧ IsKs C S H kvs kds ∧ (lk = true → S.own a = some (.lck i))
  | .ins c fs => ∃ dx fv, H a = some (.ins (C.iA c) dx fv) ∧ S.own dx = some (.cell i) ∧ FsOk C S H fv fs
  | .dead => True
def Live : Cell → Prop
  | .dead => False
  | .dic true _ => False
  | _ => True
structure Rep (C : Cn) (S : Wd) (H : Hp) (m : Mem) : Prop where
  len : S.al.length = m.length
  own : ∀ i a c, S.al[i]? = some a → m[i]? = some c → Live c → S.own a = some (.cell i)
  ok : ∀ i a c, S.al[i]? = some a → m[i]? = some c → CellOk C S H i a c
  free : ∀ a, H a = none → S.own a = none
theorem CellOk.mono0 {i : Nat} {a : Addr} {c : Cell} (g : Grow0 S H S1 H1) (ha : ∀ u, H a = some u → H1 a = some u) (hx : ∀ dx, S.own dx = some (.cell i) → S1.own dx = some (.cell i)) (hz : S.own a = some (.lck i) → S1.own a = some (.lck i)) (h : CellOk C S H i a c) : CellOk C S1 H1 i a c := by
  cases c with
  | lst ds => obtain ⟨vs, e, t⟩ := h; exact ⟨vs, ha _ e, t.mono0 g⟩
  | dic lk kds =>
    obtain ⟨kvs, r, l, t, z⟩ := h
    refine ⟨kvs, ?_, fun z => ha _ (l z), t.mono0 g, fun e => hz (z e)⟩
    rcases r with r | ⟨o, r⟩
    · exact .inl (ha _ r)
    · exact .inr ⟨o, ha _ r⟩
  | ins c fs => obtain ⟨dx, fv, e, o, n, t⟩ := h; exact ⟨dx, fv, ha _ e, hx _ o, n, t.mono0 g⟩
  | dead => trivial
theorem CellOk.mono {i : Nat} {a : Addr} {c : Cell} (g : Grow S H S1 H1) (ha : ∀ u, H a = some u → H1 a = some u) (hx : ∀ dx, S.own dx = some (.cell i) → S1.own dx = some (.cell i)) (h : CellOk C S H i a c) : CellOk C S1 H1 i a c := CellOk.mono0 g.g0 ha hx (fun e => g.own _ _ e rfl) h
def Wd.put (S : Wd) (p : Addr) (o : Own) : Wd := { S with own := fun a => if a = p then some o else S.own a }
theorem Wd.put_same {p : Addr} {o : Own} : (S.put p o).own p = some o := if_pos rfl
theorem Wd.put_ne {p a : Addr} {o : Own} (h : a ≠ p) : (S.put p o).own a = S.own a := if_neg h
theorem ne_own {a b : Addr} {o u : Own} (h : S.own a = some o) (h' : S.own b = some u) (n : o ≠ u) : a ≠ b := fun e => by
  rw [e, h'] at h
  exact n (Option.some.inj h).symm
theorem ne_free {a b : Addr} {o : Own} (h : S.own a = some o) (h' : S.own b = none) : a ≠ b := fun e => by
  rw [e, h'] at h
  cases h
theorem rd_upd {a p : Addr} {o u : HO} (h : a ≠ p) (r : Rd H a u) : Rd (upd H p o) a u := by
  rcases r with r | ⟨ob, r⟩
  · exact .inl (by rw [upd_ne h]; exact r)
  · exact .inr ⟨ob, by rw [upd_ne h]; exact r⟩
theorem Grow.new {p : Addr} {o : Own} {u : HO} (hp : H p = none) (hf : S.own p = none) : Grow S H (S.put p o) (upd H p u) :=
  ⟨fun _ _ h => h, fun a _ h _ => by rw [Wd.put_ne (ne_free h hf)]; exact h, fun a _ u' h _ _ e => by rw [upd_ne (ne_free h hf)]; exact e,
    fun a kvs h r => rd_upd (ne_free h hf) r, fun a u' h e => by
      have n : a ≠ p := fun z => by rw [z, hp] at e; cases e
      exact ⟨by rw [upd_ne n]; exact e, by rw [Wd.put_ne n]; exact h⟩⟩
theorem Rep.ow {m : Mem} {i : Nat} {a : Addr} {c : Cell} (R : Rep C S H m) (h1 : S.al[i]? = some a) (h2 : m[i]? = some c) (h3 : c ≠ .dead) : S.own a = some (.cell i) ∨ S.own a = some (.lck i) := by
  cases c with
  | dead => exact absurd rfl h3
  | dic lk kds =>
    cases lk with
    | true => obtain ⟨_, _, _, _, z⟩ := R.ok i a _ h1 h2; exact .inr (z rfl)
    | false => exact .inl (R.own i a _ h1 h2 trivial)
  | lst _ => exact .inl (R.own i a _ h1 h2 trivial)
  | ins _ _ => exact .inl (R.own i a _ h1 h2 trivial)
/-- a new tree object -/
theorem Rep.imm {m : Mem} {p : Addr} {u : HO} (R : Rep C S H m) (hp : H p = none) : Rep C (S.put p .imm) (upd H p u) m ∧ Grow S H (S.put p .imm) (upd H p u) := by
  have hf := R.free p hp
  have g : Grow S H (S.put p .imm) (upd H p u) := Grow.new hp hf
  refine ⟨⟨R.len, fun i a c h1 h2 h3 => ?_, fun i a c h1 h2 => ?_, fun a h => ?_⟩, g⟩
  · have q := R.own i a c h1 h2 h3
    rw [Wd.put_ne (ne_free q hf)]
    exact q
  · cases hc : c with
    | dead => trivial
    | _ =>
      have na : a ≠ p := by rcases R.ow h1 h2 (by rw [hc]; exact fun z => nomatch z) with q | q <;> exact ne_free q hf
      rw [← hc]
      exact (R.ok i a c h1 h2).mono g (fun u' e => by rw [upd_ne na]; exact e) (fun dx e => by rw [Wd.put_ne (ne_free e hf)]; exact e)
  · have n : a ≠ p := fun z => by rw [z, upd_same] at h; cases h
    rw [upd_ne n] at h
    rw [Wd.put_ne n]
    exact R.free a h
/-- a new cell -/
theorem Rep.cellO {m : Mem} {p : Addr} {u : HO} {c : Cell} (R : Rep C S H m) (hp : H p = none)
    (hc : ∀ S1 : Wd, Grow S H S1 (upd H p u) → (∀ a o, S.own a = some o → S1.own a = some o) → CellOk C S1 (upd H p u) m.length p c) :
    ∃ S1, Rep C S1 (upd H p u) (m ++ [c]) ∧ Grow S H S1 (upd H p u) ∧ S1.al[m.length]? = some p ∧ S1.own p = some (.cell m.length) := by
  have hf := R.free p hp
  have g0 : Grow S H (S.put p (.cell m.length)) (upd H p u) := Grow.new hp hf
  have al : ∀ i a, S.al[i]? = some a → (S.al ++ [p])[i]? = some a := fun i a h => by
    rw [List.getElem?_append_left (List.getElem?_eq_some_iff.mp h).1]
    exact h
  have g : Grow S H { S.put p (.cell m.length) with al := S.al ++ [p] } (upd H p u) := ⟨al, g0.own, g0.hd, g0.dk, g0.fr⟩
  have hl : (S.al ++ [p])[m.length]? = some p := by
    rw [← R.len, List.getElem?_append_right (Nat.le_refl _), Nat.sub_self]
    rfl
  have old : ∀ i, i ≠ m.length → ∀ a c', (S.al ++ [p])[i]? = some a → (m ++ [c])[i]? = some c' → S.al[i]? = some a ∧ m[i]? = some c' := fun i hi a c' h1 h2 => by
    have lt := (List.getElem?_eq_some_iff.mp h2).1
    rw [List.length_append, List.length_singleton] at lt
    have lt' : i < m.length := by omega
    rw [List.getElem?_append_left (by rw [R.len]; exact lt')] at h1
    rw [List.getElem?_append_left lt'] at h2
    exact ⟨h1, h2⟩
  refine ⟨{ S.put p (.cell m.length) with al := S.al ++ [p] }, ⟨?_, fun i a c' h1 h2 h3 => ?_, fun i a c' h1 h2 => ?_, fun a h => ?_⟩, g, hl, Wd.put_same⟩
  · show (S.al ++ [p]).length = (m ++ [c]).length
    rw [List.length_append, List.length_append, R.len]
    rfl
  · by_cases hi : i = m.length
    · subst hi
      have e : a = p := by
        have q := h1.symm.trans hl
        exact Option.some.inj q
      subst e
      exact Wd.put_same
    · obtain ⟨q1, q2⟩ := old i hi a c' h1 h2
      have q := R.own i a c' q1 q2 h3
      exact (Wd.put_ne (ne_free q hf)).trans q
  · by_cases hi : i = m.length
    · subst hi
      have e : a = p := Option.some.inj (h1.symm.trans hl)
      subst e
      have ec : c' = c := by
        rw [List.getElem?_append_right (Nat.le_refl _), Nat.sub_self] at h2
        exact (Option.some.inj h2).symm
      subst ec
      exact hc _ g fun b o h => (Wd.put_ne (ne_free h hf)).trans h
    · obtain ⟨q1, q2⟩ := old i hi a c' h1 h2
      cases hc' : c' with
      | dead => trivial
      | _ =>
        have na : a ≠ p := by rcases R.ow q1 q2 (by rw [hc']; exact fun z => nomatch z) with q | q <;> exact ne_free q hf
        rw [← hc']
        exact (R.ok i a c' q1 q2).mono g (fun u' e => by rw [upd_ne na]; exact e) (fun dx e => (Wd.put_ne (ne_free e hf)).trans e)
  · have n : a ≠ p := fun z => by rw [z, upd_same] at h; cases h
    rw [upd_ne n] at h
    exact (Wd.put_ne n).trans (R.free a h)
theorem Rep.cell {m : Mem} {p : Addr} {u : HO} {c : Cell} (R : Rep C S H m) (hp : H p = none)
    (hc : ∀ S1 : Wd, Grow S H S1 (upd H p u) → CellOk C S1 (upd H p u) m.length p c) :
    ∃ S1, Rep C S1 (upd H p u) (m ++ [c]) ∧ Grow S H S1 (upd H p u) ∧ S1.al[m.length]? = some p ∧ S1.own p = some (.cell m.length) := R.cellO hp fun S1 g _ => hc S1 g
/-- a cell's object is written -/
theorem Grow.write {i : Nat} {a : Addr} {u : HO} (ho : S.own a = some (.cell i)) : Grow S H S (upd H a u) :=
  have ne : ∀ b o, S.own b = some o → o ≠ .cell i → b ≠ a := fun b o h n e => by
    rw [e, ho] at h
    exact n (Option.some.inj h).symm
  ⟨fun _ _ h => h, fun _ _ h _ => h, fun b o u' h f _ e => by rw [upd_ne (ne b _ h (fun z => by rw [z] at f; cases f))]; exact e,
    fun b kvs h r => rd_upd (ne b _ h (fun z => nomatch z)) r, fun b u' h e => by
      have n : b ≠ a := fun z => by rw [z, ho] at h; cases h
      exact ⟨by rw [upd_ne n]; exact e, h⟩⟩
theorem Rep.write {m : Mem} {i : Nat} {a : Addr} {u : HO} {c c' : Cell} (R : Rep C S H m) (ha : S.al[i]? = some a) (hm : m[i]? = some c) (hd : Live c)
    (hc : Grow S H S (upd H a u) → CellOk C S (upd H a u) i a c') : Rep C S (upd H a u) (m.set i c') ∧ Grow S H S (upd H a u) := by
  have ho := R.own i a c ha hm hd
  have g : Grow S H S (upd H a u) := Grow.write ho
  have hi := (List.getElem?_eq_some_iff.mp hm).1
  refine ⟨⟨by rw [List.length_set]; exact R.len, fun j b d h1 h2 h3 => ?_, fun j b d h1 h2 => ?_, fun b h => ?_⟩, g⟩
  · by_cases hj : j = i
    · subst hj
      cases (h1.symm.trans ha : some b = some a)
      exact ho
    · rw [List.getElem?_set_ne (Ne.symm hj)] at h2
      exact R.own j b d h1 h2 h3
  · by_cases hj : j = i
    · subst hj
      cases (h1.symm.trans ha : some b = some a)
      rw [List.getElem?_set_self hi] at h2
      cases (Option.some.inj h2 : c' = d)
      exact hc g
    · rw [List.getElem?_set_ne (Ne.symm hj)] at h2
      cases hd' : d with
      | dead => trivial
      | _ =>
        have n : b ≠ a := by rcases R.ow h1 h2 (by rw [hd']; exact fun z => nomatch z) with q | q <;> exact ne_own q ho (fun z => by cases z <;> exact hj rfl)
        rw [← hd']
        exact (R.ok j b d h1 h2).mono g (fun u' e => by rw [upd_ne n]; exact e) (fun dx e => e)
  · have n : b ≠ a := fun z => by rw [z, upd_same] at h; cases h
    rw [upd_ne n] at h
    exact R.free b h
/-- a cell is frozen -/
theorem Rep.freeze {m : Mem} {i : Nat} {a : Addr} {c : Cell} (R : Rep C S H m) (ha : S.al[i]? = some a) (hm : m[i]? = some c) (hd : Live c) :
    Rep C (S.put a .imm) H (m.set i .dead) ∧ Grow S H (S.put a .imm) H := by
  have ho := R.own i a c ha hm hd
  have hi := (List.getElem?_eq_some_iff.mp hm).1
  have g : Grow S H (S.put a .imm) H := ⟨fun _ _ h => h, fun b o h f => by
      by_cases e : b = a
      · rw [e, ho] at h; cases h; cases f
      · rw [Wd.put_ne e]; exact h, fun _ _ _ _ _ _ e => e, fun _ _ _ e => e, fun b u h e => by
      have n : b ≠ a := fun z => by rw [z, ho] at h; cases h
      exact ⟨e, by rw [Wd.put_ne n]; exact h⟩⟩
  refine ⟨⟨by rw [List.length_set]; exact R.len, fun j b d h1 h2 h3 => ?_, fun j b d h1 h2 => ?_, fun b h => ?_⟩, g⟩
  · by_cases hj : j = i
    · subst hj
      rw [List.getElem?_set_self hi] at h2
      rw [← (Option.some.inj h2 : Cell.dead = d)] at h3
      exact h3.elim
    · rw [List.getElem?_set_ne (Ne.symm hj)] at h2
      have q := R.own j b d h1 h2 h3
      rw [Wd.put_ne (ne_own q ho (fun z => by cases z; exact hj rfl))]
      exact q
  · by_cases hj : j = i
    · subst hj
      rw [List.getElem?_set_self hi] at h2
      cases (Option.some.inj h2 : Cell.dead = d)
      trivial
    · rw [List.getElem?_set_ne (Ne.symm hj)] at h2
      refine (R.ok j b d h1 h2).mono g (fun u e => e) (fun dx e => ?_)
      rw [Wd.put_ne (ne_own e ho (fun z => by cases z; exact hj rfl))]
      exact e
  · have n : b ≠ a := fun z => by
      have q := R.free b h
      rw [z, ho] at q
      cases q
    rw [Wd.put_ne n]
    exact R.free b h
/-- a dict's cell is locked -/
theorem Rep.lock {m : Mem} {i : Nat} {a : Addr} {o : Obj} {kvs : List (Key × V)} {kds : List (Key × D)} (R : Rep C S H m) (ha : S.al[i]? = some a) (hm : m[i]? = some (.dic false kds)) (t : IsKs C S H kvs kds) :
    Rep C (S.put a (.lck i)) (upd H a (.frz o (.dK kvs))) (m.set i (.dic true kds)) ∧ Grow S H (S.put a (.lck i)) (upd H a (.frz o (.dK kvs))) := by
  have ho := R.own i a _ ha hm trivial
  have hi := (List.getElem?_eq_some_iff.mp hm).1
  have nfx : ∀ b o', S.own b = some o' → o'.fx = true → b ≠ a := fun b o' h f e => by rw [e, ho] at h; cases h; cases f
  have g : Grow S H (S.put a (.lck i)) (upd H a (.frz o (.dK kvs))) := ⟨fun _ _ h => h, fun b o' h f => by rw [Wd.put_ne (nfx b o' h f)]; exact h,
    fun b o' u h f _ e => by rw [upd_ne (nfx b o' h f)]; exact e, fun b kvs' h r => rd_upd (nfx b _ h rfl) r, fun b u h e => by
      have n : b ≠ a := fun z => by rw [z, ho] at h; cases h
      exact ⟨by rw [upd_ne n]; exact e, by rw [Wd.put_ne n]; exact h⟩⟩
  refine ⟨⟨by rw [List.length_set]; exact R.len, fun j b d h1 h2 h3 => ?_, fun j b d h1 h2 => ?_, fun b h => ?_⟩, g⟩
  · by_cases hj : j = i
    · subst hj
      rw [List.getElem?_set_self hi] at h2
      rw [← (Option.some.inj h2 : Cell.dic true kds = d)] at h3
      exact h3.elim
    · rw [List.getElem?_set_ne (Ne.symm hj)] at h2
      have q := R.own j b d h1 h2 h3
      rw [Wd.put_ne (ne_own q ho (fun z => by cases z; exact hj rfl))]
      exact q
  · by_cases hj : j = i
    · subst hj
      cases (h1.symm.trans ha : some b = some a)
      rw [List.getElem?_set_self hi] at h2
      cases (Option.some.inj h2 : Cell.dic true kds = d)
      exact ⟨kvs, .inr ⟨o, upd_same⟩, (fun z => nomatch z), t.mono g, fun _ => Wd.put_same⟩
    · rw [List.getElem?_set_ne (Ne.symm hj)] at h2
      cases hd' : d with
      | dead => trivial
      | _ =>
        have n : b ≠ a := by rcases R.ow h1 h2 (by rw [hd']; exact fun z => nomatch z) with q | q <;> exact ne_own q ho (fun z => by cases z <;> exact hj rfl)
        rw [← hd']
        exact (R.ok j b d h1 h2).mono g (fun u' e => by rw [upd_ne n]; exact e) (fun dx e => by rw [Wd.put_ne (ne_own e ho (fun z => by cases z; exact hj rfl))]; exact e)
  · have n : b ≠ a := fun z => by rw [z, upd_same] at h; cases h
    rw [upd_ne n] at h
    rw [Wd.put_ne n]
    exact R.free b h
/-- .. and free again -/
theorem Rep.unlock {m m' : Mem} {i : Nat} {a : Addr} {o : Obj} {kvs : List (Key × V)} {kds kx : List (Key × D)} {S' : Wd} {H' : Hp} (R : Rep C S H m) (ha : S.al[i]? = some a) (hm : m[i]? = some (.dic false kds)) (t : IsKs C S H kvs kds)
    (g : Grow (S.put a (.lck i)) (upd H a (.frz o (.dK kvs))) S' H') (R' : Rep C S' H' m') (hm' : m'[i]? = some (.dic true kx)) :
    H' a = some (.frz o (.dK kvs)) ∧ Rep C (S'.put a (.cell i)) (upd H' a (.dK kvs)) (m'.set i (.dic false kds)) ∧ Grow S H (S'.put a (.cell i)) (upd H' a (.dK kvs)) := by
  have ho := R.own i a _ ha hm trivial
  have hi := (List.getElem?_eq_some_iff.mp hm').1
  have hH : H' a = some (.frz o (.dK kvs)) := g.hd a _ _ Wd.put_same rfl trivial upd_same
  have hO : S'.own a = some (.lck i) := g.own a _ Wd.put_same rfl
  have ha' := g.al _ _ ha
  have nfx : ∀ b o', S.own b = some o' → o'.fx = true → b ≠ a := fun b o' h f e => by rw [e, ho] at h; cases h; cases f
  have g1 : Grow S H (S'.put a (.cell i)) (upd H' a (.dK kvs)) := by
    obtain ⟨_, gl⟩ := R.lock (o := o) ha hm t
    have g2 := gl.trans g
    refine ⟨g2.al, fun b o' h f => by rw [Wd.put_ne (nfx b o' h f)]; exact g2.own b o' h f, fun b o' u h f k e => by rw [upd_ne (nfx b o' h f)]; exact g2.hd b o' u h f k e, fun b kvs' h r => rd_upd (nfx b _ h rfl) (g2.dk b kvs' h r), fun b u h e => ?_⟩
    have n : b ≠ a := fun z => by rw [z, ho] at h; cases h
    obtain ⟨q1, q2⟩ := g2.fr b u h e
    exact ⟨by rw [upd_ne n]; exact q1, by rw [Wd.put_ne n]; exact q2⟩
  have nim : ∀ b, S'.own b = some .imm → b ≠ a := fun b h e => by rw [e, hO] at h; cases h
  have g0 : Grow0 S' H' (S'.put a (.cell i)) (upd H' a (.dK kvs)) := ⟨fun _ _ h => h, fun b h => by rw [Wd.put_ne (nim b h)]; exact h, fun b u h _ e => by rw [upd_ne (nim b h)]; exact e, fun b kvs' h r => rd_upd (nim b h) r⟩
  refine ⟨hH, ⟨by rw [List.length_set]; exact R'.len, fun j b d h1 h2 h3 => ?_, fun j b d h1 h2 => ?_, fun b h => ?_⟩, g1⟩
  · by_cases hj : j = i
    · subst hj
      cases (h1.symm.trans ha' : some b = some a)
      exact Wd.put_same
    · rw [List.getElem?_set_ne (Ne.symm hj)] at h2
      have q := R'.own j b d h1 h2 h3
      rw [Wd.put_ne (ne_own q hO (fun z => nomatch z))]
      exact q
  · by_cases hj : j = i
    · subst hj
      cases (h1.symm.trans ha' : some b = some a)
      rw [List.getElem?_set_self hi] at h2
      cases (Option.some.inj h2 : Cell.dic false kds = d)
      exact ⟨kvs, .inl upd_same, fun _ => upd_same, t.mono g1, fun z => nomatch z⟩
    · rw [List.getElem?_set_ne (Ne.symm hj)] at h2
      cases hd' : d with
      | dead => trivial
      | _ =>
        have n : b ≠ a := by rcases R'.ow h1 h2 (by rw [hd']; exact fun z => nomatch z) with q | q <;> exact ne_own q hO (fun z => by cases z <;> exact hj rfl)
        rw [← hd']
        exact (R'.ok j b d h1 h2).mono0 g0 (fun u' e => by rw [upd_ne n]; exact e) (fun dx e => by rw [Wd.put_ne (ne_own e hO (fun z => nomatch z))]; exact e) (fun e => by rw [Wd.put_ne n]; exact e)
  · have n : b ≠ a := fun z => by rw [z, upd_same] at h; cases h
    rw [upd_ne n] at h
    rw [Wd.put_ne n]
    exact R'.free b h
/-- an object that is tracked, and no one's, becomes a tree's | a cell's -/
theorem Grow.adopt {p : Addr} {o : Own} (g : Grow S H S1 H1) (hp : H p = none) (hf : S.own p = none) : Grow S H (S1.put p o) H1 :=
  ⟨g.al, fun a o h f => by rw [Wd.put_ne (ne_free h hf)]; exact g.own a o h f, g.hd, g.dk, fun a u h e => by
    have n : a ≠ p := fun z => by rw [z, hp] at e; cases e
    exact ⟨(g.fr a u h e).1, by rw [Wd.put_ne n]; exact (g.fr a u h e).2⟩⟩
theorem Grow0.put {p : Addr} {o : Own} (hf : S.own p = none) : Grow0 S H (S.put p o) H :=
  ⟨fun _ _ h => h, fun a h => by rw [Wd.put_ne (ne_free h hf)]; exact h, fun _ _ _ _ e => e, fun _ _ _ e => e⟩
theorem Rep.adopt {m : Mem} {p : Addr} {u : HO} (R : Rep C S H m) (hp : H p = some u) (hf : S.own p = none) : Rep C (S.put p .imm) H m := by
  refine ⟨R.len, fun i a c h1 h2 h3 => ?_, fun i a c h1 h2 => ?_, fun a h => ?_⟩
  · have q := R.own i a c h1 h2 h3
    rw [Wd.put_ne (ne_free q hf)]
    exact q
  · exact (R.ok i a c h1 h2).mono0 (Grow0.put hf) (fun u' e => e) (fun dx e => by rw [Wd.put_ne (ne_free e hf)]; exact e) (fun e => by rw [Wd.put_ne (ne_free e hf)]; exact e)
  · have n : a ≠ p := fun z => by rw [z, hp] at h; cases h
    rw [Wd.put_ne n]
    exact R.free a h
theorem Rep.adoptL {m : Mem} {p : Addr} {vs : List V} {ds : List D} (R : Rep C S H m) (hp : H p = some (.lst vs)) (hf : S.own p = none) (t : IsVs C S H vs ds) :
    ∃ S1 : Wd, Rep C S1 H (m ++ [.lst ds]) ∧ S1.al[m.length]? = some p ∧ ∀ {S0 : Wd} {H0 : Hp}, Grow S0 H0 S H → H0 p = none → S0.own p = none → Grow S0 H0 S1 H := by
  have al : ∀ (i : Nat) (a : Addr), S.al[i]? = some a → (S.al ++ [p])[i]? = some a := fun i a h => by
    rw [List.getElem?_append_left (List.getElem?_eq_some_iff.mp h).1]
    exact h
  have g : Grow0 S H { S.put p (.cell m.length) with al := S.al ++ [p] } H := ⟨al, (Grow0.put (H := H) hf).own, fun _ _ _ _ e => e, fun _ _ _ e => e⟩
  have hl : (S.al ++ [p])[m.length]? = some p := by
    rw [← R.len, List.getElem?_append_right (Nat.le_refl _), Nat.sub_self]
    rfl
  have old : ∀ i, i ≠ m.length → ∀ a c', (S.al ++ [p])[i]? = some a → (m ++ [Cell.lst ds])[i]? = some c' → S.al[i]? = some a ∧ m[i]? = some c' := fun i hi a c' h1 h2 => by
    have lt := (List.getElem?_eq_some_iff.mp h2).1
    rw [List.length_append, List.length_singleton] at lt
    have lt' : i < m.length := by omega
    rw [List.getElem?_append_left (by rw [R.len]; exact lt')] at h1
    rw [List.getElem?_append_left lt'] at h2
    exact ⟨h1, h2⟩
  refine ⟨{ S.put p (.cell m.length) with al := S.al ++ [p] }, ⟨?_, fun i a c' h1 h2 h3 => ?_, fun i a c' h1 h2 => ?_, fun a h => ?_⟩, hl, fun {S0 H0} g0 q1 q2 => ?_⟩
  · show (S.al ++ [p]).length = (m ++ [Cell.lst ds]).length
    rw [List.length_append, List.length_append, R.len]
    rfl
  · by_cases hi : i = m.length
    · subst hi
      have e : a = p := Option.some.inj (h1.symm.trans hl)
      subst e
      exact Wd.put_same
    · obtain ⟨q1, q2⟩ := old i hi a c' h1 h2
      have q := R.own i a c' q1 q2 h3
      exact (Wd.put_ne (ne_free q hf)).trans q
  · by_cases hi : i = m.length
    · subst hi
      have e : a = p := Option.some.inj (h1.symm.trans hl)
      subst e
      have ec : c' = .lst ds := by
        rw [List.getElem?_append_right (Nat.le_refl _), Nat.sub_self] at h2
        exact (Option.some.inj h2).symm
      subst ec
      exact ⟨vs, hp, t.mono0 g⟩
    · obtain ⟨q1, q2⟩ := old i hi a c' h1 h2
      exact (R.ok i a c' q1 q2).mono0 g (fun u' e => e) (fun dx e => (Wd.put_ne (ne_free e hf)).trans e) (fun e => (Wd.put_ne (ne_free e hf)).trans e)
  · have n : a ≠ p := fun z => by rw [z, hp] at h; cases h
    exact (Wd.put_ne n).trans (R.free a h)
  · have g1 : Grow S0 H0 (S.put p (.cell m.length)) H := g0.adopt q1 q2
    exact ⟨fun i a h => al i a (g0.al i a h), g1.own, g1.hd, g1.dk, g1.fr⟩
/-- what is tracked and no one's is written -/
theorem Rep.side {m : Mem} {p : Addr} {u : HO} (R : Rep C S H m) (hf : S.own p = none) : Rep C S (upd H p u) m ∧ ∀ {S0 : Wd} {H0 : Hp}, Grow S0 H0 S H → H0 p = none → S0.own p = none → Grow S0 H0 S (upd H p u) := by
  have ne : ∀ a o, S.own a = some o → a ≠ p := fun a o h => ne_free h hf
  have g : Grow0 S H S (upd H p u) := ⟨fun _ _ h => h, fun _ h => h, fun a u' h _ e => by rw [upd_ne (ne a _ h)]; exact e, fun a kvs h r => rd_upd (ne a _ h) r⟩
  refine ⟨⟨R.len, R.own, fun i a c h1 h2 => ?_, fun a h => ?_⟩, fun g0 q1 q2 => ⟨g0.al, g0.own, fun a o u' h f k e => by rw [upd_ne (ne_free h q2 |> fun n => n)]; exact g0.hd a o u' h f k e, fun a kvs h r => rd_upd (ne_free h q2) (g0.dk a kvs h r), fun a u' h e => by
    have n : a ≠ p := fun z => by rw [z, q1] at e; cases e
    rw [upd_ne n]
    exact g0.fr a u' h e⟩⟩
  · cases hc : c with
    | dead => trivial
    | _ =>
      have na : a ≠ p := by rcases R.ow h1 h2 (by rw [hc]; exact fun z => nomatch z) with q | q <;> exact ne_free q hf
      rw [← hc]
      exact (R.ok i a c h1 h2).mono0 g (fun u' e => by rw [upd_ne na]; exact e) (fun dx e => e) (fun e => e)
  · by_cases n : a = p
    · rw [n]; exact hf
    · rw [upd_ne n] at h
      exact R.free a h
/-! names -/
def EnvOk (C : Cn) (S : Wd) (H : Hp) (σ : St) (ev : Ev) : Prop := σ.length = ev.length ∧ ∀ (i : Nat) (d : D), ev[i]? = some (some d) → ∃ v : V, σ[i]? = some (some v) ∧ IsV C S H v d
theorem EnvOk.mono {σ : St} {ev : Ev} (g : Grow S H S1 H1) (h : EnvOk C S H σ ev) : EnvOk C S1 H1 σ ev := ⟨h.1, fun i d e => let ⟨v, a, b⟩ := h.2 i d e; ⟨v, a, b.mono g⟩⟩
theorem EnvOk.set {σ : St} {ev : Ev} {v : V} {d : D} (i : Nat) (h : EnvOk C S H σ ev) (hv : IsV C S H v d) : EnvOk C S H (σ.set i (some v)) (ev.set i (some d)) := by
  refine ⟨by rw [List.length_set, List.length_set]; exact h.1, fun j e q => ?_⟩
  by_cases hj : i = j
  · subst hj
    by_cases hl : i < ev.length
    · rw [List.getElem?_set_self hl] at q
      cases (Option.some.inj (Option.some.inj q) : d = e)
      exact ⟨v, by rw [List.getElem?_set_self (by rw [h.1]; exact hl)], hv⟩
    · rw [List.getElem?_eq_none (by rw [List.length_set]; omega)] at q
      cases q
  · rw [List.getElem?_set_ne hj] at q
    obtain ⟨w, a, b⟩ := h.2 j e q
    exact ⟨w, by rw [List.getElem?_set_ne hj]; exact a, b⟩
theorem EnvOk.none {σ : St} {ev : Ev} {o : Option V} (i : Nat) (h : EnvOk C S H σ ev) : EnvOk C S H (σ.set i o) (ev.set i none) := by
  refine ⟨by rw [List.length_set, List.length_set]; exact h.1, fun j e q => ?_⟩
  by_cases hj : i = j
  · subst hj
    by_cases hl : i < ev.length
    · rw [List.getElem?_set_self hl] at q
      cases q
    · rw [List.getElem?_eq_none (by rw [List.length_set]; omega)] at q
      cases q
  · rw [List.getElem?_set_ne hj] at q
    obtain ⟨w, a, b⟩ := h.2 j e q
    exact ⟨w, by rw [List.getElem?_set_ne hj]; exact a, b⟩
theorem EnvOk.wipe {σ : St} {ev : Ev} (h : EnvOk C S H σ ev) : ∀ vs : List Nat, EnvOk C S H (wipe σ vs) (wipeE ev vs)
  | [] => h
  | v :: vs => (EnvOk.wipe h vs).none v
end
end Lt

set_option Elab.async false
set_option linter.all false
set_option maxRecDepth 100000
/-! C3: what a step of the monad promises of the abstract heap; the judgements; expressions. -/
namespace Lt
open PySem L2

abbrev Rel (β α : Type) := Wd → Hp → β → α → Prop
/-- what stands behind r: whatever the world has become, as r says -/
def PostG {α β : Type} (C : Cn) (S : Wd) (H : Hp) (E : Ecl → Hp → Prop) (rel : Rel β α) (r : R α) (Q : β → Hp → Prop) : Prop := match r with
  | .ok a m => ∀ S' H' b, Grow S H S' H' → Rep C S' H' m → rel S' H' b a → Q b H'
  | .exc c m => ∀ S' H', Grow S H S' H' → Rep C S' H' m → E c H'
  | .stk => False
section
variable {C : Cn} {S S1 : Wd} {H H1 : Hp} {α β γ δ : Type} {E : Ecl → Hp → Prop} {rel : Rel β α} {rel2 : Rel δ γ} {m m1 : Mem}
theorem PostG.imp {r : R α} {Q Q' : β → Hp → Prop} (h : PostG C S H E rel r Q) (k : ∀ b H', Q b H' → Q' b H') : PostG C S H E rel r Q' := by
  cases r with
  | ok a m => exact fun S' H' b g R x => k _ _ (h S' H' b g R x)
  | exc c m => exact h
  | stk => exact h
theorem PostG.since {r : R α} {Q : β → Hp → Prop} (g : Grow S H S1 H1) (h : PostG C S H E rel r Q) : PostG C S1 H1 E rel r Q := by
  cases r with
  | ok a m => exact fun S' H' b g' R x => h S' H' b (g.trans g') R x
  | exc c m => exact fun S' H' g' R => h S' H' (g.trans g') R
  | stk => exact h
theorem PostG.bnd {x : M α} {f : α → M γ} {Q : δ → Hp → Prop} (h : PostG C S H E rel2 (bnd x f m) Q) :
    PostG C S H E rel (x m) (fun b H1 => ∃ S1 m1 a, Grow S H S1 H1 ∧ Rep C S1 H1 m1 ∧ rel S1 H1 b a ∧ PostG C S1 H1 E rel2 (f a m1) Q) := by
  unfold Lt.bnd at h
  cases e : x m with
  | ok a m1 =>
    rw [e] at h
    exact fun S1 H1 b g R x => ⟨S1, m1, a, g, R, x, PostG.since g h⟩
  | exc c m1 =>
    rw [e] at h
    exact h
  | stk =>
    rw [e] at h
    exact h
end
abbrev WXof (C : Cn) (W : WX) (σ : St) : Ecl → Hp → Prop := fun c H => W (.ref (C.eA c)) none σ H
abbrev isV (C : Cn) : Rel V D := fun S H v d => IsV C S H v d
abbrev isVs (C : Cn) : Rel (List V) (List D) := fun S H v d => IsVs C S H v d
abbrev isE {α : Type} : Rel α α := fun _ _ b a => b = a
def TEx (C : Cn) (W : WX) (c : EC) : TE := fun σ H Q => ∃ S m ev, Rep C S H m ∧ EnvOk C S H σ ev ∧ PostG C S H (WXof C W σ) (isV C) (c ev m) Q
def TAx (C : Cn) (W : WX) (c : EA) : TA := fun σ H Q => ∃ S m ev, Rep C S H m ∧ EnvOk C S H σ ev ∧ PostG C S H (WXof C W σ) (isVs C) (c ev m) Q
def TTx (C : Cn) (W : WX) (c : ET) : TT := fun σ H Q => ∃ S m ev, Rep C S H m ∧ EnvOk C S H σ ev ∧ PostG C S H (WXof C W σ) isE (c ev m) Q
def TOx (C : Cn) (W : WX) (c : EO) : TO := fun σ H Q => ∃ S m ev, Rep C S H m ∧ EnvOk C S H σ ev ∧ PostG C S H (WXof C W σ) isE (c ev m) Q
/-- the judgements: an expression (arguments, a test, a part of a slice) does what a program of the monad says -/
def CE (X : Cx) (C : Cn) (W : WX) (e : Expr) (c : EC) : Prop := C.K = X.K → PE X e (TEx C W c)
def CA (X : Cx) (C : Cn) (W : WX) (es : List Expr) (c : EA) : Prop := C.K = X.K → PA X es (TAx C W c)
def CT (X : Cx) (C : Cn) (W : WX) (e : Expr) (c : ET) : Prop := C.K = X.K → PT X e (TTx C W c)
def CW (X : Cx) (C : Cn) (W : WX) (e : Expr) (c : ET) : Prop := C.K = X.K → PW X e (TTx C W c)
def CO (X : Cx) (C : Cn) (W : WX) (e : Option Expr) (c : EO) : Prop := C.K = X.K → PO X e (TOx C W c)
theorem pe_imp {X : Cx} {e : Expr} {t t' : TE} (h : PE X e t) (k : ∀ σ H Q, t' σ H Q → t σ H Q) : PE X e t' := ⟨fun p s σ H Q I q => h.run p s σ H Q I (k σ H Q q)⟩
theorem pa_imp {X : Cx} {e : List Expr} {t t' : TA} (h : PA X e t) (k : ∀ σ H Q, t' σ H Q → t σ H Q) : PA X e t' := ⟨fun z p s σ H Q I q => h.run z p s σ H Q I (k σ H Q q)⟩
theorem pt_imp {X : Cx} {e : Expr} {t t' : TT} (h : PT X e t) (k : ∀ σ H Q, t' σ H Q → t σ H Q) : PT X e t' := ⟨fun p s σ H Q I q => h.run p s σ H Q I (k σ H Q q)⟩
theorem pw_imp {X : Cx} {e : Expr} {t t' : TT} (h : PW X e t) (k : ∀ σ H Q, t' σ H Q → t σ H Q) : PW X e t' := ⟨fun z p s σ H Q I q => h.run z p s σ H Q I (k σ H Q q)⟩
theorem po_imp {X : Cx} {e : Option Expr} {t t' : TO} (h : PO X e t) (k : ∀ σ H Q, t' σ H Q → t σ H Q) : PO X e t' := ⟨fun p s σ H Q I q => h.run p s σ H Q I (k σ H Q q)⟩

/-! ### what an operation on values promises -/
/-- a new list object: a tree or a cell -/
def Outs (C : Cn) (S : Wd) (H : Hp) (m : Mem) (v : V) (d : D) : Prop := ∀ (E : Ecl → Hp → Prop) (Q : VK), PostG C S H E (isV C) (.ok d m) Q → Q v H
def Op1 (C : Cn) (r : V → Hp → VK → Prop) (o : D → M D) : Prop := ∀ S H m x dx E Q, Rep C S H m → IsV C S H x dx → PostG C S H E (isV C) (o dx m) Q → r x H Q
def Op2 (C : Cn) (r : R2) (o : D → D → M D) : Prop := ∀ S H m x y dx dy E Q, Rep C S H m → IsV C S H x dx → IsV C S H y dy → PostG C S H E (isV C) (o dx dy m) Q → r x y H Q
def OpN (C : Cn) (r : List V → Hp → VK → Prop) (o : List D → M D) : Prop := ∀ S H m xs ds E Q, Rep C S H m → IsVs C S H xs ds → PostG C S H E (isV C) (o ds m) Q → r xs H Q
def OpM (C : Cn) (r : V → List V → Hp → VK → Prop) (o : D → List D → M D) : Prop := ∀ S H m x xs d ds E Q, Rep C S H m → IsV C S H x d → IsVs C S H xs ds → PostG C S H E (isV C) (o d ds m) Q → r x xs H Q
section
variable {C : Cn} {S : Wd} {H : Hp} {m : Mem} {E : Ecl → Hp → Prop} {Q : VK} {v x y : V} {d dx dy : D}
theorem post_ok (R : Rep C S H m) (i : IsV C S H v d) (h : PostG C S H E (isV C) (.ok d m) Q) : Q v H := h S H v .refl R i
theorem sz_eq : SZ = sizeLine := by rw [PySem.sizeLine_eq]; rfl
theorem sz_le {n : Nat} (h : n ≤ SZ) : n ≤ sizeLine := by rw [← sz_eq]; exact h
theorem sz_lt {n : Nat} (h : n < SZ) : n < sizeLine := by rw [← sz_eq]; exact h
theorem sqK {K : PySem.W.Frag} {a : Addr} {vs : List V} (h : SqL K (fun _ => none) a vs) : SqL K H a vs := by
  rcases h with (h | ⟨o, h⟩) | h
  · cases h
  · cases h
  · exact .inr h
theorem IsV.rdL {xs : List D} (R : Rep C S H m) (i : IsV C S H v d) (h : Lt.rdL d m = some xs) : ∃ a vs, v = .ref a ∧ SqL C.K H a vs ∧ IsVs C S H vs xs := by
  cases i with
  | lst o e t => cases h; exact ⟨_, _, rfl, .inl (.inl e), t⟩
  | klst o t =>
    cases h
    rcases o with ⟨o, ob, e⟩ | e
    · exact ⟨_, _, rfl, .inl (.inr ⟨ob, e⟩), t⟩
    · exact ⟨_, _, rfl, sqK e, t⟩
  | ref e =>
    rename_i a n
    obtain ⟨vs, e1, t⟩ := R.ok n a _ e (rdL_ref h)
    exact ⟨_, _, rfl, .inl (.inl e1), t⟩
  | _ => cases h
theorem IsV.rdW {xs : List D} (R : Rep C S H m) (i : IsV C S H v d) (h : Lt.rdW d m = some xs) : ∃ a vs, v = .ref a ∧ H a = some (.lst vs) ∧ IsVs C S H vs xs := by
  cases i with
  | lst o e t => cases h; exact ⟨_, _, rfl, e, t⟩
  | ref e =>
    rename_i a n
    obtain ⟨vs, e1, t⟩ := R.ok n a _ e (rdW_ref h)
    exact ⟨_, _, rfl, e1, t⟩
  | _ => cases h
theorem IsV.rdK {kds : List (Key × D)} (R : Rep C S H m) (i : IsV C S H v d) (h : Lt.rdK d m = some kds) : ∃ a kvs, v = .ref a ∧ Rd H a (.dK kvs) ∧ IsKs C S H kvs kds := by
  cases i with
  | dic o e t => cases h; exact ⟨_, _, rfl, e, t⟩
  | ref e =>
    rename_i a n
    obtain ⟨lk, q⟩ := rdK_ref h
    obtain ⟨vs, e1, _, t, _⟩ := R.ok n a _ e q
    exact ⟨_, _, rfl, e1, t⟩
  | _ => cases h
/-- a new list of xs -/
theorem post_out {nw : Bool} {vs : List V} {xs : List D} (R : Rep C S H m) (i : IsVs C S H vs xs) (h : PostG C S H E (isV C) (outL nw xs m) Q) : vs.length ≤ sizeLine ∧ ∀ p, H p = none → Q (.ref p) (upd H p (.lst vs)) := by
  by_cases z : xs.length ≤ SZ
  · refine ⟨by rw [i.length]; exact sz_le z, fun p hp => ?_⟩
    cases nw with
    | false =>
      have h' : PostG C S H E (isV C) (.ok (.lst xs) m) Q := by
        have e : outL false xs m = .ok (.lst xs) m := by
          show mkL xs m = _
          unfold mkL
          rw [if_pos z]
        rw [← e]
        exact h
      obtain ⟨R1, g⟩ := R.imm (u := .lst vs) hp
      exact h' _ _ _ g R1 (.lst Wd.put_same upd_same (i.mono g))
    | true =>
      have h' : PostG C S H E (isV C) (.ok (.ref m.length) (m ++ [.lst xs])) Q := by
        have e : outL true xs m = .ok (.ref m.length) (m ++ [.lst xs]) := by
          show newL xs m = _
          unfold newL
          rw [if_pos z]
        rw [← e]
        exact h
      obtain ⟨S1, R1, g, e, _⟩ := R.cell (u := .lst vs) (c := .lst xs) hp fun S1 g => ⟨vs, upd_same, i.mono g⟩
      exact h' _ _ _ g R1 (.ref e)
  · exfalso
    cases nw with
    | false =>
      have e : outL false xs m = .stk := by
        show mkL xs m = _
        unfold mkL
        rw [if_neg z]
      rw [e] at h
      exact h
    | true =>
      have e : outL true xs m = .stk := by
        show newL xs m = _
        unfold newL
        rw [if_neg z]
      rw [e] at h
      exact h
theorem post_tup {vs : List V} {xs : List D} (R : Rep C S H m) (i : IsVs C S H vs xs) (h : PostG C S H E (isV C) (.ok (.tup xs) m) Q) : ∀ p, H p = none → Q (.ref p) (upd H p (.tup vs)) := fun p hp => by
  obtain ⟨R1, g⟩ := R.imm (u := .tup vs) hp
  exact h _ _ _ g R1 (.tup Wd.put_same upd_same (i.mono g))
end
/-! ### expressions -/
section
variable {X : Cx} {C : Cn} {W : WX} {pos : Pos}
theorem ce_var (i : Nat) {x : Str} (hN : X.N[i]? = some x := by rfl) (hv : Vis X.env.scope x := by first | exact Or.inl rfl | exact Or.inr (Or.inl rfl) | exact Or.inr (Or.inr rfl)) (hd : (x == ("__debug__" : Str)) = false := by decide)
    (hcd : (x == ("__classdict__" : Str)) = false := by decide) : CE X C W (.Name x pos) (eVar i) := fun _ =>
  pe_imp (pe_var hN hv hd hcd) fun σ H Q ⟨S, m, ev, R, E, h⟩ => by
    unfold eVar at h
    cases q : ev[i]? with
    | none => rw [q] at h; exact h.elim
    | some o =>
      cases o with
      | none => rw [q] at h; exact h.elim
      | some d =>
        rw [q] at h
        obtain ⟨v, e, iv⟩ := E.2 i d q
        exact ⟨v, e, post_ok R iv h⟩
theorem ce_frz (i : Nat) {x : Str} (hN : X.N[i]? = some x := by rfl) (hv : Vis X.env.scope x := by first | exact Or.inl rfl | exact Or.inr (Or.inl rfl) | exact Or.inr (Or.inr rfl)) (hd : (x == ("__debug__" : Str)) = false := by decide)
    (hcd : (x == ("__classdict__" : Str)) = false := by decide) : CE X C W (.Name x pos) (eFrz i) := fun _ =>
  pe_imp (pe_var hN hv hd hcd) fun σ H Q ⟨S, m, ev, R, E, h⟩ => by
    unfold eFrz at h
    cases q : ev[i]? with
    | none => rw [q] at h; exact h.elim
    | some o =>
      cases o with
      | none => rw [q] at h; exact h.elim
      | some d =>
        rw [q] at h
        obtain ⟨v, e, iv⟩ := E.2 i d q
        refine ⟨v, e, ?_⟩
        cases iv with
        | ref al =>
          rename_i a n
          cases q1 : m[n]? with
          | none => simp only [q1] at h; exact h.elim
          | some c =>
            simp only [q1] at h
            cases c with
            | lst ds =>
              obtain ⟨vs, e1, t⟩ := R.ok n a _ al q1
              obtain ⟨R1, g⟩ := R.freeze al q1 trivial
              exact h _ _ _ g R1 (.lst Wd.put_same e1 (t.mono g))
            | dic lk kds =>
              cases lk with
              | true => exact h.elim
              | false =>
                obtain ⟨kvs, e1, _, t, _⟩ := R.ok n a _ al q1
                obtain ⟨R1, g⟩ := R.freeze al q1 trivial
                exact h _ _ _ g R1 (.dic Wd.put_same e1 (t.mono g))
            | ins c fs => exact h.elim
            | dead => exact h.elim
        | _ => exact h.elim
theorem ce_c {e : Expr} {v : V} {d : D} (h : PE X e (tC v)) (i : ∀ S H, IsV C S H v d) : CE X C W e (eC d) := fun _ =>
  pe_imp h fun σ H Q ⟨S, m, ev, R, E, q⟩ => post_ok R (i S H) q
theorem ce_int {i : Int} {j : Nat} : CE X C W (.Constant (.int i) j pos) (eC (.int i)) := ce_c pe_int fun _ _ => .int i
theorem ce_str {i : Str} {j : Nat} : CE X C W (.Constant (.str i) j pos) (eC (.str i)) := ce_c pe_str fun _ _ => .str i
theorem ce_bl {i : Bool} {j : Nat} : CE X C W (.Constant (.bool i) j pos) (eC (.bl i)) := ce_c pe_bl fun _ _ => .bl i
theorem ce_non {j : Nat} : CE X C W (.Constant .none j pos) (eC .non) := ce_c pe_non fun _ _ => .non
/-- a constant of the module -/
theorem ce_glob {x : Str} {v : V} {u : Value} {d : D} (hm : X.mg x = some u) (r : RelV v u) (i : ∀ S H, IsV C S H v d) (hg : Gl X x := by rfl) (hd : (x == ("__debug__" : Str)) = false := by decide) : CE X C W (.Name x pos) (eC d) := ce_c (pe_glob hg hm r hd) i
theorem ce_bin {op : Operator} {r : R2} {o : D → D → M D} {a b : Expr} {ca cb : EC} (ho : OpR X (binaryOp op) r) (hs : C.K = X.K → Op2 C r o) (ha : CE X C W a ca) (hb : CE X C W b cb) : CE X C W (.BinOp a op b pos) (eBin o ca cb) := fun hK =>
  pe_imp (pe_op ho (ha hK) (hb hK)) fun σ H Q ⟨S, m, ev, R, E, h⟩ => ⟨S, m, ev, R, E, (PostG.bnd h).imp fun x H1 ⟨S1, m1, dx, g1, R1, i1, h1⟩ =>
    ⟨S1, m1, ev, R1, E.mono g1, (PostG.bnd h1).imp fun y H2 ⟨S2, m2, dy, g2, R2, i2, h2⟩ => hs hK S2 H2 m2 x y dx dy _ Q R2 (i1.mono g2) i2 h2⟩⟩
theorem ce_cmp {op : CmpOp} {r : R2} {o : D → D → M D} {a b : Expr} {ca cb : EC} (ho : OpR X (compareOp op) r) (hs : C.K = X.K → Op2 C r o) (ha : CE X C W a ca) (hb : CE X C W b cb) (hm : behindInMarks op b = false := by rfl) : CE X C W (.Compare a [op] [b] pos) (eBin o ca cb) := fun hK =>
  pe_imp (pe_cmpR ho (ha hK) (hb hK) hm) fun σ H Q ⟨S, m, ev, R, E, h⟩ => ⟨S, m, ev, R, E, (PostG.bnd h).imp fun x H1 ⟨S1, m1, dx, g1, R1, i1, h1⟩ =>
    ⟨S1, m1, ev, R1, E.mono g1, (PostG.bnd h1).imp fun y H2 ⟨S2, m2, dy, g2, R2, i2, h2⟩ => hs hK S2 H2 m2 x y dx dy _ Q R2 (i1.mono g2) i2 h2⟩⟩
theorem ce_un {op : UnaryOp} {r : V → Hp → VK → Prop} {o : D → M D} {a : Expr} {ca : EC} (ho : UnR X (unaryOp op) r) (hs : Op1 C r o) (ha : CE X C W a ca) : CE X C W (.UnaryOp op a pos) (eUn o ca) := fun hK =>
  pe_imp (pe_un ho (ha hK)) fun σ H Q ⟨S, m, ev, R, E, h⟩ => ⟨S, m, ev, R, E, (PostG.bnd h).imp fun x H1 ⟨S1, m1, dx, g1, R1, i1, h1⟩ => hs S1 H1 m1 x dx _ Q R1 i1 h1⟩
theorem ca_nil : CA X C W [] aNil := fun _ => pa_imp pa_nil fun σ H Q ⟨S, m, ev, R, E, h⟩ => h S H [] .refl R .nil
theorem ca_cons {e : Expr} {es : List Expr} {c : EC} {a : EA} (he : CE X C W e c) (hr : CA X C W es a) (hs : starEach (e :: es) X.env = (false, eval e X.env) :: starEach es X.env := by rfl) : CA X C W (e :: es) (aCons c a) := fun hK =>
  pa_imp (pa_cons (he hK) (hr hK) hs) fun σ H Q ⟨S, m, ev, R, E, h⟩ => ⟨S, m, ev, R, E, (PostG.bnd h).imp fun x H1 ⟨S1, m1, dx, g1, R1, i1, h1⟩ =>
    ⟨S1, m1, ev, R1, E.mono g1, (PostG.bnd h1).imp fun xs H2 ⟨S2, m2, dxs, g2, R2, i2, h2⟩ => h2 S2 H2 _ .refl R2 (.cons (i1.mono g2) i2)⟩⟩
theorem ce_tup {es : List Expr} {a : EA} {k : Nat} (h : CA X C W es a) : CE X C W (.Tuple es k pos) (eTup a) := fun hK =>
  pe_imp (pe_tup (h hK)) fun σ H Q ⟨S, m, ev, R, E, h⟩ => ⟨S, m, ev, R, E, (PostG.bnd h).imp fun xs H1 ⟨S1, m1, ds, g1, R1, i1, h1⟩ => by
    unfold mkT at h1
    by_cases z : ds.length ≤ SZ
    · rw [if_pos z] at h1
      exact ⟨by rw [i1.length]; exact sz_le z, post_tup R1 i1 h1⟩
    · rw [if_neg z] at h1
      exact h1.elim⟩
theorem ce_lst (nw : Bool) {es : List Expr} {a : EA} (h : CA X C W es a) : CE X C W (.List es pos) (eLst nw a) := fun hK =>
  pe_imp (pe_lst (h hK)) fun σ H Q ⟨S, m, ev, R, E, h⟩ => ⟨S, m, ev, R, E, (PostG.bnd h).imp fun xs H1 ⟨S1, m1, ds, g1, R1, i1, h1⟩ => post_out R1 i1 h1⟩
/-! tests -/
theorem ct_of {e : Expr} {c : EC} (h : CE X C W e c) (he : ∀ whole, isTrue e X.env whole = (do let v ← whole; standAt e.pos; holding [v] (truthy v)) := by intro _; rfl) : CT X C W e (tOf c) := fun hK =>
  pt_imp (pt_val (h hK) he) fun σ H Q ⟨S, m, ev, R, E, h⟩ => ⟨S, m, ev, R, E, (PostG.bnd h).imp fun x H1 ⟨S1, m1, dx, g1, R1, i1, h1⟩ => by
    cases i1 with
    | bl b => exact ⟨b, rfl, h1 S1 H1 b .refl R1 rfl⟩
    | _ => exact h1.elim⟩
theorem ct_cmp {op : CmpOp} {r : R2} {o : D → D → M D} {a b : Expr} {ca cb : EC} (ho : OpR X (compareOp op) r) (hs : C.K = X.K → Op2 C r o) (ha : CE X C W a ca) (hb : CE X C W b cb) (hm : behindInMarks op b = false := by rfl) :
    CT X C W (.Compare a [op] [b] pos) (tOf (eBin o ca cb)) := fun hK =>
  pt_imp (pt_cmpR ho (ha hK) (hb hK) hm) fun σ H Q ⟨S, m, ev, R, E, h⟩ => ⟨S, m, ev, R, E, by
    have h' : PostG C S H (WXof C W σ) isE (bnd (ca ev) (fun x => bnd (bnd (cb ev) fun y => o x y) fun z => match z with | .bl b => pur b | _ => stuck) m) Q := by
      have e : tOf (eBin o ca cb) ev m = bnd (ca ev) (fun x => bnd (bnd (cb ev) fun y => o x y) fun z => match z with | .bl b => pur b | _ => stuck) m := by
        unfold tOf eBin Lt.bnd
        cases ca ev m <;> rfl
      rw [← e]
      exact h
    exact (PostG.bnd h').imp fun x H1 ⟨S1, m1, dx, g1, R1, i1, h1⟩ => ⟨S1, m1, ev, R1, E.mono g1, by
      have h1' : PostG C S1 H1 (WXof C W σ) isE (bnd (cb ev) (fun y => bnd (o dx y) fun z => match z with | .bl b => pur b | _ => stuck) m1) Q := by
        have e : bnd (bnd (cb ev) fun y => o dx y) (fun z => match z with | .bl b => pur b | _ => stuck) m1 = bnd (cb ev) (fun y => bnd (o dx y) fun z => match z with | .bl b => pur b | _ => stuck) m1 := by
          unfold Lt.bnd
          cases cb ev m1 <;> rfl
        rw [← e]
        exact h1
      exact (PostG.bnd h1').imp fun y H2 ⟨S2, m2, dy, g2, R2, i2, h2⟩ => hs hK S2 H2 m2 x y dx dy _ _ R2 (i1.mono g2) i2 ((PostG.bnd h2).imp fun z H3 ⟨S3, m3, dz, g3, R3, i3, h3⟩ => by
        cases i3 with
        | bl b => exact ⟨b, rfl, h3 S3 H3 b .refl R3 rfl⟩
        | _ => exact h3.elim)⟩⟩
theorem ct_tru {e : Expr} {c : EC} (h : CE X C W e c) (he : ∀ whole, isTrue e X.env whole = (do let v ← whole; standAt e.pos; holding [v] (truthy v)) := by intro _; rfl) : CT X C W e (tTru c) := fun hK =>
  pt_imp (pt_truth (h hK) he) fun σ H Q ⟨S, m, ev, R, E, h⟩ => ⟨S, m, ev, R, E, (PostG.bnd h).imp fun x H1 ⟨S1, m1, dx, g1, R1, i1, h1⟩ => by
    have lists : ∀ {xs : List D}, Lt.rdL dx m1 = some xs → PostG C S1 H1 (WXof C W σ) isE (.ok (!xs.isEmpty) m1) Q → ∃ k, TruV X.K x H1 k ∧ Q k H1 := fun {xs} q h => by
      obtain ⟨a, vs, rfl, sq, t⟩ := i1.rdL R1 q
      refine ⟨!xs.isEmpty, .inl ⟨vs, by rw [← hK]; exact sq, ?_⟩, h S1 H1 _ .refl R1 rfl⟩
      have l := t.length
      cases vs <;> cases xs <;> first | rfl | cases l
    cases i1 with
    | non => exact ⟨false, rfl, h1 S1 H1 _ .refl R1 rfl⟩
    | bl b => exact ⟨b, rfl, h1 S1 H1 _ .refl R1 rfl⟩
    | int i => exact ⟨i != 0, rfl, h1 S1 H1 _ .refl R1 rfl⟩
    | str s =>
      dsimp only [oTru] at h1
      by_cases z : s.length ≤ SZ
      · rw [if_pos z] at h1
        exact ⟨_, ⟨sz_le z, rfl⟩, h1 S1 H1 _ .refl R1 rfl⟩
      · rw [if_neg z] at h1
        exact h1.elim
    | lst o e t => exact lists rfl h1
    | klst o t => exact lists rfl h1
    | @tup a vs ds o e t =>
      refine ⟨!ds.isEmpty, .inr (.inl ⟨vs, .inl (.inl e), ?_⟩), h1 S1 H1 _ .refl R1 rfl⟩
      have l := t.length
      cases vs <;> cases ds <;> first | rfl | cases l
    | dic o e t => exact h1.elim
    | @ref a n al =>
      dsimp only [oTru] at h1
      cases q : Lt.rdL (.ref n) m1 with
      | none => simp only [q] at h1; exact h1.elim
      | some xs =>
        simp only [q] at h1
        exact lists q h1
    | exc c o e => exact h1.elim⟩
theorem ct_not {e : Expr} {t : ET} (h : CT X C W e t) : CT X C W (.UnaryOp .Not e pos) (tNot t) := fun hK =>
  pt_imp (pt_not (h hK)) fun σ H Q ⟨S, m, ev, R, E, h⟩ => ⟨S, m, ev, R, E, (PostG.bnd h).imp fun b H1 ⟨S1, m1, b', g1, R1, i1, h1⟩ => by
    cases i1
    exact h1 S1 H1 _ .refl R1 rfl⟩
theorem ct_w {e : Expr} {t : ET} (h : CW X C W e t) : CT X C W e t := fun hK => ⟨fun pins s σ H Q I q => (h hK).run _ pins s σ H Q I q⟩
theorem cw_and1 {e : Expr} {t : ET} (h : CT X C W e t) : CW X C W (.BoolOp .And [e] pos) t := fun hK => pw_and1 (h hK)
theorem cw_or1 {e : Expr} {t : ET} (h : CT X C W e t) : CW X C W (.BoolOp .Or [e] pos) t := fun hK => pw_or1 (h hK)
theorem cw_and {a b : Expr} {rest : List Expr} {t u : ET} (ha : CT X C W a t) (hb : CW X C W (.BoolOp .And (b :: rest) pos) u) : CW X C W (.BoolOp .And (a :: b :: rest) pos) (Lt.tAnd t u) := fun hK =>
  pw_imp (pw_and (ha hK) (hb hK)) fun σ H Q ⟨S, m, ev, R, E, h⟩ => ⟨S, m, ev, R, E, (PostG.bnd h).imp fun b H1 ⟨S1, m1, b', g1, R1, i1, h1⟩ => by
    cases i1
    cases b with
    | true => exact ⟨S1, m1, ev, R1, E.mono g1, h1⟩
    | false => exact h1 S1 H1 _ .refl R1 rfl⟩
theorem cw_or {a b : Expr} {rest : List Expr} {t u : ET} (ha : CT X C W a t) (hb : CW X C W (.BoolOp .Or (b :: rest) pos) u) : CW X C W (.BoolOp .Or (a :: b :: rest) pos) (Lt.tOr t u) := fun hK =>
  pw_imp (pw_or (ha hK) (hb hK)) fun σ H Q ⟨S, m, ev, R, E, h⟩ => ⟨S, m, ev, R, E, (PostG.bnd h).imp fun b H1 ⟨S1, m1, b', g1, R1, i1, h1⟩ => by
    cases i1
    cases b with
    | true => exact h1 S1 H1 _ .refl R1 rfl
    | false => exact ⟨S1, m1, ev, R1, E.mono g1, h1⟩⟩
end
end Lt

set_option Elab.async false
set_option linter.all false
set_option maxRecDepth 100000
/-! C4: the operations keep their promises: operators, comparisons, places, slices, built-ins, methods. -/
namespace Lt
open PySem L2

section
variable {C : Cn} {X : Cx}
/-! ### operators -/
def rAddA (K : PySem.W.Frag) : R2 := fun x y H Q => rI0 (fun i j => .int (i + j)) x y H Q ∨ (∃ i j, x = .str i ∧ y = .str j ∧ i.length + j.length ≤ sizeLine ∧ Q (.str (i ++ j)) H) ∨ rCatA K x y H Q ∨ rCat x y H Q
theorem op_addA : OpR X (binaryOp .Add) (rAddA X.K) := OpR.or op_add (OpR.or op_add_str (OpR.or op_catA op_cat))
theorem o_lists {nw : Bool} {S : Wd} {H : Hp} {m : Mem} {x y : V} {dx dy : D} {E : Ecl → Hp → Prop} {Q : VK} {a b : List D} (R : Rep C S H m) (ix : IsV C S H x dx) (iy : IsV C S H y dy) (e1 : rdW dx m = some a) (e2 : rdW dy m = some b)
    (h : PostG C S H E (isV C) (if a.length + b.length ≤ SZ then outL nw (a ++ b) m else .stk) Q) : rCat x y H Q := by
  obtain ⟨p, vs, rfl, h1, t1⟩ := ix.rdW R e1
  obtain ⟨q, ws, rfl, h2, t2⟩ := iy.rdW R e2
  by_cases z : a.length + b.length ≤ SZ
  · rw [if_pos z] at h
    refine ⟨p, q, vs, ws, rfl, rfl, h1, h2, by rw [t1.length, t2.length]; exact sz_le z, (post_out R (t1.app t2) h).2⟩
  · rw [if_neg z] at h
    exact h.elim
theorem op2_add (nw : Bool) : Op2 C (rAddA C.K) (oAdd nw) := fun S H m x y dx dy E Q R ix iy h => by
  have lists : PostG C S H E (isV C) (match rdW dx m, rdW dy m with
      | some a, some b => if a.length + b.length ≤ SZ then outL nw (a ++ b) m else .stk
      | _, _ => .stk) Q → rAddA C.K x y H Q := fun h => by
    cases e1 : rdW dx m with
    | none => simp only [e1] at h; exact h.elim
    | some a =>
      cases e2 : rdW dy m with
      | none => simp only [e1, e2] at h; exact h.elim
      | some b =>
        simp only [e1, e2] at h
        exact .inr (.inr (.inr (o_lists R ix iy e1 e2 h)))
  cases ix with
  | int i =>
    cases iy with
    | int j => exact .inl ⟨i, j, rfl, rfl, h S H _ .refl R (.int _)⟩
    | _ => exact lists h
  | str a =>
    cases iy with
    | str b =>
      dsimp only [oAdd] at h
      by_cases z : a.length + b.length ≤ SZ
      · rw [if_pos z] at h
        exact .inr (.inl ⟨a, b, rfl, rfl, sz_le z, h S H _ .refl R (.str _)⟩)
      · rw [if_neg z] at h
        exact h.elim
    | _ => exact lists h
  | @tup p vs ds o e t =>
    cases iy with
    | @tup q ws es o2 e2 t2 =>
      dsimp only [oAdd] at h
      by_cases z : ds.length + es.length ≤ SZ
      · rw [if_pos z] at h
        refine .inr (.inr (.inl ⟨p, q, vs, ws, rfl, rfl, .inl (.inl e), .inl (.inl e2), by rw [t.length, t2.length]; exact sz_le z, fun z1 => ?_, fun _ z2 => ?_, fun _ _ => post_tup R (t.app t2) h⟩))
        · subst z1
          cases t
          exact h S H _ .refl R (.tup o2 e2 t2)
        · subst z2
          cases t2
          rw [List.append_nil] at h
          exact h S H _ .refl R (.tup o e t)
      · rw [if_neg z] at h
        exact h.elim
    | _ => exact lists h
  | _ => exact lists h
theorem twoInts {P : Prop} {S : Wd} {H : Hp} {m : Mem} {x y : V} {dx dy : D} (ix : IsV C S H x dx) (iy : IsV C S H y dy) (h1 : ∀ i j, x = .int i → y = .int j → dx = .int i → dy = .int j → P) (h2 : (∀ i j, dx = .int i → dy = .int j → False) → P) : P := by
  cases ix with
  | int i =>
    cases iy with
    | int j => exact h1 i j rfl rfl rfl rfl
    | _ => exact h2 fun _ _ _ e => nomatch e
  | _ => exact h2 fun _ _ e _ => nomatch e
theorem op2_int {r : R2} {o : D → D → M D} {G : Int → Int → Prop} [∀ i j, Decidable (G i j)] {f : Int → Int → Int} (ho : ∀ i j m, o (.int i) (.int j) m = if G i j then .ok (.int (f i j)) m else .stk) (hn : ∀ x y m, (∀ i j, x = .int i → y = .int j → False) → o x y m = .stk)
    (hr : ∀ i j H Q, G i j → Q (.int (f i j)) H → r (.int i) (.int j) H Q) : Op2 C r o := fun S H m x y dx dy E Q R ix iy h => by
  refine twoInts (m := m) ix iy (fun i j e1 e2 e3 e4 => ?_) fun n => ?_
  · subst e1 e2 e3 e4
    rw [ho] at h
    by_cases z : G i j
    · rw [if_pos z] at h
      exact hr i j H Q z (h S H _ .refl R (.int _))
    · rw [if_neg z] at h
      exact h.elim
  · rw [hn _ _ _ n] at h
    exact h.elim
theorem op2_sub : Op2 C (rI0 fun i j => .int (i - j)) oSub := op2_int (G := fun _ _ => True) (f := fun i j => i - j) (fun i j m => by rw [if_pos trivial]; rfl) (fun x y m n => by unfold oSub; split; exact (n _ _ rfl rfl).elim; rfl) fun i j H Q _ q => ⟨i, j, rfl, rfl, q⟩
theorem op2_mul : Op2 C (rI CMul fun i j => .int (i * j)) oMul := op2_int (G := fun i j => (-(2 ^ 64) < i ∧ i < 2 ^ 64) ∨ (-(2 ^ 64) < j ∧ j < 2 ^ 64)) (f := fun i j => i * j) (fun i j m => rfl) (fun x y m n => by unfold oMul; split; exact (n _ _ rfl rfl).elim; rfl) fun i j H Q z q => ⟨i, j, rfl, rfl, z, q⟩
theorem op2_fdiv : Op2 C (rI CDiv fun i j => .int (i / j)) oFdiv := op2_int (G := fun _ j => 0 < j ∧ j < 1073741824) (f := fun i j => i / j) (fun i j m => rfl) (fun x y m n => by unfold oFdiv; split; exact (n _ _ rfl rfl).elim; rfl) fun i j H Q z q => ⟨i, j, rfl, rfl, z, q⟩
theorem op2_mod : Op2 C (rI (fun _ j => 0 < j) fun i j => .int (i % j)) oMod := op2_int (G := fun _ j => 0 < j) (f := fun i j => i % j) (fun i j m => rfl) (fun x y m n => by unfold oMod; split; exact (n _ _ rfl rfl).elim; rfl) fun i j H Q z q => ⟨i, j, rfl, rfl, z, q⟩
theorem op2_pow : Op2 C (rI CPow fun i j => .int (i ^ j.toNat)) oPow := op2_int (G := fun i j => 0 ≤ j ∧ j ≤ 1000000 ∧ i.natAbs < 2 ^ 64) (f := fun i j => i ^ j.toNat) (fun i j m => rfl) (fun x y m n => by unfold oPow; split; exact (n _ _ rfl rfl).elim; rfl) fun i j H Q z q => ⟨i, j, rfl, rfl, z, q⟩
theorem repS_mul (z : Str) (n : Int) (h0 : 0 ≤ n) : Txt.mul z n = repS z n := by
  have fl : ∀ (k : Nat) (acc : List Nat), (List.replicate k z.cps).foldl (· ++ ·) acc.toArray = (acc ++ (List.replicate k z.cps.toList).flatten).toArray := fun k => by
    induction k with
    | zero => intro acc; simp
    | succ k ih =>
      intro acc
      have e : acc.toArray ++ z.cps = (acc ++ z.cps.toList).toArray := by
        apply Array.ext'
        simp
      rw [List.replicate_succ, List.foldl_cons, e, ih, List.replicate_succ, List.flatten_cons, List.append_assoc]
  unfold Txt.mul repS
  by_cases h1 : n < 1
  · have e : n = 0 := by omega
    subst e
    rw [if_pos (by decide)]
    rfl
  · rw [if_neg h1]
    by_cases h2 : (n == 1 || z.length == 0) = true
    · rw [if_pos h2]
      rcases Bool.or_eq_true_iff.mp h2 with h3 | h3
      · have e : n = 1 := eq_of_beq h3
        subst e
        show z = ⟨(List.replicate 1 z.cps.toList).flatten.toArray⟩
        cases z
        simp
      · have e : z.cps.size = 0 := eq_of_beq h3
        have e2 : z.cps.toList = [] := by
          have := Array.length_toList (xs := z.cps)
          rw [e] at this
          exact List.length_eq_zero_iff.mp this
        have e3 : z.cps = #[] := by
          apply Array.ext'
          rw [e2]
        rw [e2]
        cases z
        simp only at e3
        subst e3
        have e4 : ∀ k : Nat, (List.replicate k ([] : List Nat)).flatten = [] := fun k => by
          induction k with
          | zero => rfl
          | succ k ih => rw [List.replicate_succ, List.flatten_cons, ih]; rfl
        rw [e4]
    · rw [if_neg h2]
      have e := fl n.toNat []
      rw [List.nil_append] at e
      exact congrArg Str.mk e
def rRepS : R2 := fun x y H Q => ∃ z n, x = .str z ∧ y = .int n ∧ 0 ≤ n ∧ n ≤ 1000000 ∧ z.length * n.toNat ≤ sizeLine ∧ Q (.str (repS z n)) H
theorem op_repS : OpR X (binaryOp .Mult) rRepS := by
  intro pins s σ H x y v u Q I rx ry h
  obtain ⟨z, n, rfl, rfl, h0, h1, h2, q⟩ := h
  obtain ⟨t, rfl⟩ := rx
  obtain ⟨t2, rfl⟩ := ry
  refine SB.mul ⟨?_, fun k1 k2 => ?_, fun k1 k2 => ?_⟩ fun t' k => ⟨.str (repS z n), H, I.tok k, ⟨t', by rw [repS_mul z n h0]⟩, q⟩
  · rw [decide_eq_false (by omega), decide_eq_false (by omega)]
    rfl
  · have hz : z.length ≤ sizeLine := by
      have e : 1 ≤ n.toNat := by omega
      exact Nat.le_trans (Nat.le_mul_of_pos_right _ e) h2
    rw [PySem.sizeLine_eq] at hz
    have hd : (16777216 : Int) ≤ (2 ^ 63 - 1) / n := by
      refine Int.le_ediv_of_mul_le (by omega) ?_
      omega
    omega
  · exact notLongL h2
def rMulA : R2 := fun x y H Q => rRepS x y H Q ∨ rRep x y H Q
theorem op_mulA : OpR X (binaryOp .Mult) rMulA := OpR.or op_repS op_rep
theorem op2_rep (nw : Bool) : Op2 C rMulA (oRep nw) := fun S H m x y dx dy E Q R ix iy h => by
  cases iy with
  | int n =>
    have lists : (match rdW dx m with
        | some xs => if -(2 ^ 63) ≤ n ∧ n < 2 ^ 63 ∧ xs.length * n.toNat ≤ SZ then outL nw (List.replicate n.toNat xs).flatten m else .stk
        | none => .stk : Lt.R D) = oRep nw dx (.int n) m → rMulA x (.int n) H Q := fun e => by
      rw [← e] at h
      cases e1 : rdW dx m with
      | none => simp only [e1] at h; exact h.elim
      | some xs =>
        simp only [e1] at h
        by_cases z : -(2 ^ 63) ≤ n ∧ n < 2 ^ 63 ∧ xs.length * n.toNat ≤ SZ
        · rw [if_pos z] at h
          obtain ⟨a, vs, rfl, h1, t⟩ := ix.rdW R e1
          have rep : ∀ k : Nat, IsVs C S H (List.replicate k vs).flatten (List.replicate k xs).flatten := fun k => by
            induction k with
            | zero => exact .nil
            | succ k ih =>
              rw [List.replicate_succ, List.replicate_succ, List.flatten_cons, List.flatten_cons]
              exact t.app ih
          exact .inr ⟨a, n, vs, rfl, rfl, h1, z.1, z.2.1, by rw [t.length]; exact sz_le z.2.2, (post_out R (rep n.toNat) h).2⟩
        · rw [if_neg z] at h
          exact h.elim
    cases ix with
    | str z =>
      dsimp only [oRep] at h
      by_cases q : 0 ≤ n ∧ n ≤ 1000000 ∧ z.length * n.toNat ≤ SZ
      · rw [if_pos q] at h
        exact .inl ⟨z, n, rfl, rfl, q.1, q.2.1, sz_le q.2.2, h S H _ .refl R (.str _)⟩
      · rw [if_neg q] at h
        exact h.elim
    | _ => exact lists rfl
  | _ => exact h.elim
theorem op1_neg : Op1 C (rU fun i => .int (-i)) oNeg := fun S H m x dx E Q R ix h => by
  cases ix with
  | int i => exact ⟨i, rfl, h S H _ .refl R (.int _)⟩
  | _ => exact h.elim
/-! ### comparisons -/
def rCmpA (f : Int → Int → Bool) (g : Str → Str → Bool) : R2 := fun x y H Q => rI0 (fun i j => .bl (f i j)) x y H Q ∨ ∃ i j, x = .str i ∧ y = .str j ∧ Q (.bl (g i j)) H
theorem op2_cmp {o : D → D → M D} {f : Int → Int → Bool} {g : Str → Str → Bool} (h1 : ∀ i j m, o (.int i) (.int j) m = .ok (.bl (f i j)) m) (h2 : ∀ i j m, o (.str i) (.str j) m = .ok (.bl (g i j)) m)
    (h3 : ∀ x y m, (∀ i j, x = .int i → y = .int j → False) → (∀ i j, x = .str i → y = .str j → False) → o x y m = .stk) : Op2 C (rCmpA f g) o := fun S H m x y dx dy E Q R ix iy h => by
  have no : (∀ i j, dx = .int i → dy = .int j → False) → (∀ i j, dx = .str i → dy = .str j → False) → rCmpA f g x y H Q := fun a b => by
    rw [h3 _ _ _ a b] at h
    exact h.elim
  cases ix with
  | int i =>
    cases iy with
    | int j =>
      rw [h1] at h
      exact .inl ⟨i, j, rfl, rfl, h S H _ .refl R (.bl _)⟩
    | _ => exact no (fun _ _ _ e => nomatch e) fun _ _ e _ => nomatch e
  | str i =>
    cases iy with
    | str j =>
      rw [h2] at h
      exact .inr ⟨i, j, rfl, rfl, h S H _ .refl R (.bl _)⟩
    | _ => exact no (fun _ _ e _ => nomatch e) fun _ _ _ e => nomatch e
  | _ => exact no (fun _ _ e _ => nomatch e) fun _ _ e _ => nomatch e
theorem op_ltA : OpR X (compareOp .Lt) (rCmpA (fun i j => decide (i < j)) strLt) := OpR.or op_lt op_lt_str
theorem op_leA : OpR X (compareOp .LtE) (rCmpA (fun i j => decide (i ≤ j)) fun i j => !strLt j i) := OpR.or op_le op_le_str
theorem op_gtA : OpR X (compareOp .Gt) (rCmpA (fun i j => decide (j < i)) fun i j => strLt j i) := OpR.or op_gt op_gt_str
theorem op_geA : OpR X (compareOp .GtE) (rCmpA (fun i j => decide (j ≤ i)) fun i j => !strLt i j) := OpR.or op_ge op_ge_str
theorem op2_lt : Op2 C (rCmpA (fun i j => decide (i < j)) strLt) oLt := op2_cmp (fun _ _ _ => rfl) (fun _ _ _ => rfl) fun x y m a b => by unfold oLt; split; exact (a _ _ rfl rfl).elim; exact (b _ _ rfl rfl).elim; rfl
theorem op2_le : Op2 C (rCmpA (fun i j => decide (i ≤ j)) fun i j => !strLt j i) oLe := op2_cmp (fun _ _ _ => rfl) (fun _ _ _ => rfl) fun x y m a b => by unfold oLe; split; exact (a _ _ rfl rfl).elim; exact (b _ _ rfl rfl).elim; rfl
theorem op2_gt : Op2 C (rCmpA (fun i j => decide (j < i)) fun i j => strLt j i) oGt := op2_cmp (fun _ _ _ => rfl) (fun _ _ _ => rfl) fun x y m a b => by unfold oGt; split; exact (a _ _ rfl rfl).elim; exact (b _ _ rfl rfl).elim; rfl
theorem op2_ge : Op2 C (rCmpA (fun i j => decide (j ≤ i)) fun i j => !strLt i j) oGe := op2_cmp (fun _ _ _ => rfl) (fun _ _ _ => rfl) fun x y m a b => by unfold oGe; split; exact (a _ _ rfl rfl).elim; exact (b _ _ rfl rfl).elim; rfl
/-! equality -/
mutual
theorem dp_of {S : Wd} {H : Hp} {m : Mem} : ∀ {v : V} {d : D} {p : PyData}, IsV C S H v d → toPy m d = some p → Dp C.K H v p
  | _, _, p, .non, h => by simp only [toPy, Option.some.injEq] at h; subst h; exact .non
  | _, _, p, .bl b, h => by simp only [toPy, Option.some.injEq] at h; subst h; exact .bl b
  | _, _, p, .int i, h => by simp only [toPy, Option.some.injEq] at h; subst h; exact .int i
  | _, _, p, .str s, h => by simp only [toPy, Option.some.injEq] at h; subst h; exact .str s
  | _, _, p, .lst o e t, h => by
    simp only [toPy] at h
    obtain ⟨ps, h1, rfl⟩ := Option.map_eq_some_iff.mp h
    exact .lst (.inl (.inl e)) (dps_of t h1)
  | _, _, p, .klst (.inl ⟨o, ob, e⟩) t, h => by
    simp only [toPy] at h
    obtain ⟨ps, h1, rfl⟩ := Option.map_eq_some_iff.mp h
    exact .lst (.inl (.inr ⟨ob, e⟩)) (dps_of t h1)
  | _, _, p, .klst (.inr e) t, h => by
    simp only [toPy] at h
    obtain ⟨ps, h1, rfl⟩ := Option.map_eq_some_iff.mp h
    exact .lst (sqK e) (dps_of t h1)
  | _, _, p, .tup o e t, h => by
    simp only [toPy] at h
    obtain ⟨ps, h1, rfl⟩ := Option.map_eq_some_iff.mp h
    exact .tup (.inl (.inl e)) (dps_of t h1)
  | _, _, p, .dic o e t, h => by simp only [toPy] at h; cases h
  | _, _, p, .ref e, h => by simp only [toPy] at h; cases h
  | _, _, p, .exc c o e, h => by simp only [toPy] at h; cases h
theorem dps_of {S : Wd} {H : Hp} {m : Mem} : ∀ {v : List V} {d : List D} {p : List PyData}, IsVs C S H v d → toPys m d = some p → DpAll C.K H v p
  | _, _, p, .nil, h => by simp only [toPys, Option.some.injEq] at h; subst h; exact .nil
  | _, d :: ds, p, .cons i t, h => by
    simp only [toPys] at h
    cases e1 : toPy m d with
    | none => simp only [e1] at h; cases h
    | some q =>
      cases e2 : toPys m ds with
      | none => simp only [e1, e2] at h; cases h
      | some qs =>
        simp only [e1, e2] at h
        cases h
        exact .cons (dp_of i e1) (dps_of t e2)
end
theorem dpT_of {S : Wd} {H : Hp} {m : Mem} {v : V} {d : D} {p : PyData} (R : Rep C S H m) (i : IsV C S H v d) (h : toPyT d m = some p) : Dp C.K H v p := by
  have i0 := i
  cases i with
  | @ref a n al =>
    unfold toPyT at h
    cases q : m[n]? with
    | none => simp only [q] at h; cases h
    | some c =>
      simp only [q] at h
      cases c with
      | lst ds =>
        obtain ⟨ps, h1, rfl⟩ := Option.map_eq_some_iff.mp h
        obtain ⟨vs, e, t⟩ := R.ok n a _ al q
        exact .lst (.inl (.inl e)) (dps_of t h1)
      | _ => cases h
  | _ => exact dp_of (m := m) i0 h
def rEqA (K : PySem.W.Frag) : R2 := fun x y H Q => rEq x y H Q ∨ rEqD K x y H Q
def rNeA (K : PySem.W.Frag) : R2 := fun x y H Q => rNe x y H Q ∨ rNeD K x y H Q
theorem op_eqA (hu : X.A.units + 64 < cLine) : OpR X (compareOp .Eq) (rEqA X.K) := OpR.or op_eq (op_eqD hu)
theorem op_neA (hu : X.A.units + 64 < cLine) : OpR X (compareOp .NotEq) (rNeA X.K) := OpR.or op_ne (op_neD hu)
theorem eqD_is {S : Wd} {H : Hp} {m : Mem} {x y : V} {dx dy : D} {b : Bool} (R : Rep C S H m) (ix : IsV C S H x dx) (iy : IsV C S H y dy) (h : eqD dx dy m = some b) :
    (scal x y = true ∧ decide (x = y) = b) ∨ ∃ d e, Dp C.K H x d ∧ Dp C.K H y e ∧ SeqAt.shaped d = true ∧ SeqAt.shaped e = true ∧ PyData.eqv d e = b := by
  unfold eqD at h
  cases q : scalD dx dy with
  | some c =>
    rw [q] at h
    cases (Option.some.inj h : c = b)
    refine .inl ?_
    cases ix <;> cases iy <;> first | (cases q; done) | (unfold scalD at q; cases q; refine ⟨rfl, ?_⟩; first | rfl | simp)
  | none =>
    rw [q] at h
    refine .inr ?_
    dsimp only at h
    cases e1 : toPyT dx m with
    | none => simp only [e1] at h; cases h
    | some d =>
      cases e2 : toPyT dy m with
      | none => simp only [e1, e2] at h; cases h
      | some e =>
        simp only [e1, e2] at h
        by_cases z : SeqAt.shaped d = true ∧ SeqAt.shaped e = true
        · rw [if_pos z] at h
          exact ⟨d, e, dpT_of R ix e1, dpT_of R iy e2, z.1, z.2, Option.some.inj h⟩
        · rw [if_neg z] at h
          cases h
theorem op2_eq : Op2 C (rEqA C.K) oEq := fun S H m x y dx dy E Q R ix iy h => by
  unfold oEq at h
  cases q : eqD dx dy m with
  | none => simp only [q] at h; exact h.elim
  | some b =>
    simp only [q] at h
    have hq : Q (.bl b) H := h S H _ .refl R (.bl b)
    rcases eqD_is R ix iy q with ⟨a, rfl⟩ | ⟨d, e, h1, h2, h3, h4, rfl⟩
    · exact .inl ⟨a, hq⟩
    · exact .inr ⟨d, e, h1, h2, h3, h4, hq⟩
theorem op2_ne : Op2 C (rNeA C.K) oNe := fun S H m x y dx dy E Q R ix iy h => by
  unfold oNe at h
  cases q : eqD dx dy m with
  | none => simp only [q] at h; exact h.elim
  | some b =>
    simp only [q] at h
    have hq : Q (.bl (!b)) H := h S H _ .refl R (.bl _)
    rcases eqD_is R ix iy q with ⟨a, rfl⟩ | ⟨d, e, h1, h2, h3, h4, rfl⟩
    · exact .inl ⟨a, hq⟩
    · exact .inr ⟨d, e, h1, h2, h3, h4, hq⟩
/-! is None -/
theorem op2_isN : Op2 C (fun x y H Q => y = .non ∧ Q (.bl (decide (x = .non))) H) oIsN := fun S H m x y dx dy E Q R ix iy h => by
  cases iy with
  | non => cases ix <;> exact ⟨rfl, h S H _ .refl R (.bl _)⟩
  | _ => exact h.elim
theorem op2_notN : Op2 C (fun x y H Q => y = .non ∧ Q (.bl (!decide (x = .non))) H) oNotN := fun S H m x y dx dy E Q R ix iy h => by
  cases iy with
  | non => cases ix <;> exact ⟨rfl, h S H _ .refl R (.bl _)⟩
  | _ => exact h.elim
/-! in -/
theorem flat_is {S : Wd} {H : Hp} {v : V} {d : D} (i : IsV C S H v d) (h : flatD d = true) : flatV v = true := by
  cases i <;> first | rfl | cases h
theorem flats_is {S : Wd} {H : Hp} : ∀ {vs : List V} {ds : List D}, IsVs C S H vs ds → ds.all flatD = true → vs.all flatV = true
  | _, _, .nil, _ => rfl
  | _, _, .cons i t, h => by
    rw [List.all_cons, Bool.and_eq_true] at h ⊢
    exact ⟨flat_is i h.1, flats_is t h.2⟩
theorem eqF_is {S : Wd} {H : Hp} {v w : V} {d e : D} (i : IsV C S H v d) (j : IsV C S H w e) (h1 : flatD d = true) (h2 : flatD e = true) : eqV v w = eqF d e := by
  cases i <;> first | (cases h1; done) | (cases j <;> first | (cases h2; done) | rfl)
theorem inF_is {S : Wd} {H : Hp} {v : V} {d : D} (i : IsV C S H v d) (h1 : flatD d = true) : ∀ {vs : List V} {ds : List D}, IsVs C S H vs ds → ds.all flatD = true → inV v vs = inF d ds
  | _, _, .nil, _ => rfl
  | _, _, .cons j t, h => by
    rw [List.all_cons, Bool.and_eq_true] at h
    show (eqV _ v || inV v _) = (eqF _ d || inF d _)
    rw [inF_is i h1 t h.2, eqF_is j i h.1 h1]
theorem keyD_is {S : Wd} {H : Hp} {v : V} {d : D} {k : Key} (i : IsV C S H v d) (h : keyD d = some k) : v = kV k := by
  cases i with
  | int i => cases h; rfl
  | str s => cases h; rfl
  | _ => cases h
theorem valD_is {S : Wd} {H : Hp} {k : Key} : ∀ {kvs : List (Key × V)} {kds : List (Key × D)}, IsKs C S H kvs kds → (valD kds k = none ∧ valV kvs k = none) ∨ ∃ v d, valD kds k = some d ∧ valV kvs k = some v ∧ IsV C S H v d
  | _, _, .nil => .inl ⟨rfl, rfl⟩
  | (k', v) :: kvs, (_, d) :: kds, .cons i t => by
    by_cases e : k' = k
    · refine .inr ⟨v, d, ?_, ?_, i⟩
      · simp [valD, e]
      · simp [valV, e]
    · have h1 : valD ((k', d) :: kds) k = valD kds k := by simp [valD, e]
      have h2 : valV ((k', v) :: kvs) k = valV kvs k := by simp [valV, e]
      rw [h1, h2]
      exact valD_is t
def rInA (K : PySem.W.Frag) : R2 := fun x y H Q => (∃ (c : Nat) (z : Str), x = .str ⟨#[c]⟩ ∧ y = .str z ∧ Q (.bl (decide (c ∈ z.cps.toList))) H) ∨ rIn K false x y H Q ∨ ∃ a o, y = .ref a ∧ DGet H a x o ∧ Q (.bl o.isSome) H
def rNotInA (K : PySem.W.Frag) : R2 := fun x y H Q => (∃ (c : Nat) (z : Str), x = .str ⟨#[c]⟩ ∧ y = .str z ∧ Q (.bl (!decide (c ∈ z.cps.toList))) H) ∨ rIn K true x y H Q ∨ ∃ a o, y = .ref a ∧ DGet H a x o ∧ Q (.bl (!o.isSome)) H
theorem op_in_dic (hu : X.A.units + 1 < cLine) : OpR X (compareOp .In) (fun x y H Q => ∃ a o, y = .ref a ∧ DGet H a x o ∧ Q (.bl o.isSome) H) := by
  intro pins s σ H x y v u Q I rx ry h
  obtain ⟨a, o, rfl, g, q⟩ := h
  obtain rfl : u = Value.ref a := ry
  exact d_in hu I g rx fun s' I' => ⟨.bl o.isSome, H, I', rfl, q⟩
theorem op_notIn_dic (hu : X.A.units + 1 < cLine) : OpR X (compareOp .NotIn) (fun x y H Q => ∃ a o, y = .ref a ∧ DGet H a x o ∧ Q (.bl (!o.isSome)) H) := by
  intro pins s σ H x y v u Q I rx ry h
  obtain ⟨a, o, rfl, g, q⟩ := h
  obtain rfl : u = Value.ref a := ry
  exact d_notIn hu I g rx fun s' I' => ⟨.bl (!o.isSome), H, I', rfl, q⟩
theorem op_inA (hu : X.A.units + 1 < cLine) : OpR X (compareOp .In) (rInA X.K) := OpR.or op_in_sign (OpR.or op_in_seq (op_in_dic hu))
theorem op_notInA (hu : X.A.units + 1 < cLine) : OpR X (compareOp .NotIn) (rNotInA X.K) := OpR.or op_notIn_sign (OpR.or op_notIn_seq (op_notIn_dic hu))
/-- what inD says, in the heap's words -/
inductive InIs (C : Cn) (H : Hp) (x y : V) : Bool → Prop where
  | sign (c : Nat) (z : Str) : x = .str ⟨#[c]⟩ → y = .str z → InIs C H x y (decide (c ∈ z.cps.toList))
  | seq {p : Addr} {xs : List V} : y = .ref p → (SqL C.K H p xs ∨ SqT C.K H p xs) → flatV x = true → xs.all flatV = true → InIs C H x y (inV x xs)
  | dic {a : Addr} {o : Option V} : y = .ref a → DGet H a x o → InIs C H x y o.isSome
theorem inD_is {S : Wd} {H : Hp} {m : Mem} {x y : V} {dx dy : D} {b : Bool} (R : Rep C S H m) (ix : IsV C S H x dx) (iy : IsV C S H y dy) (h : inD dx dy m = some b) : InIs C H x y b := by
  have seqs : (match rdL dy m with
      | some ys => if flatD dx = true ∧ ys.all flatD = true then some (inF dx ys) else none
      | none => match rdK dy m, keyD dx with
        | some kvs, some k => some (valD kvs k).isSome
        | _, _ => none) = some b → InIs C H x y b := fun h => by
    cases e : rdL dy m with
    | some ys =>
      simp only [e] at h
      by_cases z : flatD dx = true ∧ ys.all flatD = true
      · rw [if_pos z] at h
        cases h
        obtain ⟨a, vs, rfl, sq, t⟩ := iy.rdL R e
        rw [← inF_is ix z.1 t z.2]
        exact .seq rfl (.inl sq) (flat_is ix z.1) (flats_is t z.2)
      · rw [if_neg z] at h
        cases h
    | none =>
      simp only [e] at h
      cases e1 : rdK dy m with
      | none => simp only [e1] at h; cases h
      | some kds =>
        cases e2 : keyD dx with
        | none => simp only [e1, e2] at h; cases h
        | some k =>
          simp only [e1, e2] at h
          cases h
          obtain ⟨a, kvs, rfl, r, t⟩ := iy.rdK R e1
          obtain rfl := keyD_is ix e2
          rcases valD_is (k := k) t with ⟨h1, h2⟩ | ⟨v, d, h1, h2, _⟩
          · rw [h1]
            exact .dic (o := none) rfl (.inl ⟨kvs, k, r, rfl, h2.symm⟩)
          · rw [h1]
            exact .dic (o := some v) rfl (.inl ⟨kvs, k, r, rfl, h2.symm⟩)
  cases iy with
  | str z =>
    cases ix with
    | str w =>
      obtain ⟨⟨l⟩⟩ := w
      cases l with
      | nil => cases h
      | cons c r =>
        cases r with
        | nil => cases h; exact .sign c z rfl rfl
        | cons c' r => cases h
    | _ => cases h
  | @tup p vs ds o e t =>
    dsimp only [inD] at h
    by_cases z : flatD dx = true ∧ ds.all flatD = true
    · rw [if_pos z] at h
      cases h
      rw [← inF_is ix z.1 t z.2]
      exact .seq rfl (.inr (.inl (.inl e))) (flat_is ix z.1) (flats_is t z.2)
    · rw [if_neg z] at h
      cases h
  | _ => exact seqs h
theorem op2_in : Op2 C (rInA C.K) oIn := fun S H m x y dx dy E Q R ix iy h => by
  unfold oIn at h
  cases q : inD dx dy m with
  | none => simp only [q] at h; exact h.elim
  | some b =>
    simp only [q] at h
    have hq : Q (.bl b) H := h S H _ .refl R (.bl b)
    cases inD_is R ix iy q with
    | sign c z e1 e2 => exact .inl ⟨c, z, e1, e2, hq⟩
    | seq e1 sq f1 f2 => exact .inr (.inl ⟨_, _, e1, sq, f1, f2, hq⟩)
    | dic e1 g => exact .inr (.inr ⟨_, _, e1, g, hq⟩)
theorem op2_notIn : Op2 C (rNotInA C.K) oNotIn := fun S H m x y dx dy E Q R ix iy h => by
  unfold oNotIn at h
  cases q : inD dx dy m with
  | none => simp only [q] at h; exact h.elim
  | some b =>
    simp only [q] at h
    have hq : Q (.bl (!b)) H := h S H _ .refl R (.bl _)
    cases inD_is R ix iy q with
    | sign c z e1 e2 => exact .inl ⟨c, z, e1, e2, hq⟩
    | seq e1 sq f1 f2 => exact .inr (.inl ⟨_, _, e1, sq, f1, f2, hq⟩)
    | dic e1 g => exact .inr (.inr ⟨_, _, e1, g, hq⟩)
end
end Lt

set_option Elab.async false
set_option linter.all false
set_option maxRecDepth 100000
/-! C5: places, slices, chains, built-ins, methods of built-in types, what is walked, comprehensions. -/
namespace Lt
open PySem PySem.Spec PyProof.Rows L2

section
variable {X : Cx} {C : Cn} {W : WX} {pos : Pos}
/-! ### places -/
theorem ix_dic (hu : X.A.units + 1 < cLine) : IxR X (fun x y H Q => ∃ a v, x = .ref a ∧ DGet H a y (some v) ∧ Q v H) := by
  intro value slice pins s σ H x y v u Q I rx ry h hs
  obtain ⟨a, w, rfl, g, q⟩ := h
  obtain rfl : v = Value.ref a := rx
  have hT := dict_typeIs I g
  unfold subscriptTail
  refine wpAny_bind ?_
  rw [getitemInPython_of_ne hT.not_modules]
  refine wpAny_bind (wpAny_specialOf hT PySem.F.slot_dict_getitem.lookup ?_)
  have fin : wpAny (model X.prog X.w) X.A (subscripted slice false (.ref a) u) (fun r s₃ => wpAny (model X.prog X.w) X.A (letTemporaryGo value (.ref a) r >>= fun _ => pure r) (EP X pins σ Q) X.xe s₃) X.xe s := by
    rw [hs]
    refine wpAny_operating (d_getItem hu I g ry fun w' s3 I3 rw' => wpAny_bind (wpAny_letTemporaryGo (wpAny_pure ⟨w, H, I3, rw', q⟩)))
  exact wpAny_pure (wpAny_bind fin)
def rIxA (K : PySem.W.Frag) : R2 := fun x y H Q => rIx K x y H Q ∨ ∃ a v, x = .ref a ∧ DGet H a y (some v) ∧ Q v H
theorem ix_A (hu : X.A.units + 1 < cLine) : IxR X (rIxA X.K) := IxR.or ix_seq (ix_dic hu)
theorem op2_ix : Op2 C (rIxA C.K) oIx := fun S H m x y dx dy E Q R ix iy h => by
  have dic : ∀ {k : Key}, y = kV k → (match rdK dx m with
      | some kvs => match valD kvs k with
        | some d => .ok d m
        | none => .stk
      | none => .stk : Lt.R D) = oIx dx dy m → rIxA C.K x y H Q := fun {k} ey e => by
    rw [← e] at h
    cases e1 : rdK dx m with
    | none => simp only [e1] at h; exact h.elim
    | some kds =>
      simp only [e1] at h
      obtain ⟨a, kvs, rfl, r, t⟩ := ix.rdK R e1
      rcases valD_is (k := k) t with ⟨h1, h2⟩ | ⟨v, d, h1, h2, iv⟩
      · simp only [h1] at h; exact h.elim
      · simp only [h1] at h
        exact .inr ⟨a, v, rfl, .inl ⟨kvs, k, r, ey, h2.symm⟩, h S H _ .refl R iv⟩
  cases iy with
  | str s =>
    refine dic (k := .inr s) rfl ?_
    cases dx <;> rfl
  | int i =>
    have seq : (match rdL dx m with
      | some xs => match L2.atI xs i with
        | some d => .ok d m
        | none => .stk
      | none => match rdK dx m with
        | some kvs => match valD kvs (.inl i) with
          | some d => .ok d m
          | none => .stk
        | none => .stk : Lt.R D) = oIx dx (.int i) m → rIxA C.K x (.int i) H Q := fun e => by
      cases e1 : rdL dx m with
      | none =>
        refine dic (k := .inl i) rfl ?_
        rw [← e, e1]
      | some xs =>
        rw [← e] at h
        simp only [e1] at h
        obtain ⟨a, vs, rfl, sq, t⟩ := ix.rdL R e1
        cases e2 : L2.atI xs i with
        | none => simp only [e2] at h; exact h.elim
        | some d =>
          simp only [e2] at h
          obtain ⟨v, h1, iv⟩ := t.atI e2
          exact .inl (.inl ⟨a, vs, i, v, rfl, rfl, sq, h1, h S H _ .refl R iv⟩)
    cases ix with
    | @tup a vs ds o e t =>
      dsimp only [oIx] at h
      cases e2 : L2.atI ds i with
      | none => simp only [e2] at h; exact h.elim
      | some d =>
        simp only [e2] at h
        obtain ⟨v, h1, iv⟩ := t.atI e2
        exact .inl (.inr (.inl ⟨a, vs, i, v, rfl, rfl, .inl (.inl e), h1, h S H _ .refl R iv⟩))
    | str z =>
      dsimp only [oIx] at h
      by_cases l : z.length ≤ SZ
      · rw [if_pos l] at h
        cases e2 : L2.atI z.cps.toList i with
        | none => simp only [e2] at h; exact h.elim
        | some c =>
          simp only [e2] at h
          exact .inl (.inr (.inr ⟨z, i, c, rfl, rfl, sz_le l, e2, h S H _ .refl R (.str _)⟩))
      · rw [if_neg l] at h
        exact h.elim
    | _ => exact seq rfl
  | _ => first | exact h.elim | (cases dx <;> exact h.elim)
theorem ce_ix {a b : Expr} {ca cb : EC} (hu : X.A.units + 1 < cLine) (ha : CE X C W a ca) (hb : CE X C W b cb) (hs : PlainIx b := by exact fun _ _ => rfl) : CE X C W (.Subscript a b pos) (eBin oIx ca cb) := fun hK =>
  pe_imp (pe_ix (ix_A hu) (ha hK) (hb hK) hs) fun σ H Q ⟨S, m, ev, R, E, h⟩ => ⟨S, m, ev, R, E, (PostG.bnd h).imp fun x H1 ⟨S1, m1, dx, g1, R1, i1, h1⟩ =>
    ⟨S1, m1, ev, R1, E.mono g1, (PostG.bnd h1).imp fun y H2 ⟨S2, m2, dy, g2, R2, i2, h2⟩ => by rw [← hK]; exact op2_ix S2 H2 m2 x y dx dy _ Q R2 (i1.mono g2) i2 h2⟩⟩
/-! slices -/
theorem co_none : CO X C W none oNone := fun _ => po_imp po_none fun σ H Q ⟨S, m, ev, R, E, h⟩ => h S H none .refl R rfl
theorem co_some {e : Expr} {c : EC} (h : CE X C W e c) : CO X C W (some e) (oSome c) := fun hK =>
  po_imp (po_some (h hK)) fun σ H Q ⟨S, m, ev, R, E, h⟩ => ⟨S, m, ev, R, E, (PostG.bnd h).imp fun x H1 ⟨S1, m1, dx, g1, R1, i1, h1⟩ => by
    cases i1 with
    | int i => exact ⟨i, rfl, h1 S1 H1 _ .refl R1 rfl⟩
    | _ => exact h1.elim⟩
def rSlX (K : PySem.W.Frag) : V → Option Int → Option Int → Hp → VK → Prop := fun x lo hi H Q => rSlS x lo hi H Q ∨ rSlA K x lo hi H Q ∨ rSlL K x lo hi H Q
theorem sl_A : SlR X (rSlX X.K) := SlR.or sl_str (SlR.or sl_tupA sl_list)
theorem cutV_all {α : Type} (xs : List α) (lo hi : Option Int) (h : HT.sIx xs.length 0 lo = 0 ∧ HT.sIx xs.length xs.length hi = xs.length) : (xs.drop (HT.sIx xs.length 0 lo)).take (HT.sIx xs.length xs.length hi - HT.sIx xs.length 0 lo) = xs := by
  rw [h.1, h.2]
  simp
theorem sl_is {nw : Bool} {S : Wd} {H : Hp} {m : Mem} {x : V} {dx : D} {lo hi : Option Int} {E : Ecl → Hp → Prop} {Q : VK} (R : Rep C S H m) (ix : IsV C S H x dx) (h : PostG C S H E (isV C) (oSl nw dx lo hi m) Q) : rSlX C.K x lo hi H Q := by
  have seq : (match rdL dx m with
      | some xs => outL nw (cutD xs lo hi) m
      | none => .stk : Lt.R D) = oSl nw dx lo hi m → rSlX C.K x lo hi H Q := fun e => by
    rw [← e] at h
    cases e1 : rdL dx m with
    | none => simp only [e1] at h; exact h.elim
    | some xs =>
      simp only [e1] at h
      obtain ⟨a, vs, rfl, sq, t⟩ := ix.rdL R e1
      exact .inr (.inr ⟨a, vs, rfl, sq, (post_out R (t.cut lo hi) h).2⟩)
  cases ix with
  | str z =>
    dsimp only [oSl] at h
    by_cases l : z.length ≤ SZ
    · rw [if_pos l] at h
      exact .inl ⟨z, rfl, sz_le l, h S H _ .refl R (.str _)⟩
    · rw [if_neg l] at h
      exact h.elim
  | @tup a vs ds o e t =>
    refine .inr (.inl ⟨a, vs, rfl, .inl (.inl e), fun w => ?_, fun _ => post_tup R (t.cut lo hi) h⟩)
    have w' : HT.sIx ds.length 0 lo = 0 ∧ HT.sIx ds.length ds.length hi = ds.length := by rw [← t.length]; exact w
    have e1 : cutD ds lo hi = ds := cutV_all ds lo hi w'
    have h' : PostG C S H E (isV C) (.ok (.tup (cutD ds lo hi)) m) Q := h
    rw [e1] at h'
    exact h' S H _ .refl R (.tup o e t)
  | _ => exact seq rfl
theorem ce_sl (nw : Bool) {e : Expr} {lo hi : Option Expr} {c : EC} {l u : EO} {p2 : Pos} (he : CE X C W e c) (hl : CO X C W lo l) (hh : CO X C W hi u) : CE X C W (.Subscript e (.Slice lo hi none p2) pos) (eSl nw c l u) := fun hK =>
  pe_imp (pe_slice sl_A (he hK) (hl hK) (hh hK)) fun σ H Q ⟨S, m, ev, R, E, h⟩ => ⟨S, m, ev, R, E, (PostG.bnd h).imp fun x H1 ⟨S1, m1, dx, g1, R1, i1, h1⟩ =>
    ⟨S1, m1, ev, R1, E.mono g1, (PostG.bnd h1).imp fun y H2 ⟨S2, m2, dy, g2, R2, i2, h2⟩ =>
    ⟨S2, m2, ev, R2, (E.mono g1).mono g2, (PostG.bnd h2).imp fun z H3 ⟨S3, m3, dz, g3, R3, i3, h3⟩ => by
      cases i2
      cases i3
      rw [← hK]
      exact sl_is R3 ((i1.mono g2).mono g3) h3⟩⟩⟩
theorem ce_rev (nw : Bool) {e : Expr} {c : EC} {k : Nat} {p1 p2 p3 : Pos} (he : CE X C W e c) : CE X C W (.Subscript e (.Slice none none (some (.UnaryOp .USub (.Constant (.int 1) k p1) p2)) p3) pos) (eUn (oRev nw) c) := fun hK =>
  pe_imp (pe_revL (he hK)) fun σ H Q ⟨S, m, ev, R, E, h⟩ => ⟨S, m, ev, R, E, (PostG.bnd h).imp fun x H1 ⟨S1, m1, dx, g1, R1, i1, h1⟩ => by
    unfold oRev at h1
    cases e1 : rdL dx m1 with
    | none => simp only [e1] at h1; exact h1.elim
    | some xs =>
      simp only [e1] at h1
      obtain ⟨a, vs, rfl, sq, t⟩ := i1.rdL R1 e1
      exact ⟨a, vs, rfl, by rw [← hK]; exact sq, (post_out R1 t.rev h1).2⟩⟩
/-! ### if-expressions, truth values, chains -/
theorem ce_if {c a b : Expr} {t : ET} {ca cb : EC} (hc : CT X C W c t) (ha : CE X C W a ca) (hb : CE X C W b cb) : CE X C W (.IfExp c a b pos) (eIf t ca cb) := fun hK =>
  pe_imp (pe_ifExp (hc hK) (ha hK) (hb hK)) fun σ H Q ⟨S, m, ev, R, E, h⟩ => ⟨S, m, ev, R, E, (PostG.bnd h).imp fun b H1 ⟨S1, m1, b', g1, R1, i1, h1⟩ => by
    cases i1
    cases b with
    | true => exact ⟨S1, m1, ev, R1, E.mono g1, h1⟩
    | false => exact ⟨S1, m1, ev, R1, E.mono g1, h1⟩⟩
theorem ce_one {op : BoolOp} {a : Expr} {ca : EC} (ha : CE X C W a ca) : CE X C W (.BoolOp op [a] pos) ca := fun hK => pe_one (ha hK)
theorem ce_and {a b : Expr} {rest : List Expr} {ca cb : EC} (ha : CE X C W a ca) (hb : CE X C W (.BoolOp .And (b :: rest) pos) cb) : CE X C W (.BoolOp .And (a :: b :: rest) pos) (eAnd ca cb) := fun hK =>
  pe_imp (pe_and (ha hK) (hb hK)) fun σ H Q ⟨S, m, ev, R, E, h⟩ => ⟨S, m, ev, R, E, (PostG.bnd h).imp fun x H1 ⟨S1, m1, dx, g1, R1, i1, h1⟩ => by
    cases i1 with
    | bl b =>
      refine ⟨b, rfl, ?_⟩
      cases b with
      | true => exact ⟨S1, m1, ev, R1, E.mono g1, h1⟩
      | false => exact h1 S1 H1 _ .refl R1 (.bl _)
    | _ => exact h1.elim⟩
theorem ce_or {a b : Expr} {rest : List Expr} {ca cb : EC} (ha : CE X C W a ca) (hb : CE X C W (.BoolOp .Or (b :: rest) pos) cb) : CE X C W (.BoolOp .Or (a :: b :: rest) pos) (eOr ca cb) := fun hK =>
  pe_imp (pe_or (ha hK) (hb hK)) fun σ H Q ⟨S, m, ev, R, E, h⟩ => ⟨S, m, ev, R, E, (PostG.bnd h).imp fun x H1 ⟨S1, m1, dx, g1, R1, i1, h1⟩ => by
    cases i1 with
    | bl b =>
      refine ⟨b, rfl, ?_⟩
      cases b with
      | true => exact h1 S1 H1 _ .refl R1 (.bl _)
      | false => exact ⟨S1, m1, ev, R1, E.mono g1, h1⟩
    | _ => exact h1.elim⟩
theorem ce_not {a : Expr} {ca : EC} (ha : CE X C W a ca) : CE X C W (.UnaryOp .Not a pos) (eNot ca) := fun hK =>
  pe_imp (pe_not (ha hK)) fun σ H Q ⟨S, m, ev, R, E, h⟩ => ⟨S, m, ev, R, E, (PostG.bnd h).imp fun x H1 ⟨S1, m1, dx, g1, R1, i1, h1⟩ => by
    cases i1 with
    | bl b => exact ⟨b, rfl, h1 S1 H1 _ .refl R1 (.bl _)⟩
    | _ => exact h1.elim⟩
theorem tt_of {c : EC} {σ : L2.St} {H : Hp} {Q : Bool → Hp → Prop} (h : TTx C W (tOf c) σ H Q) : tTest (TEx C W c) σ H Q := by
  obtain ⟨S, m, ev, R, E, h⟩ := h
  exact ⟨S, m, ev, R, E, (PostG.bnd h).imp fun x H1 ⟨S1, m1, dx, g1, R1, i1, h1⟩ => by
    cases i1 with
    | bl b => exact ⟨b, rfl, h1 S1 H1 b .refl R1 rfl⟩
    | _ => exact h1.elim⟩
theorem chain_imp {r r' : R2} {o p : D → D → M D} {ca cb cc : EC} (h1 : Op2 C r o) (h2 : Op2 C r' p) {σ : L2.St} {H : Hp} {Q : VK} (h : TEx C W (eChain o p ca cb cc) σ H Q) : tChain r r' (TEx C W ca) (TEx C W cb) (TEx C W cc) σ H Q := by
  obtain ⟨S, m, ev, R, E, h⟩ := h
  exact ⟨S, m, ev, R, E, (PostG.bnd h).imp fun x H1 ⟨S1, m1, dx, g1, R1, i1, q1⟩ => ⟨S1, m1, ev, R1, E.mono g1, (PostG.bnd q1).imp fun y H2 ⟨S2, m2, dy, g2, R2, i2, q2⟩ =>
    h1 S2 H2 m2 x y dx dy _ _ R2 (i1.mono g2) i2 ((PostG.bnd q2).imp fun z H3 ⟨S3, m3, dz, g3, R3, i3, q3⟩ => by
      cases i3 with
      | bl b =>
        refine ⟨b, rfl, ?_⟩
        cases b with
        | true => exact ⟨S3, m3, ev, R3, ((E.mono g1).mono g2).mono g3, (PostG.bnd q3).imp fun w H4 ⟨S4, m4, dw, g4, R4, i4, q4⟩ => h2 S4 H4 m4 y w dy dw _ Q R4 ((i2.mono g3).mono g4) i4 q4⟩
        | false => exact q3 S3 H3 _ .refl R3 (.bl _)
      | _ => exact q3.elim)⟩⟩
theorem ce_chain {op op' : CmpOp} {r r' : R2} {o p : D → D → M D} {a b c : Expr} {ca cb cc : EC} (ho : OpR X (compareOp op) r) (ho' : OpR X (compareOp op') r') (h1 : Op2 C r o) (h2 : Op2 C r' p) (ha : CE X C W a ca) (hb : CE X C W b cb) (hc : CE X C W c cc)
    (hm : lastMarks [op, op'] [b, c] = false := by with_unfolding_all rfl) : CE X C W (.Compare a [op, op'] [b, c] pos) (eChain o p ca cb cc) := fun hK => pe_imp (pe_chain ho ho' (ha hK) (hb hK) (hc hK) hm) fun σ H Q h => chain_imp h1 h2 h
theorem ct_chain {op op' : CmpOp} {r r' : R2} {o p : D → D → M D} {a b c : Expr} {ca cb cc : EC} (ho : OpR X (compareOp op) r) (ho' : OpR X (compareOp op') r') (h1 : Op2 C r o) (h2 : Op2 C r' p) (ha : CE X C W a ca) (hb : CE X C W b cb) (hc : CE X C W c cc)
    (hm : lastMarks [op, op'] [b, c] = false := by with_unfolding_all rfl) : CT X C W (.Compare a [op, op'] [b, c] pos) (tOf (eChain o p ca cb cc)) := fun hK => pt_imp (pt_chain ho ho' (ha hK) (hb hK) (hc hK) hm) fun σ H Q h => chain_imp h1 h2 (tt_of h)
/-! ### built-ins by name -/
theorem ce_bi {id : String} {r : List V → Hp → VK → Prop} {b : List D → M D} {x : Str} {e : Expr} {es : List Expr} {a : EA} {p : Pos} (hc : CallR X (.builtin id) r) (hs : C.K = X.K → OpN C r b) (hm : X.mg x = none) (hv : bootBuiltins x = some (.builtin id)) (ha : CA X C W (e :: es) a) (hg : Gl X x := by rfl)
    (hn : x ≠ "__name__" := by decide) (hdb : (x == ("__debug__" : Str)) = false := by decide) (he : starEach (e :: es) X.env = (false, eval e X.env) :: starEach es X.env := by rfl) (hpl : (backTo pos (starEach es X.env)).any (·.1) = false := by rfl) :
    CE X C W (.Call (.Name x p) (e :: es) [] pos) (eB1 b a) := fun hK =>
  pe_imp (pe_callB hc hg hm hv (ha hK) hn hdb he hpl) fun σ H Q ⟨S, m, ev, R, E, h⟩ => ⟨S, m, ev, R, E, (PostG.bnd h).imp fun xs H1 ⟨S1, m1, ds, g1, R1, i1, h1⟩ => hs hK S1 H1 m1 xs ds _ Q R1 i1 h1⟩
theorem ce_ty {T : String} {r : List V → Hp → VK → Prop} {b : List D → M D} {x : Str} {e : Expr} {es : List Expr} {a : EA} {p : Pos} (hc : CallR X (.type T) r) (hs : C.K = X.K → OpN C r b) (hm : X.mg x = none) (hv : bootBuiltins x = some (.type T)) (ha : CA X C W (e :: es) a) (hg : Gl X x := by rfl)
    (hn : x ≠ "__name__" := by decide) (hdb : (x == ("__debug__" : Str)) = false := by decide) (he : starEach (e :: es) X.env = (false, eval e X.env) :: starEach es X.env := by rfl) (hpl : (backTo pos (starEach es X.env)).any (·.1) = false := by rfl) :
    CE X C W (.Call (.Name x p) (e :: es) [] pos) (eB1 b a) := fun hK =>
  pe_imp (pe_callTy hc hg hm hv (ha hK) hn hdb he hpl) fun σ H Q ⟨S, m, ev, R, E, h⟩ => ⟨S, m, ev, R, E, (PostG.bnd h).imp fun xs H1 ⟨S1, m1, ds, g1, R1, i1, h1⟩ => hs hK S1 H1 m1 xs ds _ Q R1 i1 h1⟩
theorem opn_one {r : List V → Hp → VK → Prop} {b : List D → M D} (hb : ∀ ds, (∀ d, ds ≠ [d]) → b ds = stuck)
    (h1 : ∀ S H m x d E Q, Rep C S H m → IsV C S H x d → PostG C S H E (isV C) (b [d] m) Q → r [x] H Q) : OpN C r b := fun S H m xs ds E Q R i h => by
  match ds, i, h with
  | [], i, h => rw [hb [] fun d => fun z => nomatch z] at h; exact h.elim
  | [d], .cons ix .nil, h => exact h1 S H m _ d E Q R ix h
  | d :: e :: r, i, h => rw [hb (d :: e :: r) fun d => fun z => nomatch z] at h; exact h.elim
theorem opm_one {r : V → List V → Hp → VK → Prop} {b : D → List D → M D} (hb : ∀ y ds, (∀ d, ds ≠ [d]) → b y ds = stuck)
    (h1 : ∀ S H m y dy x d E Q, Rep C S H m → IsV C S H y dy → IsV C S H x d → PostG C S H E (isV C) (b dy [d] m) Q → r y [x] H Q) : OpM C r b := fun S H m y xs dy ds E Q R iy i h => by
  match ds, i, h with
  | [], i, h => rw [hb dy [] fun d => fun z => nomatch z] at h; exact h.elim
  | [d], .cons ix .nil, h => exact h1 S H m y dy _ d E Q R iy ix h
  | d :: e :: r, i, h => rw [hb dy (d :: e :: r) fun d => fun z => nomatch z] at h; exact h.elim
def rLenA (K : PySem.W.Frag) : List V → Hp → VK → Prop := fun xs H Q => ∃ x n, xs = [x] ∧ LenV K x H n ∧ Q (.int n) H
theorem opn_len : OpN C (rLenA C.K) bLen := opn_one (fun ds n => by match ds, n with | [], _ => rfl | [d], n => exact absurd rfl (n d) | d :: _ :: _, _ => cases d <;> first | rfl | (rename_i s; obtain ⟨⟨l⟩⟩ := s; rcases l with _ | ⟨c, _ | ⟨c2, l⟩⟩ <;> rfl)) fun S H m x d E Q R i h => by
  have seq : ∀ {xs : List D}, rdL d m = some xs → PostG C S H E (isV C) (.ok (.int xs.length) m) Q → rLenA C.K [x] H Q := fun {xs} e h => by
    obtain ⟨a, vs, rfl, sq, t⟩ := i.rdL R e
    exact ⟨_, _, rfl, .inl ⟨vs, sq, rfl⟩, h S H _ .refl R (by rw [t.length]; exact .int _)⟩
  cases i with
  | str s =>
    dsimp only [bLen] at h
    by_cases l : s.length ≤ SZ
    · rw [if_pos l] at h
      exact ⟨_, _, rfl, ⟨sz_le l, rfl⟩, h S H _ .refl R (.int _)⟩
    · rw [if_neg l] at h
      exact h.elim
  | tup o e t => exact ⟨_, _, rfl, .inr ⟨_, .inl (.inl e), rfl⟩, h S H _ .refl R (by rw [t.length]; exact .int _)⟩
  | lst o e t => exact seq rfl h
  | klst o t => exact seq rfl h
  | @ref a n al =>
    dsimp only [bLen] at h
    cases q : rdL (.ref n) m with
    | none => simp only [q] at h; exact h.elim
    | some xs => simp only [q] at h; exact seq q h
  | _ => exact h.elim
theorem opn_ord : OpN C (fun xs H Q => ∃ x, xs = [.str x] ∧ x.length = 1 ∧ Q (.int (x.cps.getD 0 0 : Nat)) H) bOrd := opn_one (fun ds n => by match ds, n with | [], _ => rfl | [d], n => exact absurd rfl (n d) | .str ⟨⟨[]⟩⟩ :: _ :: _, _ => rfl | .str ⟨⟨[_]⟩⟩ :: _ :: _, _ => rfl | .str ⟨⟨_ :: _ :: _⟩⟩ :: _ :: _, _ => rfl | .non :: _ :: _, _ => rfl | .bl _ :: _ :: _, _ => rfl | .int _ :: _ :: _, _ => rfl | .lst _ :: _ :: _, _ => rfl | .klst _ :: _ :: _, _ => rfl | .tup _ :: _ :: _, _ => rfl | .dic _ :: _ :: _, _ => rfl | .ref _ :: _ :: _, _ => rfl | .exc _ :: _ :: _, _ => rfl) fun S H m x d E Q R i h => by
  cases i with
  | str s =>
    obtain ⟨⟨l⟩⟩ := s
    match l, h with
    | [], h => exact h.elim
    | [c], h => exact ⟨_, rfl, rfl, h S H _ .refl R (.int _)⟩
    | _ :: _ :: _, h => exact h.elim
  | _ => exact h.elim
def rListA (K : PySem.W.Frag) : List V → Hp → VK → Prop := fun xs H Q => ∃ p ys, xs = [.ref p] ∧ (SqL K H p ys ∨ SqT K H p ys) ∧ ∀ l, H l = none → Q (.ref l) (upd H l (.lst ys))
theorem opn_list (nw : Bool) : OpN C (rListA C.K) (bList nw) := opn_one (fun ds n => by match ds, n with | [], _ => rfl | [d], n => exact absurd rfl (n d) | d :: _ :: _, _ => cases d <;> first | rfl | (rename_i s; obtain ⟨⟨l⟩⟩ := s; rcases l with _ | ⟨c, _ | ⟨c2, l⟩⟩ <;> rfl)) fun S H m x d E Q R i h => by
  have seq : ∀ {xs : List D}, rdL d m = some xs → PostG C S H E (isV C) (outL nw xs m) Q → rListA C.K [x] H Q := fun {xs} e h => by
    obtain ⟨a, vs, rfl, sq, t⟩ := i.rdL R e
    exact ⟨_, _, rfl, .inl sq, (post_out R t h).2⟩
  cases i with
  | tup o e t => exact ⟨_, _, rfl, .inr (.inl (.inl e)), (post_out R t h).2⟩
  | lst o e t => exact seq rfl h
  | klst o t => exact seq rfl h
  | @ref a n al =>
    dsimp only [bList] at h
    cases q : rdL (.ref n) m with
    | none => simp only [q] at h; exact h.elim
    | some xs => simp only [q] at h; exact seq q h
  | _ => exact h.elim
theorem allB_is {S : Wd} {H : Hp} : ∀ {vs : List V} {ds : List D} {bs : List Bool}, IsVs C S H vs ds → allB ds = some bs → vs = bs.map V.bl
  | _, _, _, .nil, h => by cases h; rfl
  | _, d :: ds, bs, .cons i t, h => by
    cases i with
    | bl b =>
      unfold allB at h
      obtain ⟨cs, h1, rfl⟩ := Option.map_eq_some_iff.mp h
      rw [allB_is t h1, List.map_cons]
    | _ => cases h
theorem allS_is {S : Wd} {H : Hp} : ∀ {vs : List V} {ds : List D} {bs : List Str}, IsVs C S H vs ds → allS ds = some bs → vs = bs.map V.str
  | _, _, _, .nil, h => by cases h; rfl
  | _, d :: ds, bs, .cons i t, h => by
    cases i with
    | str b =>
      unfold allS at h
      obtain ⟨cs, h1, rfl⟩ := Option.map_eq_some_iff.mp h
      rw [allS_is t h1, List.map_cons]
    | _ => cases h
theorem allI_is {S : Wd} {H : Hp} : ∀ {vs : List V} {ds : List D} {bs : List Int}, IsVs C S H vs ds → allI ds = some bs → vs = bs.map V.int
  | _, _, _, .nil, h => by cases h; rfl
  | _, d :: ds, bs, .cons i t, h => by
    cases i with
    | int b =>
      unfold allI at h
      obtain ⟨cs, h1, rfl⟩ := Option.map_eq_some_iff.mp h
      rw [allI_is t h1, List.map_cons]
    | _ => cases h
theorem opn_all : OpN C (rAll C.K) bAll := opn_one (fun ds n => by match ds, n with | [], _ => rfl | [d], n => exact absurd rfl (n d) | d :: _ :: _, _ => cases d <;> first | rfl | (rename_i s; obtain ⟨⟨l⟩⟩ := s; rcases l with _ | ⟨c, _ | ⟨c2, l⟩⟩ <;> rfl)) fun S H m x d E Q R ix h => by
  dsimp only [bAll] at h
  cases e1 : rdL d m with
  | none => simp only [e1] at h; exact h.elim
  | some ys =>
    cases e2 : allB ys with
    | none => simp only [e1, e2] at h; exact h.elim
    | some bs =>
      simp only [e1, e2] at h
      obtain ⟨a, vs, rfl, sq, t⟩ := ix.rdL R e1
      have ev := allB_is t e2
      subst ev
      exact ⟨a, bs, rfl, sq, h S H _ .refl R (.bl _)⟩
theorem opn_int : OpN C (fun xs H Q => (∃ i, xs = [.int i] ∧ Q (.int i) H) ∨ ∃ k, xs = [.bl k] ∧ Q (.int (if k then 1 else 0)) H) bInt := opn_one (fun ds n => by match ds, n with | [], _ => rfl | [d], n => exact absurd rfl (n d) | d :: _ :: _, _ => cases d <;> first | rfl | (rename_i s; obtain ⟨⟨l⟩⟩ := s; rcases l with _ | ⟨c, _ | ⟨c2, l⟩⟩ <;> rfl)) fun S H m x d E Q R ix h => by
  cases ix with
  | int i => exact .inl ⟨_, rfl, h S H _ .refl R (.int _)⟩
  | bl i => exact .inr ⟨_, rfl, h S H _ .refl R (.int _)⟩
  | _ => exact h.elim
/-! ### methods of lists and texts -/
theorem ce_ml {name : Str} {id : String} {r : V → List V → Hp → VK → Prop} {f : D → List D → M D} {o e : Expr} {es : List Expr} {co : EC} {a : EA} {apos cpos : Pos} (slot : Slot "list" name id) (hty : typeOf (.builtin id) = pure (.type "method_descriptor")) (hm : MtR X id r) (hs : C.K = X.K → OpM C r f) (ho : CE X C W o co) (ha : CA X C W (e :: es) a)
    (hbase : attributeBase o name X.env (eval o X.env) = eval o X.env := by rfl)
    (hfew : ((backTo cpos (starEach (e :: es) X.env)).all (fun x => !x.1) && (backToKw cpos (keywordEach [] X.env)).all (fun x => x.1.isSome)
      && decide ((e :: es).length + ([] : List Keyword).length + (if ([] : List Keyword).isEmpty then 0 else 1) < 30)) = true := by rfl)
    (hline : (apos.endLine == cpos.line) = true := by rfl) (hst : starEach (e :: es) X.env = (false, eval e X.env) :: starEach es X.env := by rfl) (hplain : (backTo cpos (starEach es X.env)).any (·.1) = false := by rfl) :
    CE X C W (.Call (.Attribute o name apos) (e :: es) [] cpos) (eML f co a) := fun hK =>
  pe_imp (pe_bm PySem.F.plainAttrs_list slot hty hm (ho hK) (ha hK) hbase hfew hline hst hplain) fun σ H Q ⟨S, m, ev, R, E, h⟩ => ⟨S, m, ev, R, E, (PostG.bnd h).imp fun x H1 ⟨S1, m1, dx, g1, R1, i1, h1⟩ => by
    cases e1 : rdL dx m1 with
    | none => simp only [e1] at h1; exact h1.elim
    | some ys =>
      simp only [e1] at h1
      obtain ⟨b, vs, rfl, sq, t⟩ := i1.rdL R1 e1
      refine ⟨.inl ⟨rfl, vs, by rw [← hK]; exact sq⟩, S1, m1, ev, R1, E.mono g1, (PostG.bnd h1).imp fun xs H2 ⟨S2, m2, ds, g2, R2, i2, h2⟩ => hs hK S2 H2 m2 _ xs dx ds _ Q R2 (i1.mono g2) i2 h2⟩⟩
theorem ce_ms {name : Str} {id : String} {r : V → List V → Hp → VK → Prop} {f : D → List D → M D} {o e : Expr} {co ce : EC} {apos cpos : Pos} (slot : Slot "str" name id) (hty : typeOf (.builtin id) = pure (.type "method_descriptor")) (hm : MtR X id r) (hs : C.K = X.K → OpM C r f) (ho : CE X C W o co) (he : CE X C W e ce)
    (hst : starEach [e] X.env = [(false, eval e X.env)] := by rfl) (hbase : attributeBase o name X.env (eval o X.env) = eval o X.env := by rfl) (hline : (apos.endLine == cpos.line) = true := by rfl) :
    CE X C W (.Call (.Attribute o name apos) [e] [] cpos) (eMS f co (aCons ce aNil)) := fun hK =>
  pe_imp (pe_m1 slot hty hm (ho hK) (he hK) hst hbase hline) fun σ H Q ⟨S, m, ev, R, E, h⟩ => ⟨S, m, ev, R, E, (PostG.bnd h).imp fun x H1 ⟨S1, m1, dx, g1, R1, i1, h1⟩ => by
    cases i1 with
    | str s =>
      have h1' : PostG C S1 H1 (WXof C W σ) (isV C) (bnd (ce ev) (fun y => f (.str s) [y]) m1) Q := by
        have e0 : bnd (aCons ce aNil ev) (fun xs => f (.str s) xs) m1 = bnd (ce ev) (fun y => f (.str s) [y]) m1 := by
          unfold aCons aNil Lt.bnd pur
          cases ce ev m1 <;> rfl
        rw [← e0]
        exact h1
      exact ⟨⟨s, rfl⟩, S1, m1, ev, R1, E.mono g1, (PostG.bnd h1').imp fun y H2 ⟨S2, m2, dy, g2, R2, i2, h2⟩ => hs hK S2 H2 m2 _ [y] _ [dy] _ Q R2 (.str s) (.one i2) h2⟩
    | _ => exact h1.elim⟩
theorem opm_append : OpM C rAppend mAppend := opm_one (fun y ds n => by match ds, n with | [], _ => rfl | [d], n => exact absurd rfl (n d) | d :: _ :: _, _ => cases d <;> first | rfl | (rename_i s; obtain ⟨⟨l⟩⟩ := s; rcases l with _ | ⟨c, _ | ⟨c2, l⟩⟩ <;> rfl)) fun S H m x dx y dy E Q R i iy h => by
  cases i with
  | @ref a n al =>
    dsimp only [mAppend] at h
    cases q : m[n]? with
    | none => simp only [q] at h; exact h.elim
    | some c =>
      simp only [q] at h
      cases c with
      | lst ys =>
        dsimp only at h
        by_cases l : ys.length < SZ
        · rw [if_pos l] at h
          obtain ⟨vs, e1, t⟩ := R.ok n a _ al q
          refine ⟨a, vs, y, rfl, rfl, e1, by rw [t.length]; exact sz_lt l, ?_⟩
          obtain ⟨R1, g⟩ := R.write (u := .lst (vs ++ [y])) (c' := .lst (ys ++ [dy])) al q trivial fun g => ⟨vs ++ [y], upd_same, (t.mono g).app (.one (iy.mono g))⟩
          exact h _ _ _ g R1 .non
        · rw [if_neg l] at h
          exact h.elim
      | _ => exact h.elim
  | _ => exact h.elim
theorem opm_extend : OpM C rExtend mExtend := opm_one (fun y ds n => by match ds, n with | [], _ => rfl | [d], n => exact absurd rfl (n d) | d :: _ :: _, _ => cases d <;> first | rfl | (rename_i s; obtain ⟨⟨l⟩⟩ := s; rcases l with _ | ⟨c, _ | ⟨c2, l⟩⟩ <;> rfl)) fun S H m x dx y dy E Q R i iy h => by
  cases i with
  | @ref a n al =>
    dsimp only [mExtend] at h
    cases q : m[n]? with
    | none => simp only [q] at h; exact h.elim
    | some c =>
      simp only [q] at h
      cases c with
      | lst ys =>
        dsimp only at h
        cases q2 : rdW dy m with
        | none => simp only [q2] at h; exact h.elim
        | some zs =>
          simp only [q2] at h
          by_cases l : ys.length + zs.length ≤ SZ
          · rw [if_pos l] at h
            obtain ⟨vs, e1, t⟩ := R.ok n a _ al q
            obtain ⟨b, ws, rfl, e2, t2⟩ := iy.rdW R q2
            refine ⟨a, b, vs, ws, rfl, rfl, e1, e2, by rw [t.length, t2.length]; exact sz_le l, ?_⟩
            obtain ⟨R1, g⟩ := R.write (u := .lst (vs ++ ws)) (c' := .lst (ys ++ zs)) al q trivial fun g => ⟨vs ++ ws, upd_same, (t.mono g).app (t2.mono g)⟩
            exact h _ _ _ g R1 .non
          · rw [if_neg l] at h
            exact h.elim
      | _ => exact h.elim
  | _ => exact h.elim
theorem idxF_is {S : Wd} {H : Hp} {y : V} {dy : D} (iy : IsV C S H y dy) (f1 : flatD dy = true) : ∀ {vs : List V} {ds : List D} {j : Nat}, IsVs C S H vs ds → ds.all flatD = true → idxF dy ds = some j → (∃ z, vs[j]? = some z ∧ eqV z y = true) ∧ ∀ k z', k < j → vs[k]? = some z' → eqV z' y = false
  | _, _, _, .nil, _, h => by cases h
  | v :: vs, d :: ds, j, .cons i t, f, h => by
    rw [List.all_cons, Bool.and_eq_true] at f
    have e0 := eqF_is i iy f.1 f1
    unfold idxF at h
    by_cases e : eqF d dy = true
    · rw [if_pos e] at h
      cases h
      exact ⟨⟨v, rfl, by rw [e0]; exact e⟩, fun k z' hk => absurd hk (Nat.not_lt_zero _)⟩
    · rw [if_neg e] at h
      obtain ⟨j', h1, rfl⟩ := Option.map_eq_some_iff.mp h
      obtain ⟨⟨z, q1, q2⟩, q3⟩ := idxF_is iy f1 t f.2 h1
      refine ⟨⟨z, q1, q2⟩, fun k z' hk hz => ?_⟩
      cases k with
      | zero =>
        cases (Option.some.inj hz : v = z')
        rw [e0]
        exact Bool.eq_false_iff.mpr e
      | succ k => exact q3 k z' (Nat.lt_of_succ_lt_succ hk) hz
theorem opm_index : OpM C (rIndex C.K) mIndex := opm_one (fun y ds n => by match ds, n with | [], _ => rfl | [d], n => exact absurd rfl (n d) | d :: _ :: _, _ => cases d <;> first | rfl | (rename_i s; obtain ⟨⟨l⟩⟩ := s; rcases l with _ | ⟨c, _ | ⟨c2, l⟩⟩ <;> rfl)) fun S H m x d y dy E Q R i iy h => by
  dsimp only [mIndex] at h
  cases e1 : rdL d m with
  | none => simp only [e1] at h; exact h.elim
  | some ys =>
    simp only [e1] at h
    by_cases z : flatD dy = true ∧ ys.all flatD = true
    · rw [if_pos z] at h
      cases e2 : idxF dy ys with
      | none => simp only [e2] at h; exact h.elim
      | some j =>
        simp only [e2] at h
        obtain ⟨a, vs, rfl, sq, t⟩ := i.rdL R e1
        obtain ⟨⟨w, q1, q2⟩, q3⟩ := idxF_is iy z.1 t z.2 e2
        exact ⟨a, vs, y, j, w, rfl, rfl, sq, flat_is iy z.1, flats_is t z.2, q1, q2, fun k z' => q3 k z', h S H _ .refl R (.int _)⟩
    · rw [if_neg z] at h
      exact h.elim
theorem opm_join : OpM C (fun x xs H Q => ∃ a p, ∃ ys : List Str, x = .str a ∧ xs = [.ref p] ∧ (SqL C.K H p (ys.map V.str) ∨ SqT C.K H p (ys.map V.str)) ∧ (ys.map (·.length)).sum + ys.length * a.length ≤ 16777216 ∧ Q (.str (Txt.join a ys)) H) mJoin :=
  opm_one (fun y ds n => by match ds, n with | [], _ => rfl | [d], n => exact absurd rfl (n d) | d :: _ :: _, _ => cases d <;> first | rfl | (rename_i s; obtain ⟨⟨l⟩⟩ := s; rcases l with _ | ⟨c, _ | ⟨c2, l⟩⟩ <;> rfl)) fun S H m x d y dy E Q R i iy h => by
  dsimp only [mJoin] at h
  cases i with
  | str s =>
    cases e1 : rdL dy m with
    | none => simp only [e1] at h; exact h.elim
    | some ys =>
      simp only [e1] at h
      cases e2 : allS ys with
      | none => simp only [e2] at h; exact h.elim
      | some ss =>
        simp only [e2] at h
        by_cases l : (ss.map (·.length)).sum + ss.length * s.length ≤ SZ
        · rw [if_pos l] at h
          obtain ⟨a, vs, rfl, sq, t⟩ := iy.rdL R e1
          have ev := allS_is t e2
          subst ev
          exact ⟨s, a, ss, rfl, rfl, .inl sq, l, h S H _ .refl R (.str _)⟩
        · rw [if_neg l] at h
          exact h.elim
  | _ => exact h.elim
end
end Lt

set_option Elab.async false
set_option linter.all false
set_option maxRecDepth 100000
/-! C6: what is walked, comprehensions, statements, defs and their calls. -/
namespace Lt
open PySem PySem.Spec PyProof.Rows L2

/-! ### what is walked -/
def isW (C : Cn) : Rel It Walk := fun S H J w => ∀ S' H' m', Grow S H S' H' → Rep C S' H' m' → w.hold m' →
  (∀ (i : Nat) (d : D), w.items[i]? = some d → J.go i H' ∧ ∀ x H2, J.yld i H' x H2 → ∃ S2, Grow S' H' S2 H2 ∧ Rep C S2 H2 m' ∧ IsV C S2 H2 x d) ∧ J.stop w.items.length H'
def TIx (C : Cn) (W : WX) (c : EI) : TI := fun σ H Q => ∃ S m ev, Rep C S H m ∧ EnvOk C S H σ ev ∧ PostG C S H (WXof C W σ) (isW C) (c ev m) Q
def CI (X : Cx) (C : Cn) (W : WX) (tg e : Expr) (c : EI) : Prop := C.K = X.K → PI X tg e (TIx C W c)
theorem pi_imp {X : Cx} {tg e : Expr} {t t' : TI} (h : PI X tg e t) (k : ∀ σ H Q, t' σ H Q → t σ H Q) : PI X tg e t' := ⟨fun p s σ H Q I q => h.run p s σ H Q I (k σ H Q q)⟩
section
variable {X : Cx} {C : Cn} {W : WX} {pos : Pos} {tg : Expr}
theorem itl_ok {S : Wd} {H : Hp} {m : Mem} {a : Addr} {vs : List V} {ds : List D} (R : Rep C S H m) (sq : SqL C.K H a vs) (t : IsVs C S H vs ds) (fn : ∀ ys, SqL C.K H a ys → ys = vs) :
    (∀ (i : Nat) (d : D), ds[i]? = some d → (Itl C.K a).go i H ∧ ∀ x H2, (Itl C.K a).yld i H x H2 → ∃ S2, Grow S H S2 H2 ∧ Rep C S2 H2 m ∧ IsV C S2 H2 x d) ∧ (Itl C.K a).stop ds.length H := by
  refine ⟨fun i d e => ?_, ⟨vs, sq, by rw [t.length]; exact Nat.le_refl _⟩⟩
  obtain ⟨v, e1, iv⟩ := t.at e
  refine ⟨⟨vs, v, sq, e1⟩, fun x H2 y => ?_⟩
  obtain ⟨rfl, y⟩ := y
  have z := y vs sq
  rw [e1] at z
  cases z
  exact ⟨S, .refl, R, iv⟩
theorem ci_lst {e : Expr} {c : EC} (h : CE X C W e c) : CI X C W tg e (iLst c) := fun hK =>
  pi_imp (pi_list (h hK)) fun σ H Q ⟨S, m, ev, R, E, h⟩ => ⟨S, m, ev, R, E, (PostG.bnd h).imp fun x H1 ⟨S1, m1, dx, g1, R1, i1, h1⟩ => by
    have go : ∀ {S2 : Wd} {H2 : Hp} {m2 : Mem} {a : Addr} {vs : List V} {ds : List D}, Rep C S2 H2 m2 → SqL C.K H2 a vs → IsVs C S2 H2 vs ds →
        (∀ (i : Nat) (d : D), ds[i]? = some d → (Itl C.K a).go i H2 ∧ ∀ x H3, (Itl C.K a).yld i H2 x H3 → ∃ S3, Grow S2 H2 S3 H3 ∧ Rep C S3 H3 m2 ∧ IsV C S3 H3 x d) ∧ (Itl C.K a).stop ds.length H2 := fun {S2 H2 m2 a vs ds} R2 sq t => by
      refine ⟨fun i d e => ?_, ⟨vs, sq, by rw [t.length]; exact Nat.le_refl _⟩⟩
      obtain ⟨v, e1, iv⟩ := t.at e
      refine ⟨⟨vs, v, sq, e1⟩, fun x H3 y => ?_⟩
      obtain ⟨rfl, y⟩ := y
      have z := y vs sq
      rw [e1] at z
      cases z
      exact ⟨S2, .refl, R2, iv⟩
    rw [← hK]
    have tree : ∀ {xs : List D}, rdL dx m1 = some xs → (∀ n, dx ≠ .ref n) → PostG C S1 H1 (WXof C W σ) (isW C) (.ok ⟨xs, fun _ => True⟩ m1) Q → ∃ a, x = .ref a ∧ (∃ xs, SqL C.K H1 a xs) ∧ Q (Itl C.K a) H1 := fun {xs} e nr h => by
      obtain ⟨a, vs, rfl, sq, t⟩ := i1.rdL R1 e
      refine ⟨a, rfl, ⟨vs, sq⟩, h S1 H1 _ .refl R1 fun S' H' m' g R' _ => ?_⟩
      obtain ⟨b, ws, eb, sq', t'⟩ := (i1.mono g).rdL (m := m') (xs := xs) R' (by cases dx <;> first | exact e | exact absurd rfl (nr _))
      cases eb
      exact go R' sq' t'
    cases i1 with
    | @ref a n al =>
      dsimp only [iLst] at h1
      cases q : m1[n]? with
      | none => simp only [q] at h1; exact h1.elim
      | some cl =>
        simp only [q] at h1
        cases cl with
        | lst xs =>
          obtain ⟨vs, e1, t⟩ := R1.ok n a _ al q
          refine ⟨a, rfl, ⟨vs, .inl (.inl e1)⟩, h1 S1 H1 _ .refl R1 fun S' H' m' g R' hh => ?_⟩
          obtain ⟨ws, e2, t2⟩ := R'.ok n a _ (g.al _ _ al) hh
          exact go R' (.inl (.inl e2)) t2
        | _ => exact h1.elim
    | lst o e t => exact tree rfl (fun n z => nomatch z) h1
    | klst o t => exact tree rfl (fun n z => nomatch z) h1
    | _ => exact h1.elim⟩
theorem ci_tup {e : Expr} {c : EC} (h : CE X C W e c) : CI X C W tg e (iTup c) := fun hK =>
  pi_imp (pi_tup (h hK)) fun σ H Q ⟨S, m, ev, R, E, h⟩ => ⟨S, m, ev, R, E, (PostG.bnd h).imp fun x H1 ⟨S1, m1, dx, g1, R1, i1, h1⟩ => by
    cases i1 with
    | @tup a vs ds o e t =>
      refine ⟨a, rfl, ⟨vs, .inl (.inl e)⟩, h1 S1 H1 _ .refl R1 fun S' H' m' g R' _ => ?_⟩
      have sq : SqT X.K H' a vs := .inl (.inl (g.hd _ _ _ o rfl trivial e))
      have t' := t.mono g
      refine ⟨fun i d q => ?_, ⟨vs, sq, by rw [t'.length]; exact Nat.le_refl _⟩⟩
      obtain ⟨v, e1, iv⟩ := t'.at q
      refine ⟨⟨vs, v, sq, e1⟩, fun x H3 y => ?_⟩
      obtain ⟨rfl, y⟩ := y
      have z := y vs sq
      rw [e1] at z
      cases z
      exact ⟨S', .refl, R', iv⟩
    | _ => exact h1.elim⟩
theorem ci_str {e : Expr} {c : EC} (h : CE X C W e c) : CI X C W tg e (iStr c) := fun hK =>
  pi_imp (pi_str (h hK)) fun σ H Q ⟨S, m, ev, R, E, h⟩ => ⟨S, m, ev, R, E, (PostG.bnd h).imp fun x H1 ⟨S1, m1, dx, g1, R1, i1, h1⟩ => by
    cases i1 with
    | str s =>
      refine ⟨s, rfl, h1 S1 H1 _ .refl R1 fun S' H' m' g R' _ => ⟨fun i d q => ?_, ?_⟩⟩
      · rw [List.getElem?_map] at q
        obtain ⟨ch, q1, rfl⟩ := Option.map_eq_some_iff.mp q
        have q2 : s.cps[i]? = some ch := by simpa using q1
        refine ⟨(Array.getElem?_eq_some_iff.mp q2).1, fun x H2 y => ?_⟩
        obtain ⟨rfl, c', y1, rfl⟩ := y
        rw [q2] at y1
        cases y1
        exact ⟨S', .refl, R', .str _⟩
      · show s.cps.size ≤ _
        rw [List.length_map, Array.length_toList]
        exact Nat.le_refl _
    | _ => exact h1.elim⟩
theorem rng_ok {S : Wd} {H : Hp} {m : Mem} (lo hi : Int) (R : Rep C S H m) : (∀ (i : Nat) (d : D), (rngI lo hi)[i]? = some d → (Itr lo (hi - lo).toNat).go i H ∧ ∀ x H2, (Itr lo (hi - lo).toNat).yld i H x H2 → ∃ S2, Grow S H S2 H2 ∧ Rep C S2 H2 m ∧ IsV C S2 H2 x d) ∧ (Itr lo (hi - lo).toNat).stop (rngI lo hi).length H := by
  refine ⟨fun i d q => ?_, ?_⟩
  · unfold rngI at q
    rw [List.getElem?_map] at q
    obtain ⟨k, q1, rfl⟩ := Option.map_eq_some_iff.mp q
    obtain ⟨l, q2⟩ := List.getElem?_eq_some_iff.mp q1
    rw [List.length_range] at l
    rw [List.getElem_range] at q2
    subst q2
    refine ⟨l, fun x H2 y => ?_⟩
    obtain ⟨rfl, rfl⟩ := y
    exact ⟨S, .refl, R, .int _⟩
  · show _ ≤ _
    unfold rngI
    rw [List.length_map, List.length_range]
    exact Nat.le_refl _
theorem ci_rng1 {a : Expr} {ca : EC} {p : Pos} (hm : X.mg "range" = none) (ha : CE X C W a ca) (hg : Gl X "range" := by rfl) (hs : starEach [a] X.env = (false, eval a X.env) :: starEach [] X.env := by rfl) (hs' : starEach [a] X.env = [(false, eval a X.env)] := by rfl) : CI X C W tg (.Call (.Name "range" p) [a] [] pos) (iRng1 ca) := fun hK =>
  pi_imp (pi_range1 hg hm (ca_cons ha ca_nil hs hK) hs') fun σ H Q ⟨S, m, ev, R, E, h⟩ => ⟨S, m, ev, R, E, by
    have h' : PostG C S H (WXof C W σ) (isVs C) (aCons ca aNil ev m) (fun vs H1 => ∃ j : Int, vs = [.int j] ∧ -(2 ^ 62) ≤ j ∧ j < 2 ^ 62 ∧ Q (Itr 0 j.toNat) H1) := by
      unfold aCons aNil Lt.bnd pur
      have q := PostG.bnd (rel := isV C) h
      cases e : ca ev m with
      | stk => rw [e] at q; exact q.elim
      | exc c m' => rw [e] at q; exact q
      | ok d m' =>
        rw [e] at q
        intro S' H' vs g R' i
        cases i with
        | cons i t =>
          cases t
          obtain ⟨S1, m1, d1, g1, R1, i1, h1⟩ := q S' H' _ g R' i
          cases i1 with
          | int j =>
            dsimp only [iRng1] at h1
            by_cases z : smallI j
            · rw [if_pos z] at h1
              refine ⟨j, rfl, z.1, z.2, h1 S1 H' _ .refl R1 fun S2 H2 m2 g2 R2 _ => ?_⟩
              have w := rng_ok (C := C) (S := S2) (H := H2) (m := m2) 0 j R2
              have e0 : j - 0 = j := by omega
              rw [e0] at w
              exact w
            · rw [if_neg z] at h1
              exact h1.elim
          | _ => exact h1.elim
    exact h'⟩
theorem ci_rng2 {a b : Expr} {ca cb : EC} {p : Pos} (hm : X.mg "range" = none) (ha : CE X C W a ca) (hb : CE X C W b cb) (hg : Gl X "range" := by rfl) (hs : starEach [a, b] X.env = (false, eval a X.env) :: starEach [b] X.env := by rfl) (hs2 : starEach [b] X.env = (false, eval b X.env) :: starEach [] X.env := by rfl)
    (hs' : starEach [a, b] X.env = [(false, eval a X.env), (false, eval b X.env)] := by rfl) (hs2' : starEach [b] X.env = [(false, eval b X.env)] := by rfl) : CI X C W tg (.Call (.Name "range" p) [a, b] [] pos) (iRng2 ca cb) := fun hK =>
  pi_imp (pi_range2 hg hm (ca_cons ha (ca_cons hb ca_nil hs2) hs hK) hs' hs2') fun σ H Q ⟨S, m, ev, R, E, h⟩ => ⟨S, m, ev, R, E, by
    have h' : PostG C S H (WXof C W σ) (isVs C) (bnd (ca ev) (fun x => bnd (bnd (cb ev) fun y => bnd (aNil ev) fun xs => pur (y :: xs)) fun xs => pur (x :: xs)) m) (fun vs H1 => ∃ i j : Int, vs = [.int i, .int j] ∧ (-(2 ^ 62) ≤ i ∧ i < 2 ^ 62 ∧ -(2 ^ 62) ≤ j ∧ j < 2 ^ 62) ∧ Q (Itr i (j - i).toNat) H1) := by
      have q := PostG.bnd (rel := isV C) h
      unfold Lt.bnd
      cases e : ca ev m with
      | stk => rw [e] at q; exact q.elim
      | exc c m' => rw [e] at q; exact q
      | ok d m' =>
        rw [e] at q
        dsimp only
        cases e2 : cb ev m' with
        | stk =>
          exfalso
          unfold iRng2 Lt.bnd at h
          simp only [e, e2] at h
          exact h
        | exc c m2 =>
          have h2 := h
          unfold iRng2 Lt.bnd at h2
          simp only [e, e2] at h2
          exact h2
        | ok d2 m2 =>
          have h2 := h
          unfold iRng2 Lt.bnd at h2
          simp only [e, e2] at h2
          intro S' H' vs g R' i
          cases i with
          | cons i t =>
            cases t with
            | cons i2 t2 =>
              cases t2
              cases i with
              | int a =>
                cases i2 with
                | int b =>
                  dsimp only at h2
                  by_cases z : smallI a ∧ smallI b
                  · rw [if_pos z] at h2
                    exact ⟨a, b, rfl, ⟨z.1.1, z.1.2, z.2.1, z.2.2⟩, h2 S' H' _ g R' fun S2 H2 m2 g2 R2 _ => rng_ok a b R2⟩
                  · rw [if_neg z] at h2
                    exact h2.elim
                | _ => exact h2.elim
              | _ => first | exact h2.elim | (cases i2 <;> exact h2.elim)
    exact h'⟩
end
/-! ### targets -/
def TGx (C : Cn) (g : TGt) : TG := fun v σ H Q => ∃ S m ev d ev', Rep C S H m ∧ EnvOk C S H σ ev ∧ IsV C S H v d ∧ g d ev m = some ev' ∧ ∀ σ', EnvOk C S H σ' ev' → Q σ' H
def CG (X : Cx) (C : Cn) (tg : Expr) (g : TGt) : Prop := C.K = X.K → PG X tg (TGx C g)
def gNs : List Nat → TGs
  | [] => gNil
  | i :: is => gCons (L2.gName i) (gNs is)
section
variable {X : Cx} {C : Cn} {pos : Pos}
theorem pg_imp {e : Expr} {t t' : TG} (h : PG X e t) (k : ∀ v σ H Q, t' v σ H Q → t v σ H Q) : PG X e t' := ⟨fun p s σ H v u Q I r q => h.run p s σ H v u Q I r (k v σ H Q q)⟩
theorem cg_name (i : Nat) {x : Str} (hN : X.N.Nodup) (hi : X.N[i]? = some x := by rfl) (hx : Loc X.env.scope x := by first | exact Or.inl rfl | exact Or.inr rfl) (hf : X.fn x = true ∨ X.env.scope.names.lookup x = some .local := by first | exact .inl rfl | exact .inr rfl) : CG X C (.Name x pos) (Lt.gName i) := fun hK =>
  pg_imp (pg_name hN hi hx hf) fun v σ H Q ⟨S, m, ev, d, ev', R, E, iv, e, k⟩ => by
    cases e
    exact k _ (E.set i iv)
theorem cgs_nil : PGs X [] (gNs []) := pgs_nil
theorem cgs_cons (i : Nat) {x : Str} {is : List Nat} {es : List Expr} (hN : X.N.Nodup) (r : PGs X es (gNs is)) (hi : X.N[i]? = some x := by rfl) (hx : Loc X.env.scope x := by first | exact Or.inl rfl | exact Or.inr rfl) (hf : X.fn x = true ∨ X.env.scope.names.lookup x = some .local := by first | exact .inl rfl | exact .inr rfl)
    (hs : (assignEach (.Name x pos :: es) X.env).map (·.2) = assign (.Name x pos) X.env :: (assignEach es X.env).map (·.2) := by rfl) : PGs X (.Name x pos :: es) (gNs (i :: is)) := pgs_cons (pg_name hN hi hx hf) r hs
theorem gNs_ok {S : Wd} {H : Hp} : ∀ {is : List Nat} {vs : List V} {ds : List D} {σ : L2.St} {ev ev' : Ev} {Q : L2.St → Hp → Prop}, IsVs C S H vs ds → EnvOk C S H σ ev → gTups is ds ev = some ev' → (∀ σ', EnvOk C S H σ' ev' → Q σ' H) → gNs is vs σ H Q
  | [], _, _, _, _, _, _, .nil, E, e, k => by
    cases e
    exact ⟨rfl, k _ E⟩
  | i :: is, _, _, _, _, _, _, .cons a t, E, e, k => ⟨_, _, rfl, gNs_ok t (E.set i a) e k⟩
  | [], _, _, _, _, _, _, .cons _ _, _, e, _ => by cases e
  | _ :: _, _, _, _, _, _, _, .nil, _, e, _ => by cases e
theorem gTups_len : ∀ {is : List Nat} {ds : List D} {ev ev' : Ev}, gTups is ds ev = some ev' → ds.length = is.length
  | [], [], _, _, _ => rfl
  | _ :: is, _ :: ds, _, _, h => by rw [List.length_cons, List.length_cons, gTups_len (is := is) (ds := ds) h]
  | [], _ :: _, _, _, h => by cases h
  | _ :: _, [], _, _, h => by cases h
theorem cg_tup {es : List Expr} {k : Nat} {is : List Nat} (hc : X.calm = true) (h : PGs X es (gNs is)) (hn : (assignEach es X.env).length = is.length := by rfl) (hst : (assignEach es X.env).findIdx? (·.1) = none := by rfl) : CG X C (.Tuple es k pos) (Lt.gTup is) := fun hK =>
  pg_imp (pg_tup hc h hn hst) fun v σ H Q ⟨S, m, ev, d, ev', R, E, iv, e, q⟩ => by
    cases iv with
    | @tup a vs ds o e1 t => exact ⟨a, vs, rfl, .inl (.inl e1), by rw [t.length]; exact gTups_len e, gNs_ok t E e q⟩
    | _ => cases e
theorem cg_lst {es : List Expr} {k : Nat} {is : List Nat} (hc : X.calm = true) (h : PGs X es (gNs is)) (hn : (assignEach es X.env).length = is.length := by rfl) (hst : (assignEach es X.env).findIdx? (·.1) = none := by rfl) : CG X C (.Tuple es k pos) (Lt.gLst is) := fun hK =>
  pg_imp (pg_unl hc h hn hst) fun v σ H Q ⟨S, m, ev, d, ev', R, E, iv, e, q⟩ => by
    unfold Lt.gLst at e
    cases e1 : rdL d m with
    | none => simp only [e1] at e; cases e
    | some ds =>
      simp only [e1] at e
      obtain ⟨a, vs, rfl, sq, t⟩ := iv.rdL R e1
      exact ⟨a, vs, rfl, by rw [← hK]; exact sq, by rw [t.length]; exact gTups_len e, gNs_ok t E e q⟩
end
end Lt

set_option Elab.async false
set_option linter.all false
set_option maxRecDepth 100000
/-! C7: statements, loops, comprehensions. -/
namespace Lt
open PySem PySem.Spec PyProof.Rows L2

def PostS (C : Cn) (S : Wd) (H : Hp) (W : WX) (D : Ends) (r : SR) : Prop := match r with
  | .nx ev m => ∀ S' H' σ', Grow S H S' H' → Rep C S' H' m → EnvOk C S' H' σ' ev → D.nx σ' H'
  | .ret d m => ∀ S' H' v, Grow S H S' H' → Rep C S' H' m → IsV C S' H' v d → D.rt v H'
  | .brk ev m => ∀ S' H' σ', Grow S H S' H' → Rep C S' H' m → EnvOk C S' H' σ' ev → D.bk σ' H'
  | .ct ev m => ∀ S' H' σ', Grow S H S' H' → Rep C S' H' m → EnvOk C S' H' σ' ev → D.ct σ' H'
  | .exc c ev m => ∀ S' H' σ', Grow S H S' H' → Rep C S' H' m → EnvOk C S' H' σ' ev → W (.ref (C.eA c)) none σ' H'
  | .stk => False
def TSx (C : Cn) (W : WX) (s : SC) : TS := fun D σ H => ∃ S m ev, Rep C S H m ∧ EnvOk C S H σ ev ∧ PostS C S H W D (s ev m)
def CS (X : Cx) (C : Cn) (W : WX) (st : Stmt) (s : SC) : Prop := C.K = X.K → PS X st (TSx C W s)
def CSs (X : Cx) (C : Cn) (W : WX) (st : List Stmt) (s : SC) : Prop := C.K = X.K → PSs X st (TSx C W s)
theorem ps_imp {X : Cx} {e : Stmt} {t t' : TS} (h : PS X e t) (k : ∀ D σ H, t' D σ H → t D σ H) : PS X e t' := ⟨fun p s σ H D I q => h.run p s σ H D I (k D σ H q)⟩
theorem pss_imp {X : Cx} {e : List Stmt} {t t' : TS} (h : PSs X e t) (k : ∀ D σ H, t' D σ H → t D σ H) : PSs X e t' := ⟨fun p s σ H D I q => h.run p s σ H D I (k D σ H q)⟩
section
variable {C : Cn} {S S1 : Wd} {H H1 : Hp} {W : WX} {D : Ends}
theorem PostS.since {r : SR} (g : Grow S H S1 H1) (h : PostS C S H W D r) : PostS C S1 H1 W D r := by
  cases r with
  | nx ev m => exact fun S' H' σ' g' R E => h S' H' σ' (g.trans g') R E
  | ret d m => exact fun S' H' σ' g' R E => h S' H' σ' (g.trans g') R E
  | brk ev m => exact fun S' H' σ' g' R E => h S' H' σ' (g.trans g') R E
  | ct ev m => exact fun S' H' σ' g' R E => h S' H' σ' (g.trans g') R E
  | exc c ev m => exact fun S' H' σ' g' R E => h S' H' σ' (g.trans g') R E
  | stk => exact h
theorem post_of {α β : Type} {rel : Rel β α} {r : R α} {ev : Ev} {σ : L2.St} {k : α → Mem → SR} (E : EnvOk C S H σ ev) (h : PostS C S H W D (ofE r ev k)) :
    PostG C S H (WXof C W σ) rel r (fun b H1 => ∃ S1 m1 a, Grow S H S1 H1 ∧ Rep C S1 H1 m1 ∧ rel S1 H1 b a ∧ EnvOk C S1 H1 σ ev ∧ PostS C S1 H1 W D (k a m1)) := by
  cases r with
  | ok a m => exact fun S' H' b g R x => ⟨S', m, a, g, R, x, E.mono g, PostS.since g h⟩
  | exc c m => exact fun S' H' g R => h S' H' σ g R (E.mono g)
  | stk => exact h
end
section
variable {X : Cx} {C : Cn} {W : WX} {pos : Pos}
theorem css_nil : CSs X C W [] sNop := fun _ => pss_imp pss_nil fun D σ H ⟨S, m, ev, R, E, h⟩ => h S H σ .refl R E
theorem css_one {st : Stmt} {s : SC} (h : CS X C W st s) : CSs X C W [st] s := fun hK => pss_one (h hK)
theorem css_cons {st : Stmt} {rest : List Stmt} {s t : SC} (h1 : CS X C W st s) (h2 : CSs X C W rest t) : CSs X C W (st :: rest) (sSeq s t) := fun hK =>
  pss_imp (pss_cons (h1 hK) (h2 hK)) fun D σ H ⟨S, m, ev, R, E, h⟩ => ⟨S, m, ev, R, E, by
    unfold sSeq at h
    cases e : s ev m with
    | nx ev' m' =>
      rw [e] at h
      exact fun S' H' σ' g R' E' => ⟨S', m', ev', R', E', PostS.since g h⟩
    | ret d m' => rw [e] at h; exact h
    | brk ev' m' => rw [e] at h; exact h
    | ct ev' m' => rw [e] at h; exact h
    | exc c ev' m' => rw [e] at h; exact h
    | stk => rw [e] at h; exact h⟩
theorem cs_pass : CS X C W (.Pass pos) sNop := fun _ => ps_imp ps_pass fun D σ H ⟨S, m, ev, R, E, h⟩ => h S H σ .refl R E
theorem cs_set (i : Nat) {x : Str} {e : Expr} {c : EC} {pos' : Pos} (hN : X.N.Nodup) (he : CE X C W e c) (hi : X.N[i]? = some x := by rfl) (hx : Loc X.env.scope x := by first | exact Or.inl rfl | exact Or.inr rfl) (hs : swapsWith e (some (.Name x pos')) pos.line X.env = pure false := by rfl)
    (hf : X.fn x = true ∨ X.env.scope.names.lookup x = some .local := by first | exact .inl rfl | exact .inr rfl) : CS X C W (.Assign [.Name x pos'] e pos) (sSet i c) := fun hK =>
  ps_imp (ps_set hN hi hx (he hK) hs hf) fun D σ H ⟨S, m, ev, R, E, h⟩ => ⟨S, m, ev, R, E, (post_of (rel := isV C) E h).imp fun v H1 ⟨S1, m1, d, g, R1, i1, E1, h1⟩ => h1 S1 H1 _ .refl R1 (E1.set i i1)⟩
theorem cs_unp {tg e : Expr} {c : EC} {g : TGt} (he : CE X C W e c) (hg : CG X C tg g) (hs : swapsWithSole [tg] e pos.line X.env = pure false := by rfl) (hw : swappedStores [tg] e X.env = pure none := by rfl) (h1 : (assignEach [tg] X.env).map (·.2) = [assign tg X.env] := by rfl) : CS X C W (.Assign [tg] e pos) (sUnp g c) := fun hK =>
  ps_imp (ps_asg (he hK) (hg hK) hs hw h1) fun D σ H ⟨S, m, ev, R, E, h⟩ => ⟨S, m, ev, R, E, (post_of (rel := isV C) E h).imp fun v H1 ⟨S1, m1, d, g1, R1, i1, E1, h1⟩ => by
    cases e1 : g d ev m1 with
    | none => simp only [e1] at h1; exact h1.elim
    | some ev' =>
      simp only [e1] at h1
      exact ⟨S1, m1, ev, d, ev', R1, E1, i1, e1, fun σ' E' => h1 S1 H1 σ' .refl R1 E'⟩⟩
theorem cs_par (i j : Nat) {x y : Str} {a b : Expr} {ca cb : EC} {px py pt : Pos} {kt k2 pt2} (hc : X.calm = true) (hN : X.N.Nodup) (ha : CE X C W a ca) (hb : CE X C W b cb) (hw : swappedStores [.Tuple [.Name x px, .Name y py] kt pt] (.Tuple [a, b] k2 pt2) X.env = pure (some [x, y]))
    (hi : X.N[i]? = some x := by rfl) (hj : X.N[j]? = some y := by rfl) (hij : i ≠ j := by decide) (hx : X.env.scope.names.lookup x = some .local := by rfl) (hy : X.env.scope.names.lookup y = some .local := by rfl) (hs : swapsWithSole [.Tuple [.Name x px, .Name y py] kt pt] (.Tuple [a, b] k2 pt2) pos.line X.env = pure false := by rfl)
    (h1 : starEach [a, b] X.env = (false, eval a X.env) :: starEach [b] X.env := by rfl) (h2 : starEach [b] X.env = (false, eval b X.env) :: starEach [] X.env := by rfl) :
    CS X C W (.Assign [.Tuple [.Name x px, .Name y py] kt pt] (.Tuple [a, b] k2 pt2) pos) (sPar i j ca cb) := fun hK =>
  ps_imp (ps_par hc hN hi hj hij hx hy (pa_cons (ha hK) (pa_cons (hb hK) pa_nil h2) h1) hw hs) fun D σ H ⟨S, m, ev, R, E, h⟩ => ⟨S, m, ev, R, E, (post_of (rel := isV C) E h).imp fun v H1 ⟨S1, m1, d, g1, R1, i1, E1, h1⟩ =>
    ⟨S1, m1, ev, R1, E1, (post_of (rel := isV C) E1 h1).imp fun w H2 ⟨S2, m2, d2, g2, R2, i2, E2, h2⟩ => ⟨v, w, rfl, h2 S2 H2 _ .refl R2 ((E2.set i (i1.mono g2)).set j i2)⟩⟩⟩
theorem cs_expr {e : Expr} {c : EC} (he : CE X C W e c) (hs : swapsWith e none pos.line X.env = pure false := by rfl) : CS X C W (.Expr e pos) (sExpr c) := fun hK =>
  ps_imp (ps_expr (he hK) hs) fun D σ H ⟨S, m, ev, R, E, h⟩ => ⟨S, m, ev, R, E, (post_of (rel := isV C) E h).imp fun v H1 ⟨S1, m1, d, g, R1, i1, E1, h1⟩ => h1 S1 H1 _ .refl R1 E1⟩
theorem cs_ret {e : Expr} {c : EC} (he : CE X C W e c) : CS X C W (.Return (some e) pos) (sRet c) := fun hK =>
  ps_imp (ps_ret (he hK)) fun D σ H ⟨S, m, ev, R, E, h⟩ => ⟨S, m, ev, R, E, (post_of (rel := isV C) E h).imp fun v H1 ⟨S1, m1, d, g, R1, i1, E1, h1⟩ => h1 S1 H1 _ .refl R1 i1⟩
theorem cs_retN : CS X C W (.Return none pos) sRetN := fun _ => ps_imp ps_retN fun D σ H ⟨S, m, ev, R, E, h⟩ => h S H _ .refl R .non
theorem cs_if {c : Expr} {a b : List Stmt} {t : ET} {sa sb : SC} (hc : CT X C W c t) (ha : CSs X C W a sa) (hb : CSs X C W b sb) : CS X C W (.If c a b pos) (sIf t sa sb) := fun hK =>
  ps_imp (ps_if (hc hK) (ha hK) (hb hK)) fun D σ H ⟨S, m, ev, R, E, h⟩ => ⟨S, m, ev, R, E, (post_of (rel := isE) E h).imp fun b H1 ⟨S1, m1, d, g, R1, i1, E1, h1⟩ => by
    cases i1
    cases b with
    | true => exact ⟨S1, m1, ev, R1, E1, h1⟩
    | false => exact ⟨S1, m1, ev, R1, E1, h1⟩⟩
/-! loops -/
theorem post_body {C : Cn} {S : Wd} {H : Hp} {W : WX} {D : Ends} {r : SR} {k : SC} {N : L2.St → Hp → Prop}
    (h : PostS C S H W D (match r with | .nx ev2 m2 => k ev2 m2 | .ct ev2 m2 => k ev2 m2 | .brk ev2 m2 => .nx ev2 m2 | .ret d m2 => .ret d m2 | .exc c ev2 m2 => .exc c ev2 m2 | .stk => .stk))
    (hN : ∀ ev2 m2 S' H' σ', Grow S H S' H' → Rep C S' H' m2 → EnvOk C S' H' σ' ev2 → PostS C S' H' W D (k ev2 m2) → N σ' H') : PostS C S H W { D with nx := N, ct := N, bk := D.nx } r := by
  cases r with
  | nx ev m => exact fun S' H' σ' g R E => hN ev m S' H' σ' g R E (PostS.since g h)
  | ret d m => exact h
  | brk ev m => exact h
  | ct ev m => exact fun S' H' σ' g R E => hN ev m S' H' σ' g R E (PostS.since g h)
  | exc c ev m => exact h
  | stk => exact h
theorem for_tail {C : Cn} {S1 : Wd} {H1 : Hp} {W : WX} {D : Ends} {J : It} {w : Walk} {g : TGt} {s : SC} {σ : L2.St} {ev : Ev} {m1 : Mem} (i1 : isW C S1 H1 J w) (R1 : Rep C S1 H1 m1) (E1 : EnvOk C S1 H1 σ ev) (h1 : PostS C S1 H1 W D (forGo w.hold g s w.items ev m1)) :
    ∃ Wx : Nat → Nat → L2.St → Hp → Prop, (∃ m, Wx 0 m σ H1) ∧ ∀ i m σ H, Wx i m σ H →
      (J.stop i H ∧ D.nx σ H) ∨ (J.go i H ∧ ∃ N : L2.St → Hp → Prop, (∀ σ' H', N σ' H' → ∃ m', m' < m ∧ Wx (i + 1) m' σ' H') ∧ ∀ x H', J.yld i H x H' → TGx C g x σ H' fun σ2 H2 => TSx C W s { D with nx := N, ct := N, bk := D.nx } σ2 H2) := by
  refine ⟨fun k n σ' H' => k + n = w.items.length ∧ ∃ S' m' ev', Grow S1 H1 S' H' ∧ Rep C S' H' m' ∧ EnvOk C S' H' σ' ev' ∧ PostS C S' H' W D (forGo w.hold g s (w.items.drop k) ev' m'),
    ⟨w.items.length, Nat.zero_add _, S1, m1, ev, .refl, R1, E1, h1⟩, fun k n σ' H' => ?_⟩
  rintro ⟨hl, S', m', ev', g', R', E', h'⟩
  cases ed : w.items.drop k with
  | nil =>
    rw [ed] at h'
    unfold forGo at h'
    by_cases hh : w.hold m'
    · rw [if_pos hh] at h'
      have hk : k = w.items.length := by
        have z := List.drop_eq_nil_iff.mp ed
        omega
      rw [hk]
      exact .inl ⟨(i1 S' H' m' g' R' hh).2, h' S' H' σ' .refl R' E'⟩
    · rw [if_neg hh] at h'
      exact h'.elim
  | cons x xs =>
    rw [ed] at h'
    unfold forGo at h'
    by_cases hh : w.hold m'
    · rw [if_pos hh] at h'
      have ex : w.items[k]? = some x := by
        have z : (w.items.drop k)[0]? = some x := by rw [ed]; rfl
        rw [List.getElem?_drop] at z
        exact z
      have exs : w.items.drop (k + 1) = xs := by
        have z : (w.items.drop k).drop 1 = xs := by rw [ed]; rfl
        rw [List.drop_drop] at z
        exact z
      have hkl := (List.getElem?_eq_some_iff.mp ex).1
      obtain ⟨go, yl⟩ := (i1 S' H' m' g' R' hh).1 k x ex
      cases eg : g x ev' m' with
      | none => simp only [eg] at h'; exact h'.elim
      | some ev1 =>
        simp only [eg] at h'
        refine .inr ⟨go, fun σ2 H2 => ∃ S2 m2 ev2, Grow S1 H1 S2 H2 ∧ Rep C S2 H2 m2 ∧ EnvOk C S2 H2 σ2 ev2 ∧ PostS C S2 H2 W D (forGo w.hold g s xs ev2 m2), ?_, fun v H2 y => ?_⟩
        · rintro σ2 H2 ⟨S2, m2, ev2, g2, R2, E2, h2⟩
          refine ⟨n - 1, by omega, by omega, S2, m2, ev2, g2, R2, E2, ?_⟩
          rw [exs]
          exact h2
        · obtain ⟨S2, g2, R2, iv⟩ := yl v H2 y
          refine ⟨S2, m', ev', x, ev1, R2, E'.mono g2, iv, eg, fun σ2 E2 => ⟨S2, m', ev1, R2, E2, post_body (PostS.since g2 h') fun ev2 m2 S3 H3 σ3 g3 R3 E3 h3 => ⟨S3, m2, ev2, (g'.trans g2).trans g3, R3, E3, h3⟩⟩⟩
    · rw [if_neg hh] at h'
      exact h'.elim
theorem cs_for {tg iter : Expr} {body : List Stmt} {i : EI} {g : TGt} {s : SC} (hp : PassesOwn (model X.prog X.w) X.A X.env X.xe) (hc : X.calm = true) (hi : CI X C W tg iter i) (hg : CG X C tg g) (hb : CSs X C W body s)
    (hs : ∀ x, foldedSetIterable iter X.env x = pure x := by intro _; rfl) : CS X C W (.For tg iter body [] pos) (sFor i g s) := fun hK =>
  ps_imp (ps_for hp hc (hi hK) (hg hK) (hb hK) hs) fun D σ H ⟨S, m, ev, R, E, h⟩ => ⟨S, m, ev, R, E, (post_of (rel := isW C) E h).imp fun J H1 ⟨S1, m1, w, g1, R1, i1, E1, h1⟩ => for_tail i1 R1 E1 h1⟩
theorem cs_while {c : Expr} {body : List Stmt} {t : ET} {s : SC} (hp : PassesOwn (model X.prog X.w) X.A X.env X.xe) (hc : CT X C W c t) (hb : CSs X C W body s) : CS X C W (.While c body [] pos) (sWhile t s) := fun hK =>
  ps_imp (ps_while hp (hc hK) (hb hK)) fun D σ H ⟨S, m, ev, R, E, h⟩ => by
    refine ⟨fun n σ' H' => ∃ S' m' ev', Rep C S' H' m' ∧ EnvOk C S' H' σ' ev' ∧ PostS C S' H' W D (whGo t s n ev' m'), ⟨FUEL, S, m, ev, R, E, h⟩, fun n σ' H' => ?_⟩
    rintro ⟨S', m', ev', R', E', h'⟩
    cases n with
    | zero => exact h'.elim
    | succ n =>
      unfold whGo at h'
      refine ⟨S', m', ev', R', E', (post_of (rel := isE) E' h').imp fun b H1 ⟨S1, m1, d, g, R1, i1, E1, h1⟩ => ?_⟩
      cases i1
      cases b with
      | false => exact h1 S1 H1 σ' .refl R1 E1
      | true =>
        refine ⟨fun σ2 H2 => ∃ S2 m2 ev2, Rep C S2 H2 m2 ∧ EnvOk C S2 H2 σ2 ev2 ∧ PostS C S2 H2 W D (whGo t s n ev2 m2), fun σ2 H2 q => ⟨n, Nat.lt_succ_self n, q⟩, S1, m1, ev', R1, E1, post_body h1 fun ev2 m2 S3 H3 σ3 g3 R3 E3 h3 => ⟨S3, m2, ev2, R3, E3, h3⟩⟩
/-! comprehensions -/
theorem wipe_len (σ : L2.St) : ∀ vs : List Nat, (wipe σ vs).length = σ.length := wipe_length σ
theorem set_comm_none (σ : L2.St) (i j : Nat) (o : Option V) : i ≠ j → (σ.set i o).set j none = (σ.set j none).set i o := fun h => List.set_comm _ _ h
theorem wipe_set {σ : L2.St} {i : Nat} {o : Option V} : ∀ {vs : List Nat}, i ∈ vs → wipe (σ.set i o) vs = wipe σ vs
  | v :: vs, h => by
    show (wipe (σ.set i o) vs).set v none = (wipe σ vs).set v none
    by_cases hi : i ∈ vs
    · rw [wipe_set hi]
    · have e : i = v := by
        rcases List.mem_cons.mp h with e | e
        · exact e
        · exact absurd e hi
      subst e
      have out : ∀ (σ : L2.St) (ws : List Nat), i ∉ ws → wipe (σ.set i o) ws = (wipe σ ws).set i o := fun σ ws => by
        induction ws with
        | nil => intro _; rfl
        | cons w ws ih =>
          intro hn
          have n1 : i ≠ w := fun z => hn (by rw [z]; exact List.mem_cons_self)
          have n2 : i ∉ ws := fun z => hn (List.mem_cons_of_mem _ z)
          show (wipe (σ.set i o) ws).set w none = ((wipe σ ws).set w none).set i o
          rw [ih n2, set_comm_none _ _ _ _ n1]
      rw [out σ vs hi, List.set_set]
theorem wipe_idem (σ : L2.St) (vs : List Nat) : wipe (wipe σ vs) vs = wipe σ vs := by
  have key : ∀ (ws : List Nat), (∀ w ∈ ws, w ∈ vs) → wipe (wipe σ ws) vs = wipe σ vs := fun ws => by
    induction ws with
    | nil => intro _; rfl
    | cons w ws ih =>
      intro hw
      show wipe ((wipe σ ws).set w none) vs = wipe σ vs
      rw [wipe_set (hw w List.mem_cons_self)]
      exact ih fun x hx => hw x (List.mem_cons_of_mem _ hx)
  exact key vs fun _ h => h
/-- what a target of a comprehension does to the slots: its own are wiped away again -/
def TGw (C : Cn) (g : TGt) (own : List Nat) : TG := fun v σ H Q => ∃ S m ev d ev', Rep C S H m ∧ EnvOk C S H σ ev ∧ IsV C S H v d ∧ g d ev m = some ev' ∧ ∀ σ', EnvOk C S H σ' ev' → wipe σ' own = wipe σ own → Q σ' H
def CGw (X : Cx) (C : Cn) (tg : Expr) (g : TGt) (own : List Nat) : Prop := C.K = X.K → PG X tg (TGw C g own)
theorem cgw_name (i : Nat) {x : Str} {own : List Nat} (hN : X.N.Nodup) (ho : i ∈ own) (hi : X.N[i]? = some x := by rfl) (hx : Loc X.env.scope x := by first | exact Or.inl rfl | exact Or.inr rfl) (hf : X.fn x = true ∨ X.env.scope.names.lookup x = some .local := by first | exact .inl rfl | exact .inr rfl) : CGw X C (.Name x pos) (Lt.gName i) own := fun hK =>
  pg_imp (pg_name hN hi hx hf) fun v σ H Q ⟨S, m, ev, d, ev', R, E, iv, e, k⟩ => by
    cases e
    exact k _ (E.set i iv) (wipe_set ho)
theorem gNs_okw {S : Wd} {H : Hp} {own : List Nat} : ∀ {is : List Nat} {vs : List V} {ds : List D} {σ : L2.St} {ev ev' : Ev} {Q : L2.St → Hp → Prop}, (∀ i ∈ is, i ∈ own) → IsVs C S H vs ds → EnvOk C S H σ ev → gTups is ds ev = some ev' → (∀ σ', EnvOk C S H σ' ev' → wipe σ' own = wipe σ own → Q σ' H) → gNs is vs σ H Q
  | [], _, _, _, _, _, _, _, .nil, E, e, k => by
    cases e
    exact ⟨rfl, k _ E rfl⟩
  | i :: is, _, _, _, _, _, _, ho, .cons a t, E, e, k => ⟨_, _, rfl, gNs_okw (fun j hj => ho j (List.mem_cons_of_mem _ hj)) t (E.set i a) e fun σ' E' q => k σ' E' (q.trans (wipe_set (ho i List.mem_cons_self)))⟩
  | [], _, _, _, _, _, _, _, .cons _ _, _, e, _ => by cases e
  | _ :: _, _, _, _, _, _, _, _, .nil, _, e, _ => by cases e
theorem cgw_tup {es : List Expr} {k : Nat} {is own : List Nat} (hc : X.calm = true) (h : PGs X es (gNs is)) (ho : ∀ i ∈ is, i ∈ own) (hn : (assignEach es X.env).length = is.length := by rfl) (hst : (assignEach es X.env).findIdx? (·.1) = none := by rfl) : CGw X C (.Tuple es k pos) (Lt.gTup is) own := fun hK =>
  pg_imp (pg_tup hc h hn hst) fun v σ H Q ⟨S, m, ev, d, ev', R, E, iv, e, q⟩ => by
    cases iv with
    | @tup a vs ds o e1 t => exact ⟨a, vs, rfl, .inl (.inl e1), by rw [t.length]; exact gTups_len e, gNs_okw ho t E e q⟩
    | _ => cases e
def CTs (X : Cx) (C : Cn) (W : WX) (es : List Expr) (t : ET) : Prop := C.K = X.K → PTs X es (TTx C W t)
theorem cts_nil : CTs X C W [] Lt.tYes := fun _ => ⟨fun pins s σ H Q I ⟨S, m, ev, R, E, h⟩ => pts_nil.run pins s σ H Q I (h S H true .refl R rfl)⟩
theorem cts_one {e : Expr} {t : ET} (h : CT X C W e t) : CTs X C W [e] t := fun hK => pts_one (h hK)
abbrev W0 : WX := fun _ _ _ _ => False
theorem lc_tail {C : Cn} {W : WX} {S1 : Wd} {H1 : Hp} {J : It} {w : Walk} {m1 : Mem} {ev : Ev} {own : List Nat} {g : TGt} {t : ET} {e : EC} {nw : Bool} {σ : L2.St} {Q : VK} (i1 : isW C S1 H1 J w) (R1 : Rep C S1 H1 m1) (E0 : EnvOk C S1 H1 σ ev) (h1 : PostG C S1 H1 (WXof C W σ) (isV C) (bnd (lcGo w.hold g t e (wipeE ev own) w.items []) (outL nw) m1) Q) :
    ∀ D, H1 D = none → ∃ Wx : Nat → Nat → Hp → Prop, (∃ m, Wx 0 m (upd H1 D (.lst []))) ∧ ∀ i m H, Wx i m H →
      (J.stop i H ∧ Q (.ref D) H) ∨ (J.go i H ∧ ∃ Nx : Hp → Prop, (∀ H', Nx H' → ∃ m', m' < m ∧ Wx (i + 1) m' H') ∧ ∀ x H', J.yld i H x H' → TGw C g own x (wipe σ own) H' fun σ2 H2 => wipe σ2 own = wipe σ own ∧ TTx C W0 t σ2 H2 fun b H3 =>
        if b = true then TEx C W0 e σ2 H3 fun y H4 => ∃ acc, H4 D = some (.lst acc) ∧ acc.length < sizeLine ∧ Nx (upd H4 D (.lst (acc ++ [y]))) else Nx H3) := by
  have E1 : EnvOk C S1 H1 (wipe σ own) (wipeE ev own) := E0.wipe own
  intro Dl hD
  have hf := R1.free Dl hD
  have g2 : Grow S1 H1 S1 (upd H1 Dl (.lst [])) := (R1.side hf).2 .refl hD hf
  refine ⟨fun k n H' => k + n = w.items.length ∧ ∃ S' m' vs ds, Grow S1 H1 S' H' ∧ Rep C S' H' m' ∧ H' Dl = some (.lst vs) ∧ S'.own Dl = none ∧ IsVs C S' H' vs ds ∧ PostG C S1 H1 (WXof C W σ) (isV C) (bnd (lcGo w.hold g t e (wipeE ev own) (w.items.drop k) ds) (outL nw) m') Q,
    ⟨w.items.length, Nat.zero_add _, S1, m1, [], [], g2, (R1.side hf).1, upd_same, hf, .nil, h1⟩, fun k n H' => ?_⟩
  rintro ⟨hl, S', m', vs, ds, g', R', hv, ho, t', h'⟩
  cases ed : w.items.drop k with
  | nil =>
    rw [ed] at h'
    unfold Lt.bnd lcGo at h'
    by_cases hh : w.hold m'
    · rw [if_pos hh] at h'
      dsimp only at h'
      have hk : k = w.items.length := by
        have z := List.drop_eq_nil_iff.mp ed
        omega
      rw [hk]
      refine .inl ⟨(i1 S' H' m' g' R' hh).2, ?_⟩
      by_cases z : ds.length ≤ SZ
      · cases nw with
        | false =>
          have e0 : outL false ds m' = .ok (.lst ds) m' := by
            show mkL ds m' = _
            unfold mkL
            rw [if_pos z]
          rw [e0] at h'
          exact h' _ _ _ (g'.adopt hD hf) (R'.adopt hv ho) (.lst Wd.put_same hv (t'.mono0 (Grow0.put ho)))
        | true =>
          have e0 : outL true ds m' = .ok (.ref m'.length) (m' ++ [.lst ds]) := by
            show newL ds m' = _
            unfold newL
            rw [if_pos z]
          rw [e0] at h'
          obtain ⟨S2, R2, a2, g2⟩ := R'.adoptL hv ho t'
          exact h' _ _ _ (g2 g' hD hf) R2 (.ref a2)
      · exfalso
        cases nw with
        | false =>
          have e0 : outL false ds m' = .stk := by
            show mkL ds m' = _
            unfold mkL
            rw [if_neg z]
          rw [e0] at h'
          exact h'
        | true =>
          have e0 : outL true ds m' = .stk := by
            show newL ds m' = _
            unfold newL
            rw [if_neg z]
          rw [e0] at h'
          exact h'
    · rw [if_neg hh] at h'
      exact h'.elim
  | cons x xs =>
    rw [ed] at h'
    have ex : w.items[k]? = some x := by
      have z : (w.items.drop k)[0]? = some x := by rw [ed]; rfl
      rw [List.getElem?_drop] at z
      exact z
    have exs : w.items.drop (k + 1) = xs := by
      have z : (w.items.drop k).drop 1 = xs := by rw [ed]; rfl
      rw [List.drop_drop] at z
      exact z
    have hkl := (List.getElem?_eq_some_iff.mp ex).1
    unfold Lt.bnd lcGo at h'
    by_cases hh : w.hold m'
    · rw [if_pos hh] at h'
      obtain ⟨go, yl⟩ := (i1 S' H' m' g' R' hh).1 k x ex
      cases eg : g x (wipeE ev own) m' with
      | none => simp only [eg] at h'; exact h'.elim
      | some ev1 =>
        simp only [eg] at h'
        refine .inr ⟨go, fun H2 => ∃ S2 m2 vs2 ds2, Grow S1 H1 S2 H2 ∧ Rep C S2 H2 m2 ∧ H2 Dl = some (.lst vs2) ∧ S2.own Dl = none ∧ IsVs C S2 H2 vs2 ds2 ∧ PostG C S1 H1 (WXof C W σ) (isV C) (bnd (lcGo w.hold g t e (wipeE ev own) xs ds2) (outL nw) m2) Q, ?_, fun v H2 y => ?_⟩
        · rintro H2 ⟨S2, m2, vs2, ds2, g2, R2, a2, b2, t2, h2⟩
          refine ⟨n - 1, by omega, by omega, S2, m2, vs2, ds2, g2, R2, a2, b2, t2, ?_⟩
          rw [exs]
          exact h2
        · obtain ⟨S2, g2, R2, iv⟩ := yl v H2 y
          refine ⟨S2, m', wipeE ev own, x, ev1, R2, (E1.mono g').mono g2, iv, eg, fun σ2 E2 ws => ⟨by rw [ws, wipe_idem], S2, m', ev1, R2, E2, ?_⟩⟩
          have keep : ∀ {S3 : Wd} {H3 : Hp}, Grow S' H' S3 H3 → H3 Dl = some (.lst vs) ∧ S3.own Dl = none := fun g3 => g3.fr Dl _ ho hv
          cases et : t ev1 m' with
          | stk => simp only [et] at h'; exact h'.elim
          | exc c m3 => simp only [et] at h'; exact h'.elim
          | ok b m3 =>
            intro S3 H3 b' g3 R3 eb
            cases eb
            cases b with
            | false =>
              simp only [et] at h'
              have kk := keep (g2.trans g3)
              exact ⟨S3, m3, vs, ds, (g'.trans g2).trans g3, R3, kk.1, kk.2, (t'.mono g2).mono g3, h'⟩
            | true =>
              simp only [et] at h'
              refine ⟨S3, m3, ev1, R3, E2.mono g3, ?_⟩
              cases ee : e ev1 m3 with
              | stk => simp only [ee] at h'; exact h'.elim
              | exc c m4 => simp only [ee] at h'; exact h'.elim
              | ok y m4 =>
                simp only [ee] at h'
                by_cases hz : ds.length < SZ
                · rw [if_pos hz] at h'
                  intro S4 H4 u g4 R4 iu
                  have kk := keep ((g2.trans g3).trans g4)
                  have g5 := ((g'.trans g2).trans g3).trans g4
                  refine ⟨vs, kk.1, by rw [t'.length]; exact sz_lt hz, S4, m4, vs ++ [u], ds ++ [y], (R4.side kk.2).2 g5 hD hf, (R4.side kk.2).1, upd_same, kk.2, ?_, h'⟩
                  have gs : Grow0 S4 H4 S4 (upd H4 Dl (.lst (vs ++ [u]))) := ⟨fun _ _ h => h, fun _ h => h, fun a u' h _ e => by rw [upd_ne (ne_free h kk.2)]; exact e, fun a kvs h r => rd_upd (ne_free h kk.2) r⟩
                  exact ((((t'.mono g2).mono g3).mono g4).app (.one iu)).mono0 gs
                · rw [if_neg hz] at h'
                  exact h'.elim
    · rw [if_neg hh] at h'
      exact h'.elim
theorem lc_imp {own : List Nat} {i : EI} {g : TGt} {t : ET} {e : EC} {nw : Bool} {σ : L2.St} {H : Hp} {Q : VK} (h : TEx C W (eLc nw own i g t e) σ H Q) : tLc (TIx C W i) (TGw C g own) (TTx C W0 t) (TEx C W0 e) own σ H Q := by
  obtain ⟨S, m, ev, R, E, h⟩ := h
  exact ⟨S, m, ev, R, E, (PostG.bnd h).imp fun J H1 ⟨S1, m1, w, g1, R1, i1, h1⟩ => lc_tail i1 R1 (E.mono g1) h1⟩
theorem ce_lc (nw : Bool) {N : List Str} {sc : Scope} {elt tg iter : Expr} {ifs : List Expr} {scope : Scope} {own : List (Str × Nat)} {i : EI} {g : TGt} {t : ET} {c : EC} (hc : X.calm = true) (hN : X.N.Nodup) (hi : CI X C W tg iter i) (ok : BlkOk N sc scope own)
    (hg : ∀ (s : Shared) (H : Hp) (K : Addr) (cl : List (Str × Addr)) (fp : List Addr), CGw (X.blk s H scope (compEnvC scope cl K X.env) fp) C tg g (own.map (·.2)))
    (ht : ∀ (s : Shared) (H : Hp) (K : Addr) (cl : List (Str × Addr)) (fp : List Addr), CTs (X.blk s H scope (compEnvC scope cl K X.env) fp) C W0 ifs t)
    (he : ∀ (s : Shared) (H : Hp) (K : Addr) (cl : List (Str × Addr)) (fp : List Addr), CE (X.blk s H scope (compEnvC scope cl K X.env) fp) C W0 elt c)
    (hs : ∀ x, foldedSetIterable iter X.env x = pure x := by intro _; rfl) (eN : X.N = N := by rfl) (eS : X.env.scope = sc := by rfl) : CE X C W (.ListComp elt [⟨tg, iter, ifs, 0⟩] scope pos) (eLc nw (own.map (·.2)) i g t c) := fun hK =>
  pe_imp (pe_lc hc hN (hi hK) (by rw [eN, eS]; exact ok) (fun s H K cl fp => hg s H K cl fp hK) (fun s H K cl fp => ht s H K cl fp hK) (fun s H K cl fp => he s H K cl fp hK) hs) fun σ H Q h => lc_imp h
theorem cs_setLc (nw : Bool) (j : Nat) {N : List Str} {sc : Scope} {y : Str} {py : Pos} {elt tg iter : Expr} {ifs : List Expr} {scope : Scope} {own : List (Str × Nat)} {spos : Pos} {i : EI} {g : TGt} {t : ET} {c : EC} (hc : X.calm = true) (hN : X.N.Nodup)
    (hsw : swapsWith (.ListComp elt [⟨tg, iter, ifs, 0⟩] scope pos) (some (.Name y py)) spos.line X.env = pure true) (hi : CI X C W tg iter i) (ok : BlkOk N sc scope own)
    (hg : ∀ (s : Shared) (H : Hp) (K : Addr) (cl : List (Str × Addr)) (fp : List Addr), CGw (X.blk s H scope (compEnvC scope cl K X.env) fp) C tg g (own.map (·.2)))
    (ht : ∀ (s : Shared) (H : Hp) (K : Addr) (cl : List (Str × Addr)) (fp : List Addr), CTs (X.blk s H scope (compEnvC scope cl K X.env) fp) C W0 ifs t)
    (he : ∀ (s : Shared) (H : Hp) (K : Addr) (cl : List (Str × Addr)) (fp : List Addr), CE (X.blk s H scope (compEnvC scope cl K X.env) fp) C W0 elt c)
    (hy : X.N[j]? = some y := by rfl) (hyl : X.env.scope.names.lookup y = some .local := by rfl) (hs : ∀ x, foldedSetIterable iter X.env x = pure x := by intro _; rfl) (eN : X.N = N := by rfl) (eS : X.env.scope = sc := by rfl) :
    CS X C W (.Assign [.Name y py] (.ListComp elt [⟨tg, iter, ifs, 0⟩] scope pos) spos) (sSet j (eLc nw (own.map (·.2)) i g t c)) := fun hK =>
  ps_imp (ps_setLc hc hN hy hyl hsw (hi hK) (by rw [eN, eS]; exact ok) (fun s H K cl fp => hg s H K cl fp hK) (fun s H K cl fp => ht s H K cl fp hK) (fun s H K cl fp => he s H K cl fp hK) hs) fun D σ H ⟨S, m, ev, R, E, h⟩ =>
    lc_imp ⟨S, m, ev, R, E, (post_of (rel := isV C) E h).imp fun v H1 ⟨S1, m1, d, g, R1, i1, E1, h1⟩ => h1 S1 H1 _ .refl R1 (E1.set j i1)⟩
end
end Lt

set_option Elab.async false
set_option linter.all false
set_option maxRecDepth 100000
/-! C8: defs, calls, exceptions. -/
namespace Lt
open PySem PySem.Spec PyProof.Rows L2

/-! ### raise, try -/
/-- what the written part says of an own exception class -/
structure ExG (K : PySem.W.Frag) (mg : Str → Option Value) (x : Str) (a : Addr) : Prop where
  g : mg x = some (.ref a)
  q : PySem.W.excIn K a [.type "ValueError", .type "Exception", .type "BaseException", .type "object"] "ValueError.__new__" = true
  kp : PySem.W.keepIn K (.ref a) = true
  b : PySem.W.subIn K (.ref a) (.type "BaseException") = some true
  t : PySem.W.typeIn K (.ref a) = some (.type "type")
section
variable {X : Cx} {C : Cn} {W : WX} {pos : Pos}
theorem cs_raise {x s : Str} {c : Ecl} {j : Nat} {p p2 p3 : Pos} (hc : X.calm = true) (tk : Takes X W) (G : ExG X.K X.mg x (C.eA c)) (hg : Gl X x := by rfl) (hdb : (x == ("__debug__" : Str)) = false := by decide) :
    CS X C W (.Raise (some (.Call (.Name x p) [.Constant (.str s) j p2] [] p3)) none pos) (sRaise c) := fun _ =>
  ps_imp (ps_raise hc tk (pmk_own PySem.F.excBase_ValueError G.q G.g G.kp (raises_own G.b G.t) hg hdb)) fun D σ H ⟨S, m, ev, R, E, h⟩ => h S H σ .refl R E
theorem cs_try_only {x : Str} {cv : Value} {np pos' : Pos} {body suite : List Stmt} {b0 : Stmt} {ps : List Ecl} {mt : Ecl → Bool} {b s : SC} (hs : X.stack = X.env :: X.outer) (hf : X.env.frame = some X.env.locals) (hn : Names X x cv) (tk : Takes X W)
    (hx : ∀ c ∈ ps, PySem.W.exmOne X.K (.ref (C.eA c)) cv = some (mt c))
    (hb : ∀ (W : WX) (pn : List (Addr × Obj)) (xe : Value → Shared → Prop), Takes (X.tr pn xe) W → PassesOwn (model X.prog X.w) X.A X.env xe → CSs (X.tr pn xe) C W body b)
    (hsu : ∀ (a : Addr) (oe : Obj) (pn : List (Addr × Obj)), CSs (X.suite a ((a, oe) :: pn)) C W0 (b0 :: suite) s) :
    CS X C W (.Try body [.ExceptHandler (some (.Name x np)) none (b0 :: suite) pos'] [] [] pos) (sTryOnly ps mt b s) := fun hK =>
  ps_imp (ps_try_only (tb := fun W => TSx C W b) (ts := fun _ _ _ => TSx C W0 s) hs hf hn tk (fun W pn xe t p => hb W pn xe t p hK) (fun a oe cls d pn _ _ => hsu a oe pn hK)) fun D σ H ⟨S, m, ev, R, E, h⟩ => ⟨S, m, ev, R, E, by
    unfold sTryOnly at h
    cases e : b ev m with
    | nx ev' m' => rw [e] at h; exact h
    | ret d m' => rw [e] at h; exact h
    | brk ev' m' => rw [e] at h; exact h
    | ct ev' m' => rw [e] at h; exact h
    | stk => rw [e] at h; exact h
    | exc c ev' m' =>
      rw [e] at h
      dsimp only at h
      by_cases hc : c ∈ ps
      · rw [if_pos hc] at h
        intro S' H' σ' g R' E'
        refine ⟨mt c, hx c hc, fun hm a _ => ?_, fun hm => ?_⟩
        · rw [if_pos hm] at h
          refine ⟨S', m', ev', R', E', ?_⟩
          cases es : s ev' m' with
          | exc c2 ev2 m2 => rw [es] at h; exact h.elim
          | nx ev2 m2 => rw [es] at h; exact PostS.since g h
          | ret d m2 => rw [es] at h; exact PostS.since g h
          | brk ev2 m2 => rw [es] at h; exact PostS.since g h
          | ct ev2 m2 => rw [es] at h; exact PostS.since g h
          | stk => rw [es] at h; exact h.elim
        · rw [if_neg (by rw [hm]; exact Bool.false_ne_true)] at h
          exact h S' H' σ' g R' E'
      · rw [if_neg hc] at h
        exact h.elim⟩
end
/-! ### defs -/
def SpM (C : Cn) (f : List D → M D) : Sp := fun vs H Q E => ∃ S m ds, Rep C S H m ∧ IsVs C S H vs ds ∧ PostG C S H (fun c H' => E (.ref (C.eA c)) none H') (isV C) (f ds m) Q
structure FnG (P : Program) (w : World) (K : PySem.W.Frag) (mg : Str → Option Value) (base : Heap) (C : Cn) (x : Str) (k : Nat) (mf : List D → M D) : Prop where
  ex : ∃ f fd ps, FnOk P w K mg base (L2.CX P w) k f fd ps (SpM C mf) ∧ mg x = some (.ref f) ∧ PySem.W.keepIn K (.ref f) = true ∧ Binds K fd ps []
section
variable {X : Cx} {C : Cn} {W : WX} {pos : Pos}
theorem ce_call {x : Str} {k : Nat} {mf : List D → M D} {e : Expr} {es : List Expr} {a : EA} {p : Pos} (G : FnG X.prog X.w X.K X.mg X.base C x k mf) (hr : Room k X.A) (tk : Takes X W) (ha : CA X C W (e :: es) a) (hg : Gl X x := by rfl) (hdb : (x == ("__debug__" : Str)) = false := by decide)
    (he : starEach (e :: es) X.env = (false, eval e X.env) :: starEach es X.env := by rfl) (hpl : (backTo pos (starEach es X.env)).any (·.1) = false := by rfl) : CE X C W (.Call (.Name x p) (e :: es) [] pos) (eCall mf a) := fun hK => by
  obtain ⟨f, fd, ps, F, hm, hk, hb⟩ := G.ex
  exact pe_imp (pe_callS F hr hg hm hk hb (fun σ => passAt tk σ) (ha hK) hdb he hpl) fun σ H Q ⟨S, m, ev, R, E, h⟩ => ⟨S, m, ev, R, E, (PostG.bnd h).imp fun xs H1 ⟨S1, m1, ds, g1, R1, i1, h1⟩ => ⟨S1, m1, ds, R1, i1, h1⟩⟩
end
theorem envOf_ok {C : Cn} {S : Wd} {H : Hp} {N : List Str} {vs : List V} {ds : List D} (i : IsVs C S H vs ds) (hl : ds.length ≤ N.length) : EnvOk C S H (L2.start N vs) (evOf N.length ds) := by
  have e := i.length
  refine ⟨?_, fun j d q => ?_⟩
  · unfold L2.start evOf
    rw [List.length_append, List.length_append, List.length_map, List.length_map, List.length_replicate, List.length_replicate, e]
  · unfold evOf at q
    unfold L2.start
    by_cases hj : j < ds.length
    · rw [List.getElem?_append_left (by rw [List.length_map]; exact hj), List.getElem?_map] at q
      rw [List.getElem?_append_left (by rw [List.length_map, e]; exact hj), List.getElem?_map]
      obtain ⟨d', q1, q2⟩ := Option.map_eq_some_iff.mp q
      cases q2
      obtain ⟨v, h1, h2⟩ := i.at q1
      exact ⟨v, by rw [h1]; rfl, h2⟩
    · rw [List.getElem?_append_right (by rw [List.length_map]; omega)] at q
      have := List.mem_of_getElem? q
      rw [List.mem_replicate] at this
      exact absurd this.2 (by simp)
/-- THE RULE for a def: its body, statement by statement -/
theorem fn_ok {P : Program} {w : World} {K : PySem.W.Frag} {mg : Str → Option Value} {base : Heap} {C : Cn} {x qual : Str} {st : Stmt} {f : Addr} {fd : FuncData} {N ps : List Str} {k : Nat} {b : SC} (hK : C.K = K) (F : Fun K x qual st f fd) (S : FnScope N ps (defScope st)) (hl : ps.length ≤ N.length)
    (hb : ∀ (cdv : Value) (A : Around) (outer : List Env) (s : Shared) (H : Hp) (E : XK), Room k (A.deeper (envOfC qual (defScope st) s.heap.objs.size f cdv)) →
      CSs (cxOf (L2.CX P w) P w K mg base N qual (defScope st) f cdv A outer s H E) C (fun cls d _ H' => E cls d H') (defBody st) b) : FnOk P w K mg base (L2.CX P w) (k + 1) f fd ps (SpM C (runF ps.length N.length b)) := by
  refine F.okX S (fun vs H Q E h => ?_) (fun cdv A outer s H vs Q E hr h => ⟨_, hb cdv A outer s H E hr hK, ?_⟩)
  · obtain ⟨S, m, ds, R, i, h⟩ := h
    unfold runF at h
    by_cases z : ds.length = ps.length
    · rw [i.length]; exact z
    · rw [if_neg z] at h
      exact h.elim
  · obtain ⟨S, m, ds, R, i, h⟩ := h
    unfold runF at h
    by_cases z : ds.length = ps.length
    · rw [if_pos z] at h
      refine ⟨S, m, evOf N.length ds, R, envOf_ok i (by omega), ?_⟩
      unfold runB at h
      cases e : b (evOf N.length ds) m with
      | nx ev' m' => rw [e] at h; exact fun S' H' σ' g R' E' => h S' H' _ g R' .non
      | ret d m' => rw [e] at h; exact fun S' H' v g R' i' => h S' H' v g R' i'
      | exc c ev' m' => rw [e] at h; exact fun S' H' σ' g R' E' => h S' H' g R'
      | brk ev' m' => rw [e] at h; exact h.elim
      | ct ev' m' => rw [e] at h; exact h.elim
      | stk => rw [e] at h; exact h.elim
    · rw [if_neg z] at h
      exact h.elim
/-! ### a def that leaves the memory as it was -/
section
variable {C : Cn} {S S1 : Wd} {H H1 : Hp}
mutual
theorem IsV.back (g : Grow S H S1 H1) : ∀ {v v' : V} {d : D}, IsV C S H v d → IsV C S1 H1 v' d → IsV C { S1 with al := S.al } H1 v' d
  | _, _, _, _, .non => .non
  | _, _, _, _, .bl b => .bl b
  | _, _, _, _, .int i => .int i
  | _, _, _, _, .str s => .str s
  | _, _, _, .lst _ _ t0, .lst o h t => .lst o h (IsVs.back g t0 t)
  | _, _, _, .klst _ t0, .klst o t => .klst o (IsVs.back g t0 t)
  | _, _, _, .tup _ _ t0, .tup o h t => .tup o h (IsVs.back g t0 t)
  | _, _, _, .dic _ _ t0, .dic o h t => .dic o h (IsKs.back g t0 t)
  | _, _, _, .ref a0, .ref a1 => .ref (by
    have e := g.al _ _ a0
    rw [a1] at e
    cases e
    exact a0)
  | _, _, _, _, .exc c o h => .exc c o h
theorem IsVs.back (g : Grow S H S1 H1) : ∀ {v v' : List V} {d : List D}, IsVs C S H v d → IsVs C S1 H1 v' d → IsVs C { S1 with al := S.al } H1 v' d
  | _, _, _, _, .nil => .nil
  | _, _, _, .cons a t, .cons a' t' => .cons (IsV.back g a a') (IsVs.back g t t')
theorem IsKs.back (g : Grow S H S1 H1) : ∀ {v v' : List (Key × V)} {d : List (Key × D)}, IsKs C S H v d → IsKs C S1 H1 v' d → IsKs C { S1 with al := S.al } H1 v' d
  | _, _, _, _, .nil => .nil
  | _, _, _, .cons a t, .cons a' t' => .cons (IsV.back g a a') (IsKs.back g t t')
end
mutual
theorem IsV.flat {al : List Addr} : ∀ {v : V} {d : D}, flat0 d = true → IsV C S1 H1 v d → IsV C { S1 with al := al } H1 v d
  | _, _, _, .non => .non
  | _, _, _, .bl b => .bl b
  | _, _, _, .int i => .int i
  | _, _, _, .str s => .str s
  | _, _, f, .lst o h t => .lst o h (IsVs.flat (by simpa only [flat0] using f) t)
  | _, _, f, .klst o t => .klst o (IsVs.flat (by simpa only [flat0] using f) t)
  | _, _, f, .tup o h t => .tup o h (IsVs.flat (by simpa only [flat0] using f) t)
  | _, _, f, .dic o h t => .dic o h (IsKs.flat (by simpa only [flat0] using f) t)
  | _, _, f, .ref a1 => by simp only [flat0] at f; cases f
  | _, _, _, .exc c o h => .exc c o h
theorem IsVs.flat {al : List Addr} : ∀ {v : List V} {d : List D}, flat0s d = true → IsVs C S1 H1 v d → IsVs C { S1 with al := al } H1 v d
  | _, _, _, .nil => .nil
  | _, _, f, .cons a t => by
    simp only [flat0s, Bool.and_eq_true] at f
    exact .cons (IsV.flat f.1 a) (IsVs.flat f.2 t)
theorem IsKs.flat {al : List Addr} : ∀ {v : List (Key × V)} {d : List (Key × D)}, flat0k d = true → IsKs C S1 H1 v d → IsKs C { S1 with al := al } H1 v d
  | _, _, _, .nil => .nil
  | _, _, f, .cons a t => by
    simp only [flat0k, Bool.and_eq_true] at f
    exact .cons (IsV.flat f.1 a) (IsKs.flat f.2 t)
end
theorem Rep.back {m m' : Mem} (R : Rep C S H m) (R1 : Rep C S1 H1 m') (g : Grow S H S1 H1) (e : m'.take m.length = m) : Rep C { S1 with al := S.al } H1 m ∧ Grow S H { S1 with al := S.al } H1 := by
  have old : ∀ (i : Nat) (c : Cell), m[i]? = some c → m'[i]? = some c := fun i c h => by
    have hi := (List.getElem?_eq_some_iff.mp h).1
    rw [← e, List.getElem?_take_of_lt hi] at h
    exact h
  refine ⟨⟨R.len, fun i a c h1 h2 h3 => R1.own i a c (g.al i a h1) (old i c h2) h3, fun i a c h1 h2 => ?_, R1.free⟩, ⟨fun _ _ h => h, g.own, g.hd, g.dk, g.fr⟩⟩
  have c0 := R.ok i a c h1 h2
  have c1 := R1.ok i a c (g.al i a h1) (old i c h2)
  cases c with
  | lst ds =>
    obtain ⟨vs, e1, t⟩ := c1
    obtain ⟨vs0, _, t0⟩ := c0
    exact ⟨vs, e1, t0.back g t⟩
  | dic lk kds =>
    obtain ⟨vs, e1, l, t, z⟩ := c1
    obtain ⟨vs0, _, _, t0, _⟩ := c0
    exact ⟨vs, e1, l, t0.back g t, z⟩
  | ins c fs =>
    obtain ⟨dx, fv, e1, o, n, t⟩ := c1
    obtain ⟨dx0, fv0, _, _, _, t0⟩ := c0
    exact ⟨dx, fv, e1, o, n, t0.back g t⟩
  | dead => trivial
end
theorem spM_pure {C : Cn} {k n : Nat} {b : SC} (vs : List V) (H : Hp) (Q : VK) (E : XK) (h : SpM C (runP k n b) vs H Q E) : SpM C (runF k n b) vs H Q E := by
  obtain ⟨S, m, ds, R, i, h⟩ := h
  refine ⟨S, m, ds, R, i, ?_⟩
  unfold runP at h
  cases e : runF k n b ds m with
  | stk => rw [e] at h; exact h
  | exc c m' =>
    rw [e] at h
    dsimp only at h
    by_cases z : m'.take m.length = m
    · rw [if_pos z] at h
      intro S1 H1 g R1
      obtain ⟨R2, g2⟩ := R.back R1 g z
      exact h _ _ g2 R2
    · rw [if_neg z] at h
      exact h.elim
  | ok d m' =>
    rw [e] at h
    dsimp only at h
    by_cases z : m'.take m.length = m ∧ flat0 d = true
    · rw [if_pos z] at h
      intro S1 H1 v g R1 iv
      obtain ⟨R2, g2⟩ := R.back R1 g z.1
      exact h _ _ v g2 R2 (iv.flat z.2)
    · rw [if_neg z] at h
      exact h.elim
theorem fnOk_pure {P : Program} {w : World} {K : PySem.W.Frag} {mg : Str → Option Value} {base : Heap} {CX : CXT} {C : Cn} {k : Nat} {f : Addr} {fd : FuncData} {ps : List Str} {j n : Nat} {b : SC} (F : FnOk P w K mg base CX k f fd ps (SpM C (runF j n b))) : FnOk P w K mg base CX k f fd ps (SpM C (runP j n b)) := F.imp spM_pure
end Lt

set_option Elab.async false
set_option linter.all false
set_option maxRecDepth 100000
/-! C9: the end of a law: the head's facts, the law's own def. -/
namespace Lt
open PySem PySem.Spec PyProof.Rows L2

/-- the classes' places, by names -/
def eName : Ecl → Str
  | .row => "BadRow" | .file => "BadFile" | .size => "BadSize" | .old => "TooOld" | .ended => "Ended" | .stop => "Stop"
def iName : Icl → Str
  | .disk => "Disk" | .store => "Store" | .thinning => "Thinning" | .look => "Look" | .desk => "Desk"
def cnOf (K : PySem.W.Frag) : Cn := ⟨K, fun c => He.ga K (eName c), fun i => He.ga K (iName i)⟩
/-- facts by names, the defs, and one more look of one's own -/
def hookX (n : Nat) (fa : List He.Fa) (fn : List He.DefD) (ex : PySem.W.Frag → Bool) : PySem.W.Hook where
  α := Bool × He.AlD
  obs := fun s => (ex (He.frG s.heap.get? (He.asD s.heap.get? n)), He.obsDG n fa fn s.heap.get?)
  val := fun _ => (true, He.valD fn)
  says := fun _ h => ∃ K : PySem.W.Frag, K.In h ∧ ex K = true ∧ He.SaysD fa fn K
  of := fun _ _ e => ⟨_, He.frG_in, congrArg Prod.fst e, congrArg Prod.snd e⟩
  keeps := fun _ _ _ ⟨K, hK, c⟩ k => ⟨K, PySem.W.Frag.In.keeps hK k, c⟩
def obX (n : Nat) (fa : List He.Fa) (fn : List He.DefD) (ex : PySem.W.Frag → Bool) (s : PySem.W.SharedT) : Bool × He.AlD :=
  (ex (He.frG (HandSHeadRun.getT s) (He.asD (HandSHeadRun.getT s) n)), He.obsDG n fa fn (HandSHeadRun.getT s))
theorem obX_eq {n : Nat} {fa : List He.Fa} {fn : List He.DefD} {ex : PySem.W.Frag → Bool} (s : PySem.W.SharedT) : obX n fa fn ex s = (hookX n fa fn ex).obs s.abs := by
  have e : HandSHeadRun.getT s = s.abs.heap.get? := funext fun a => HandSHeadRun.getT_eq s a
  unfold obX
  rw [e]
  rfl
/-- a def of the text, as the head's facts tell it -/
abbrev FnP (K : PySem.W.Frag) (x qual : Str) (st : Stmt) (f : Addr) (fd : FuncData) : Prop := FunD K x qual (defArgs st) (defBody st) (defScope st) [] [] f fd
/-- THE RULE for a def: its body, statement by statement -/
theorem fn_okD {P : Program} {w : World} {K : PySem.W.Frag} {mg : Str → Option Value} {base : Heap} {C : Cn} {x qual : Str} {st : Stmt} {f : Addr} {fd : FuncData} {N ps : List Str} {k : Nat} {b : SC} (hK : C.K = K) (F : FnP K x qual st f fd) (S : FnScope N ps (defScope st)) (hl : ps.length ≤ N.length)
    (hb : ∀ (cdv : Value) (A : Around) (outer : List Env) (s : Shared) (H : Hp) (E : XK), Room k (A.deeper (envOfC qual (defScope st) s.heap.objs.size f cdv)) →
      Takes (cxOf (L2.CX P w) P w K mg base N qual (defScope st) f cdv A outer s H E) (fun cls d _ H' => E cls d H') → N.Nodup →
      CSs (cxOf (L2.CX P w) P w K mg base N qual (defScope st) f cdv A outer s H E) C (fun cls d _ H' => E cls d H') (defBody st) b) : FnOk P w K mg base (L2.CX P w) (k + 1) f fd ps (SpM C (runF ps.length N.length b)) := by
  refine F.ok S (fun vs H Q E h => ?_) (fun cdv A outer s H vs Q E hr h => ⟨_, hb cdv A outer s H E hr (takes_of rfl rfl rfl rfl) S.nd hK, ?_⟩)
  · obtain ⟨S, m, ds, R, i, h⟩ := h
    unfold runF at h
    by_cases z : ds.length = ps.length
    · rw [i.length]; exact z
    · rw [if_neg z] at h
      exact h.elim
  · obtain ⟨S, m, ds, R, i, h⟩ := h
    unfold runF at h
    by_cases z : ds.length = ps.length
    · rw [if_pos z] at h
      refine ⟨S, m, evOf N.length ds, R, envOf_ok i (by omega), ?_⟩
      unfold runB at h
      cases e : b (evOf N.length ds) m with
      | nx ev' m' => rw [e] at h; exact fun S' H' σ' g R' E' => h S' H' _ g R' .non
      | ret d m' => rw [e] at h; exact fun S' H' v g R' i' => h S' H' v g R' i'
      | exc c ev' m' => rw [e] at h; exact fun S' H' σ' g R' E' => h S' H' g R'
      | brk ev' m' => rw [e] at h; exact h.elim
      | ct ev' m' => rw [e] at h; exact h.elim
      | stk => rw [e] at h; exact h.elim
    · rw [if_neg z] at h
      exact h.elim
/-- a def whose arguments bind one by one, found by its name -/
theorem fn_g {P : Program} {w : World} {K : PySem.W.Frag} {mg : Str → Option Value} {base : Heap} {C : Cn} {x qual : Str} {st : Stmt} {f : Addr} {fd : FuncData} {ps : List Str} {k : Nat} {mf : List D → M D} (F : FnP K x qual st f fd) (hm : mg x = some (.ref f))
    (h : ∀ (kV doc pm : Value) (an : Option Addr) (cdv ct : Value) (us : List Value), us.length = ps.length → bindArgs (PySem.W.fnOf x qual (defArgs st) (defBody st) (defScope st) .none kV doc pm an cdv ct) ⟨us, []⟩ = pure (ps.zip us))
    (ok : FnOk P w K mg base (L2.CX P w) k f fd ps (SpM C mf)) : FnG P w K mg base C x k mf := ⟨⟨f, fd, ps, ok, hm, F.kp, F.bindsN h⟩⟩
/-- the law's own promise: over a script of ints nothing is raised, and True is told -/
def spL (C : Cn) (f : List D → M D) : Sp := fun vs H Q _ => SpM C f vs H Q (fun _ _ _ => False)
theorem fnOk_law {P : Program} {w : World} {K : PySem.W.Frag} {mg : Str → Option Value} {base : Heap} {C : Cn} {k : Nat} {f : Addr} {fd : FuncData} {ps : List Str} {mf : List D → M D} (F : FnOk P w K mg base (L2.CX P w) k f fd ps (SpM C mf)) : FnOk P w K mg base CX0 k f fd ps (spL C mf) where
  len := fun vs H Q E h => F.len vs H Q _ h
  run := fun A outer s H args us vs Q E hr e hb r h => codeAny_mono (F.run A outer s H args us vs Q (fun _ _ _ => False) hr e hb r h) fun r s' hq => by
    cases r with
    | error e =>
      obtain ⟨_, _, _, _, _, _, _, _, _, _, _, _, z⟩ := hq
      exact z.elim
    | ok fl => cases fl <;> exact hq
theorem script_is {C : Cn} {S : Wd} {H : Hp} : ∀ (ns : List Int), IsVs C S H (ns.map V.int) (ns.map D.int)
  | [] => .nil
  | n :: ns => .cons (.int n) (script_is ns)
theorem spL_of {C : Cn} {mf : List D → M D} {H : Hp} {a : Addr} {ns : List Int} (hO : Only H) (hS : SqL C.K H a (ns.map V.int)) (h : ∃ m, mf [.klst (ns.map D.int)] [] = .ok (.bl true) m) : spL C mf [.ref a] H (fun v _ => v = .bl true) (fun _ _ _ => False) := by
  obtain ⟨m, h⟩ := h
  have fin : ∀ S : Wd, Rep C S H [] → IsV C S H (.ref a) (.klst (ns.map D.int)) → spL C mf [.ref a] H (fun v _ => v = .bl true) (fun _ _ _ => False) := fun S R i => ⟨S, [], [.klst (ns.map D.int)], R, .one i, by
    rw [h]
    intro S' H' v g R' iv
    cases iv
    rfl⟩
  rcases hS with (hS | ⟨o, hS⟩) | hS
  · rcases hO a with e | ⟨o, xs, e⟩
    · rw [hS] at e; cases e
    · rw [hS] at e; cases e
  · refine fin ⟨fun b => if b = a then some .imm else none, []⟩ ⟨rfl, fun i b c h => by simp at h, fun i b c h => by simp at h, fun b h => ?_⟩ (.klst (.inl ⟨if_pos rfl, o, hS⟩) (script_is ns))
    show (if b = a then some Own.imm else none) = none
    rw [if_neg]
    intro z
    rw [z, hS] at h
    cases h
  · exact fin ⟨fun _ => none, []⟩ ⟨rfl, fun i b c h => by simp at h, fun i b c h => by simp at h, fun b h => rfl⟩ (.klst (.inr (.inr hS)) (script_is ns))
end Lt

set_option Elab.async false
set_option linter.all false
set_option maxRecDepth 100000
/-! C10: short words for derivations. -/
namespace Lt
open PySem PySem.Spec PyProof.Rows L2

/-- a written list of texts -/
def KLst (K : PySem.W.Frag) (mg : Str → Option Value) (x : Str) (ss : List Str) : Prop := ∃ a, mg x = some (.ref a) ∧ SqL K (fun _ => none) a (ss.map V.str)
theorem strs_is {C : Cn} {S : Wd} {H : Hp} : ∀ (ns : List Str), IsVs C S H (ns.map V.str) (ns.map D.str)
  | [] => .nil
  | n :: ns => .cons (.str n) (strs_is ns)
theorem klst_of {K : PySem.W.Frag} {mg : Str → Option Value} {x : Str} {ss : List Str} (h : mg x = some (.ref (He.ga K x))) (t : He.lstB K x (ss.map He.Dv.str) = true) : KLst K mg x ss := ⟨_, h, by
  have q := He.lstB_ok t (fun _ => none)
  rw [List.map_map] at q
  exact q⟩
theorem tabs_ok {K : PySem.W.Frag} {tb : List (Str × List He.Dv)} (i : Nat) (h : (tb.all fun q => He.lstB K q.1 q.2) = true) {q : Str × List He.Dv} (e : tb[i]? = some q := by rfl) : He.lstB K q.1 q.2 = true := List.all_eq_true.mp h q (List.mem_of_getElem? e)
theorem exg_of {K : PySem.W.Frag} {mg : Str → Option Value} {x : Str} {a : Addr} (h : mg x = some (.ref a)) (t : PySem.W.excIn K a He.veBase "ValueError.__new__" = true ∧ PySem.W.keepIn K (.ref a) = true ∧ PySem.W.subIn K (.ref a) (.type "BaseException") = some true ∧ PySem.W.typeIn K (.ref a) = some (.type "type")) : ExG K mg x a := ⟨h, t.1, t.2.1, t.2.2.1, t.2.2.2⟩
section
variable {X : Cx} {C : Cn} {W : WX} {pos : Pos} {a b c : Expr} {ca cb cc : EC} {k : Nat}
theorem ce_gint {x : Str} {i : Int} (h : ∃ t, X.mg x = some (.int i t)) (hg : Gl X x := by rfl) (hd : (x == ("__debug__" : Str)) = false := by decide) : CE X C W (.Name x pos) (eC (.int i)) := by
  obtain ⟨t, h⟩ := h
  exact ce_glob (v := .int i) h ⟨t, rfl⟩ (fun _ _ => .int i) hg hd
theorem ce_gstr {x : Str} {i : Str} (h : ∃ t, X.mg x = some (.str i t)) (hg : Gl X x := by rfl) (hd : (x == ("__debug__" : Str)) = false := by decide) : CE X C W (.Name x pos) (eC (.str i)) := by
  obtain ⟨t, h⟩ := h
  exact ce_glob (v := .str i) h ⟨t, rfl⟩ (fun _ _ => .str i) hg hd
theorem ce_glst {x : Str} {ss : List Str} (h : KLst X.K X.mg x ss) (hg : Gl X x := by rfl) (hd : (x == ("__debug__" : Str)) = false := by decide) : CE X C W (.Name x pos) (eC (.klst (ss.map D.str))) := fun hK => by
  obtain ⟨a, h, hs⟩ := h
  exact ce_glob (v := .ref a) h rfl (fun _ _ => .klst (.inr (by rw [hK]; exact hs)) (strs_is ss)) hg hd hK
theorem ce_add (nw : Bool) (ha : CE X C W a ca) (hb : CE X C W b cb) : CE X C W (.BinOp a .Add b pos) (eBin (oAdd nw) ca cb) := ce_bin op_addA (fun h => by rw [← h]; exact op2_add nw) ha hb
theorem ce_sub (ha : CE X C W a ca) (hb : CE X C W b cb) : CE X C W (.BinOp a .Sub b pos) (eBin oSub ca cb) := ce_bin op_sub (fun _ => op2_sub) ha hb
theorem ce_mul (ha : CE X C W a ca) (hb : CE X C W b cb) : CE X C W (.BinOp a .Mult b pos) (eBin oMul ca cb) := ce_bin op_mul (fun _ => op2_mul) ha hb
theorem ce_rep (nw : Bool) (ha : CE X C W a ca) (hb : CE X C W b cb) : CE X C W (.BinOp a .Mult b pos) (eBin (oRep nw) ca cb) := ce_bin op_mulA (fun _ => op2_rep nw) ha hb
theorem ce_fdiv (ha : CE X C W a ca) (hb : CE X C W b cb) : CE X C W (.BinOp a .FloorDiv b pos) (eBin oFdiv ca cb) := ce_bin op_fdiv (fun _ => op2_fdiv) ha hb
theorem ce_mod (ha : CE X C W a ca) (hb : CE X C W b cb) : CE X C W (.BinOp a .Mod b pos) (eBin oMod ca cb) := ce_bin op_mod (fun _ => op2_mod) ha hb
theorem ce_pow (ha : CE X C W a ca) (hb : CE X C W b cb) : CE X C W (.BinOp a .Pow b pos) (eBin oPow ca cb) := ce_bin op_pow (fun _ => op2_pow) ha hb
theorem ce_neg (ha : CE X C W a ca) : CE X C W (.UnaryOp .USub a pos) (eUn oNeg ca) := ce_un un_neg op1_neg ha
theorem ce_lt (ha : CE X C W a ca) (hb : CE X C W b cb) : CE X C W (.Compare a [.Lt] [b] pos) (eBin oLt ca cb) := ce_cmp op_ltA (fun _ => op2_lt) ha hb (nomark b)
theorem ce_le (ha : CE X C W a ca) (hb : CE X C W b cb) : CE X C W (.Compare a [.LtE] [b] pos) (eBin oLe ca cb) := ce_cmp op_leA (fun _ => op2_le) ha hb (nomark b)
theorem ce_gt (ha : CE X C W a ca) (hb : CE X C W b cb) : CE X C W (.Compare a [.Gt] [b] pos) (eBin oGt ca cb) := ce_cmp op_gtA (fun _ => op2_gt) ha hb (nomark b)
theorem ce_ge (ha : CE X C W a ca) (hb : CE X C W b cb) : CE X C W (.Compare a [.GtE] [b] pos) (eBin oGe ca cb) := ce_cmp op_geA (fun _ => op2_ge) ha hb (nomark b)
theorem ce_eq (hr : Room k X.A) (ha : CE X C W a ca) (hb : CE X C W b cb) : CE X C W (.Compare a [.Eq] [b] pos) (eBin oEq ca cb) := ce_cmp (op_eqA hr.units) (fun h => by rw [← h]; exact op2_eq) ha hb (nomark b)
theorem ce_ne (hr : Room k X.A) (ha : CE X C W a ca) (hb : CE X C W b cb) : CE X C W (.Compare a [.NotEq] [b] pos) (eBin oNe ca cb) := ce_cmp (op_neA hr.units) (fun h => by rw [← h]; exact op2_ne) ha hb (nomark b)
theorem ce_in (hr : Room k X.A) (ha : CE X C W a ca) (hb : CE X C W b cb) (hm : behindInMarks .In b = false := by rfl) : CE X C W (.Compare a [.In] [b] pos) (eBin oIn ca cb) := ce_cmp (op_inA (hu_of hr)) (fun h => by rw [← h]; exact op2_in) ha hb hm
theorem ce_notIn (hr : Room k X.A) (ha : CE X C W a ca) (hb : CE X C W b cb) (hm : behindInMarks .NotIn b = false := by rfl) : CE X C W (.Compare a [.NotIn] [b] pos) (eBin oNotIn ca cb) := ce_cmp (op_notInA (hu_of hr)) (fun h => by rw [← h]; exact op2_notIn) ha hb hm
theorem ce_isN (ha : CE X C W a ca) (hb : CE X C W b cb) : CE X C W (.Compare a [.Is] [b] pos) (eBin oIsN ca cb) := ce_cmp op_isN (fun _ => op2_isN) ha hb (nomark b)
theorem ce_notN (ha : CE X C W a ca) (hb : CE X C W b cb) : CE X C W (.Compare a [.IsNot] [b] pos) (eBin oNotN ca cb) := ce_cmp op_notN (fun _ => op2_notN) ha hb (nomark b)
theorem ct_lt (ha : CE X C W a ca) (hb : CE X C W b cb) : CT X C W (.Compare a [.Lt] [b] pos) (tOf (eBin oLt ca cb)) := ct_cmp op_ltA (fun _ => op2_lt) ha hb (nomark b)
theorem ct_le (ha : CE X C W a ca) (hb : CE X C W b cb) : CT X C W (.Compare a [.LtE] [b] pos) (tOf (eBin oLe ca cb)) := ct_cmp op_leA (fun _ => op2_le) ha hb (nomark b)
theorem ct_gt (ha : CE X C W a ca) (hb : CE X C W b cb) : CT X C W (.Compare a [.Gt] [b] pos) (tOf (eBin oGt ca cb)) := ct_cmp op_gtA (fun _ => op2_gt) ha hb (nomark b)
theorem ct_ge (ha : CE X C W a ca) (hb : CE X C W b cb) : CT X C W (.Compare a [.GtE] [b] pos) (tOf (eBin oGe ca cb)) := ct_cmp op_geA (fun _ => op2_ge) ha hb (nomark b)
theorem ct_eq (hr : Room k X.A) (ha : CE X C W a ca) (hb : CE X C W b cb) : CT X C W (.Compare a [.Eq] [b] pos) (tOf (eBin oEq ca cb)) := ct_cmp (op_eqA hr.units) (fun h => by rw [← h]; exact op2_eq) ha hb (nomark b)
theorem ct_ne (hr : Room k X.A) (ha : CE X C W a ca) (hb : CE X C W b cb) : CT X C W (.Compare a [.NotEq] [b] pos) (tOf (eBin oNe ca cb)) := ct_cmp (op_neA hr.units) (fun h => by rw [← h]; exact op2_ne) ha hb (nomark b)
theorem ct_in (hr : Room k X.A) (ha : CE X C W a ca) (hb : CE X C W b cb) (hm : behindInMarks .In b = false := by rfl) : CT X C W (.Compare a [.In] [b] pos) (tOf (eBin oIn ca cb)) := ct_cmp (op_inA (hu_of hr)) (fun h => by rw [← h]; exact op2_in) ha hb hm
theorem ct_notIn (hr : Room k X.A) (ha : CE X C W a ca) (hb : CE X C W b cb) (hm : behindInMarks .NotIn b = false := by rfl) : CT X C W (.Compare a [.NotIn] [b] pos) (tOf (eBin oNotIn ca cb)) := ct_cmp (op_notInA (hu_of hr)) (fun h => by rw [← h]; exact op2_notIn) ha hb hm
theorem ct_isN (ha : CE X C W a ca) (hb : CE X C W b cb) : CT X C W (.Compare a [.Is] [b] pos) (tOf (eBin oIsN ca cb)) := ct_cmp op_isN (fun _ => op2_isN) ha hb (nomark b)
theorem ct_notN (ha : CE X C W a ca) (hb : CE X C W b cb) : CT X C W (.Compare a [.IsNot] [b] pos) (tOf (eBin oNotN ca cb)) := ct_cmp op_notN (fun _ => op2_notN) ha hb (nomark b)
theorem ce_leLe (ha : CE X C W a ca) (hb : CE X C W b cb) (hc : CE X C W c cc) (hm : lastMarks [.LtE, .LtE] [b, c] = false := by with_unfolding_all rfl) : CE X C W (.Compare a [.LtE, .LtE] [b, c] pos) (eChain oLe oLe ca cb cc) := ce_chain op_leA op_leA op2_le op2_le ha hb hc hm
theorem ce_leLt (ha : CE X C W a ca) (hb : CE X C W b cb) (hc : CE X C W c cc) (hm : lastMarks [.LtE, .Lt] [b, c] = false := by with_unfolding_all rfl) : CE X C W (.Compare a [.LtE, .Lt] [b, c] pos) (eChain oLe oLt ca cb cc) := ce_chain op_leA op_ltA op2_le op2_lt ha hb hc hm
theorem ce_ltLe (ha : CE X C W a ca) (hb : CE X C W b cb) (hc : CE X C W c cc) (hm : lastMarks [.Lt, .LtE] [b, c] = false := by with_unfolding_all rfl) : CE X C W (.Compare a [.Lt, .LtE] [b, c] pos) (eChain oLt oLe ca cb cc) := ce_chain op_ltA op_leA op2_lt op2_le ha hb hc hm
theorem ct_leLe (ha : CE X C W a ca) (hb : CE X C W b cb) (hc : CE X C W c cc) (hm : lastMarks [.LtE, .LtE] [b, c] = false := by with_unfolding_all rfl) : CT X C W (.Compare a [.LtE, .LtE] [b, c] pos) (tOf (eChain oLe oLe ca cb cc)) := ct_chain op_leA op_leA op2_le op2_le ha hb hc hm
theorem ct_leLt (ha : CE X C W a ca) (hb : CE X C W b cb) (hc : CE X C W c cc) (hm : lastMarks [.LtE, .Lt] [b, c] = false := by with_unfolding_all rfl) : CT X C W (.Compare a [.LtE, .Lt] [b, c] pos) (tOf (eChain oLe oLt ca cb cc)) := ct_chain op_leA op_ltA op2_le op2_lt ha hb hc hm
theorem ct_ltLe (ha : CE X C W a ca) (hb : CE X C W b cb) (hc : CE X C W c cc) (hm : lastMarks [.Lt, .LtE] [b, c] = false := by with_unfolding_all rfl) : CT X C W (.Compare a [.Lt, .LtE] [b, c] pos) (tOf (eChain oLt oLe ca cb cc)) := ct_chain op_ltA op_leA op2_lt op2_le ha hb hc hm
theorem ce_ixr (hr : Room k X.A) (ha : CE X C W a ca) (hb : CE X C W b cb) (hs : PlainIx b := by exact fun _ _ => rfl) : CE X C W (.Subscript a b pos) (eBin oIx ca cb) := ce_ix (hu_of hr) ha hb hs
end
section
variable {X : Cx} {C : Cn} {W : WX} {pos p : Pos} {e : Expr} {es : List Expr} {c : EC} {A : EA}
theorem boot_len' : bootBuiltins "len" = some (.builtin "len") := PySem.boot_len
theorem ce_len (hm : X.mg "len" = none) (ha : CA X C W [e] A) (hg : Gl X "len" := by rfl) (he : starEach [e] X.env = (false, eval e X.env) :: starEach [] X.env := by rfl) (hpl : (backTo pos (starEach [] X.env)).any (·.1) = false := by rfl) : CE X C W (.Call (.Name "len" p) [e] [] pos) (eB1 bLen A) :=
  ce_bi (r := rLenA X.K) call_len (fun h => by rw [← h]; exact opn_len) hm PySem.boot_len ha hg (by decide) (by decide) he hpl
theorem ce_ord (hm : X.mg "ord" = none) (ha : CA X C W [e] A) (hg : Gl X "ord" := by rfl) (he : starEach [e] X.env = (false, eval e X.env) :: starEach [] X.env := by rfl) (hpl : (backTo pos (starEach [] X.env)).any (·.1) = false := by rfl) : CE X C W (.Call (.Name "ord" p) [e] [] pos) (eB1 bOrd A) :=
  ce_bi call_ord (fun _ => opn_ord) hm (by decide +kernel) ha hg (by decide) (by decide) he hpl
theorem ce_all (hc : X.calm = true) (hm : X.mg "all" = none) (ha : CA X C W [e] A) (hg : Gl X "all" := by rfl) (he : starEach [e] X.env = (false, eval e X.env) :: starEach [] X.env := by rfl) (hpl : (backTo pos (starEach [] X.env)).any (·.1) = false := by rfl) : CE X C W (.Call (.Name "all" p) [e] [] pos) (eB1 bAll A) :=
  ce_bi (cr_all hc) (fun h => by rw [← h]; exact opn_all) hm (by decide +kernel) ha hg (by decide) (by decide) he hpl
theorem ce_list (nw : Bool) (hm : X.mg "list" = none) (ha : CA X C W [e] A) (hg : Gl X "list" := by rfl) (he : starEach [e] X.env = (false, eval e X.env) :: starEach [] X.env := by rfl) (hpl : (backTo pos (starEach [] X.env)).any (·.1) = false := by rfl) : CE X C W (.Call (.Name "list" p) [e] [] pos) (eB1 (bList nw) A) :=
  ce_ty (r := rListA X.K) call_list_of (fun h => by rw [← h]; exact opn_list nw) hm (by decide +kernel) ha hg (by decide) (by decide) he hpl
theorem ce_intb (hm : X.mg "int" = none) (ha : CA X C W [e] A) (hg : Gl X "int" := by rfl) (he : starEach [e] X.env = (false, eval e X.env) :: starEach [] X.env := by rfl) (hpl : (backTo pos (starEach [] X.env)).any (·.1) = false := by rfl) : CE X C W (.Call (.Name "int" p) [e] [] pos) (eB1 bInt A) :=
  ce_ty call_int1 (fun _ => opn_int) hm (by decide +kernel) ha hg (by decide) (by decide) he hpl
end
section
variable {X : Cx} {C : Cn} {W : WX} {o e : Expr} {co ce : EC} {apos cpos : Pos}
theorem ce_append (ho : CE X C W o co) (he : CE X C W e ce) (hbase : attributeBase o "append" X.env (eval o X.env) = eval o X.env := by rfl)
    (hfew : ((backTo cpos (starEach [e] X.env)).all (fun x => !x.1) && (backToKw cpos (keywordEach [] X.env)).all (fun x => x.1.isSome)
      && decide (([e] : List Expr).length + ([] : List Keyword).length + (if ([] : List Keyword).isEmpty then 0 else 1) < 30)) = true := by rfl)
    (hline : (apos.endLine == cpos.line) = true := by rfl) (hst : starEach [e] X.env = (false, eval e X.env) :: starEach [] X.env := by rfl) (hplain : (backTo cpos (starEach [] X.env)).any (·.1) = false := by rfl) :
    CE X C W (.Call (.Attribute o "append" apos) [e] [] cpos) (eML mAppend co (aCons ce aNil)) := ce_ml PySem.F.slot_list_append PySem.F.type_list_append mt_append (fun _ => opm_append) ho (ca_cons he ca_nil hst) hbase hfew hline hst hplain
theorem ce_extend (ho : CE X C W o co) (he : CE X C W e ce) (hbase : attributeBase o "extend" X.env (eval o X.env) = eval o X.env := by rfl)
    (hfew : ((backTo cpos (starEach [e] X.env)).all (fun x => !x.1) && (backToKw cpos (keywordEach [] X.env)).all (fun x => x.1.isSome)
      && decide (([e] : List Expr).length + ([] : List Keyword).length + (if ([] : List Keyword).isEmpty then 0 else 1) < 30)) = true := by rfl)
    (hline : (apos.endLine == cpos.line) = true := by rfl) (hst : starEach [e] X.env = (false, eval e X.env) :: starEach [] X.env := by rfl) (hplain : (backTo cpos (starEach [] X.env)).any (·.1) = false := by rfl) :
    CE X C W (.Call (.Attribute o "extend" apos) [e] [] cpos) (eML mExtend co (aCons ce aNil)) := ce_ml PySem.F.slot_list_extend PySem.F.type_list_extend mt_extend (fun _ => opm_extend) ho (ca_cons he ca_nil hst) hbase hfew hline hst hplain
theorem ce_index (ho : CE X C W o co) (he : CE X C W e ce) (hbase : attributeBase o "index" X.env (eval o X.env) = eval o X.env := by rfl)
    (hfew : ((backTo cpos (starEach [e] X.env)).all (fun x => !x.1) && (backToKw cpos (keywordEach [] X.env)).all (fun x => x.1.isSome)
      && decide (([e] : List Expr).length + ([] : List Keyword).length + (if ([] : List Keyword).isEmpty then 0 else 1) < 30)) = true := by rfl)
    (hline : (apos.endLine == cpos.line) = true := by rfl) (hst : starEach [e] X.env = (false, eval e X.env) :: starEach [] X.env := by rfl) (hplain : (backTo cpos (starEach [] X.env)).any (·.1) = false := by rfl) :
    CE X C W (.Call (.Attribute o "index" apos) [e] [] cpos) (eML mIndex co (aCons ce aNil)) := ce_ml PySem.F.slot_list_index PySem.F.type_list_index mt_index (fun h => by rw [← h]; exact opm_index) ho (ca_cons he ca_nil hst) hbase hfew hline hst hplain
theorem ce_join (ho : CE X C W o co) (he : CE X C W e ce) (hst : starEach [e] X.env = [(false, eval e X.env)] := by rfl) (hbase : attributeBase o "join" X.env (eval o X.env) = eval o X.env := by rfl) (hline : (apos.endLine == cpos.line) = true := by rfl) :
    CE X C W (.Call (.Attribute o "join" apos) [e] [] cpos) (eMS mJoin co (aCons ce aNil)) := ce_ms PySem.F.slot_str_join PySem.F.type_str_join mt_join (fun h => by rw [← h]; exact opm_join) ho he hst hbase hline
end
end Lt

set_option Elab.async false
set_option linter.all false
set_option maxRecDepth 100000
/-! C11: an exception that is caught under a name and held. -/
namespace Lt
open PySem PySem.Spec PyProof.Rows L2
section
variable {X : Cx} {pins : List (Addr × Obj)} {σ : L2.St} {H : Hp} {s : Shared}
/-- an object that came into being since the entry may be tracked from now on -/
theorem track {a : Addr} {φ : Heap → Prop} (I : Inv X pins σ H s) (hn : H a = none) (h0 : X.s_0.heap.get? a = none) (hp : ∀ p ∈ X.pn ++ pins, p.1 ≠ a) (hL : a ≠ X.env.locals) (hc : ∀ x c, X.env.cells.lookup x = some c → c ≠ a)
    (new : ObjOk X.prog X.w (upd H a (.ext φ)) s.heap a (.ext φ)) : Inv X pins σ (upd H a (.ext φ)) s where
  ok := I.ok
  os := I.os
  bare := I.bare
  base := ⟨I.base.keep, I.base.slot, fun b o e n q => by
      rw [upd_ne (fun z => by rw [z, h0] at e; cases e)]
      exact I.base.free b o e n q, I.base.there, fun b xs e => by
      have z := I.base.tups b xs e
      rw [upd_ne (ne_of_none z hn)]; exact z, fun b o u e => by
      have z := I.base.frzs b o u e
      rw [upd_ne (ne_of_none z hn)]; exact z, fun b ps e => by
      obtain ⟨m, z⟩ := I.base.tbls b ps e
      exact ⟨m, by rw [upd_ne (ne_of_none z hn)]; exact z⟩⟩
  loc := I.loc
  cell := I.cell
  free := by rw [upd_ne (Ne.symm hL)]; exact I.free
  freeC := fun x c e => by rw [upd_ne (hc x c e)]; exact I.freeC x c e
  pin := fun p hq => by
    obtain ⟨e, n, r⟩ := I.pin p hq
    exact ⟨e, by rw [upd_ne (hp p hq)]; exact n, r⟩
  hok := I.hok.laidN (fun _ _ z => z) hn new
  len := I.len
end
/-- what the clause that holds its exception (slot i its name's, slot j where it is held) wishes of the body's exceptions -/
def wHeld (K : PySem.W.Frag) (c : Value) (i j : Nat) (Wout : WX) (D : Ends) : WX := fun cls d σ H =>
  ∃ b, PySem.W.exmOne K cls c = some b ∧ (b = true → d = none ∧ ∀ a, H a = none → D.nx (((σ.set i (some (.ref a))).set j (some (.ref a))).set i none) (upd H a (ExV cls a))) ∧ (b = false → Wout cls d σ H)
section
variable {X : Cx} {x n y : Str} {c : Value} {i j : Nat} {body : List Stmt} {np pos pos' py pn' ap : Pos} {tb : WX → TS} {Wout : WX}
theorem ps_try_held (hs : X.stack = X.env :: X.outer) (hf : X.env.frame = some X.env.locals) (hx : X.ex = []) (hN : X.N.Nodup) (hi : X.N[i]? = some n) (hln : X.env.kindOf n = some .local) (hc : Names X x c) (tk : Takes X Wout)
    (hb : ∀ (W : WX) (pn : List (Addr × Obj)) (xe : Value → Shared → Prop), Takes (X.tr pn xe) W → PassesOwn (model X.prog X.w) X.A X.env xe → PSs (X.tr pn xe) body (tb W))
    (hst : ∀ (a : Addr) (oe : Obj) (pn : List (Addr × Obj)), PS (X.suite a ((a, oe) :: pn)) (.Assign [.Name y py] (.Name n pn') ap) (fun D σ H => σ[i]? = some (some (.ref a)) ∧ D.nx (σ.set j (some (.ref a))) H)) (hij : ∀ σ : L2.St, σ.length = X.N.length → i < σ.length) :
    PS X (.Try body [.ExceptHandler (some (.Name x np)) (some n) [.Assign [.Name y py] (.Name n pn') ap] pos'] [] [] pos) (fun D σ H => tb (wHeld X.K c i j Wout D) D σ H) := by
  refine ⟨fun pins s σ H D I h => ?_⟩
  have ok := I.ok
  have hfr : X.A.frames = some (X.env :: X.outer) := by rw [ok.frames, hs]
  have hloc : Loc X.env.scope n := .inl hln
  refine wpAny_Try_except ?_
  refine wpAny_mono ((hb (wHeld X.K c i j Wout D) (X.pn ++ pins) (fun e s₁ => wpAny (model X.prog X.w) X.A (noteFrame e X.env) (fun _ s₂ => wpAny (model X.prog X.w) X.A (setFlight e none) (fun _ s₃ =>
    wpAny (model X.prog X.w) X.A (handleBy e X.env [.ExceptHandler (some (.Name x np)) (some n) [.Assign [.Name y py] (.Name n pn') ap] pos']) (SP X pins D) X.xe s₃) X.xe s₂) X.xe s₁) (fun u s' xx => ?caught) PassesOwn.looking).run [] s σ H D (I.toTry _) h) (fun f s1 hsp => ?ran) (fun e s1 he => he)
  case ran =>
    cases f with
    | next =>
      obtain ⟨σ', H', J', q⟩ := hsp
      exact wpAny_execs_nil ⟨σ', H', J'.ofTry ok, q⟩
    | brk =>
      obtain ⟨σ', H', J', q⟩ := hsp
      exact ⟨σ', H', J'.ofTry ok, q⟩
    | cont =>
      obtain ⟨σ', H', J', q⟩ := hsp
      exact ⟨σ', H', J'.ofTry ok, q⟩
    | ret u =>
      obtain ⟨v, σ', H', J', r, q⟩ := hsp
      exact ⟨v, σ', H', J'.ofTry ok, r, q⟩
  case caught =>
    obtain ⟨a, B, sI, pins', σ', H', cls, d, rfl, J', nb, up, sky, na, os, ag, b, hb1, hyes, hno⟩ := xx
    have J : Inv X pins σ' H' sI := J'.ofTry ok
    rw [hs] at sky
    show wpAny _ X.A (noteFrame (.ref a) X.env) _ _ _
    refine Sky.land Zc.steady hfr hf sky fun h3 fl3 up3 => ?_
    have J3 : Inv X pins σ' H' { s' with heap := h3 } := J.landed nb fl3.1 (up.trans up3) os ag
    obtain ⟨oe3, vs3, he3, hz3, hd3⟩ := fl3.there
    have nfr : a ∉ frs (X.env :: X.outer) := fun hm => by
      obtain ⟨_, o', e', hnf⟩ := fl3.2.2.1.mem hm
      rw [he3] at e'; cases e'
      exact hnf _ hd3
    have nL : a ≠ X.env.locals := fun z => nfr (List.mem_filterMap.mpr ⟨X.env, List.mem_cons_self, by rw [hf, z]⟩)
    have nF : a ∉ X.fs := fun hm => by
      obtain ⟨e, he, q⟩ := List.mem_filterMap.mp hm
      exact nfr (List.mem_filterMap.mpr ⟨e, List.mem_cons_of_mem _ he, q⟩)
    -- it is new since the entry
    have nI : sI.heap.get? a = none := by
      cases e : sI.heap.get? a with
      | none => rfl
      | some o =>
        have := nb a o e (by rw [hs]; exact nfr)
        rw [fl3.2.1] at this; cases this
    have n0 : X.s_0.heap.get? a = none := by
      cases e : X.s_0.heap.get? a with
      | none => rfl
      | some o =>
        obtain ⟨o', q⟩ := J.base.there a o e (by rw [hx]; exact fun z => nomatch z)
        rw [nI] at q; cases q
    have np' : ∀ p ∈ X.pn ++ pins, p.1 ≠ a := fun p hp z => by
      have := (J.pin p hp).1
      rw [z, nI] at this; cases this
    have S3 := J3.suite he3 hd3 na nL nF
    refine wpAny_handleBy_cons (codeAny_handlers_test ?_) (by intro q; cases q)
    have LT : PySem.W.Looks (model X.prog X.w) h3 (typeOf (.ref a)) cls := fun A Q E s k q => wpAny_typeOf_ref (k _ _ he3) (by rw [hz3.1]; exact q)
    have LM := PySem.W.exm_one (M := model X.prog X.w) (J3.kIn) LT hb1
    have test : ∀ {Q : Value → Shared → Prop} {E : Value → Shared → Prop}, Q c { s' with heap := h3 } → wpAny (model X.prog X.w) (X.A.mark (some (.ref a))) (eval (.Name x np) X.env) Q E { s' with heap := h3 } := fun {Q E} q => by
      obtain ⟨hg, hdbg, hm | ⟨hm, hv, hnn⟩⟩ := hc
      · exact ld_glob (X := X.suite a ((a, oe3) :: (X.pn ++ pins))) S3 hg hm q hdbg
      · exact ld_blt (X := X.suite a ((a, oe3) :: (X.pn ++ pins))) S3 hg hm hv q hnn hdbg
    refine test (LM.here ?_)
    cases b with
    | true =>
      obtain ⟨hd0, hy⟩ := hyes rfl
      subst hd0
      refine codeAny_handlers_suite_as ?_
      refine HandSPX.lands_againZ fl3 fun h4 fl4 up4 => ?_
      have J4 : Inv X pins σ' H' { s' with heap := h4 } := J.landed nb fl4.1 ((up.trans up3).trans up4) os ag
      obtain ⟨oe4, vs4, he4, hz4, hd4⟩ := fl4.there
      have S4 := J4.suite he4 hd4 na nL nF
      refine store_ok (X := X.suite a ((a, oe4) :: (X.pn ++ pins))) (v := .ref a) S4 hN hi hloc rfl (fun s5 S5 => ?_) (.inr hln)
      refine wpAny_mono (((pss_one (hst a oe4 (X.pn ++ pins))).run [] s5 _ H' { nx := fun σ6 H6 => H6 = H' ∧ σ6 = (σ'.set i (some (.ref a))).set j (some (.ref a)), rt := fun _ _ => False, bk := fun _ _ => False, ct := fun _ _ => False } S5 ⟨by rw [List.getElem?_set_self (hij _ J.len)], rfl, rfl⟩)) (fun f s6 hsp => ?_) (fun _ _ z => False.elim z)
      cases f with
      | next =>
        obtain ⟨σ6, H6, S6, rfl, rfl⟩ := hsp
        have hget : s6.heap.get? a = some oe4 := (S6.pin (a, oe4) (List.mem_append.mpr (.inl List.mem_cons_self))).1
        have J6 : Inv X pins ((σ'.set i (some (.ref a))).set j (some (.ref a))) H6 s6 := S6.unsuite ok
        have ncell : ∀ x c, X.env.cells.lookup x = some c → c ≠ a := fun x c e z => by
          obtain ⟨v, o, ho, hd⟩ := J6.cell x c e
          rw [z, hget] at ho; cases ho
          rw [hd4] at hd; cases hd
        have J7 := track (φ := fun h => ∃ (oe : Obj) (vs : Array Value), h.get? a = some oe ∧ Zc cls none oe ∧ oe.data = .fields vs) J6 na n0 np' nL ncell
          ⟨⟨oe4, vs4, hget, hz4, hd4⟩, ⟨oe4, hget⟩, fun _ _ ⟨o, v, q, r⟩ k => ⟨o, v, k o q, r⟩⟩
        exact gone_ok J7 hN hi hln fun s7 J8 => ⟨_, _, J8, hy a na⟩
      | brk =>
        obtain ⟨σ6, H6, S6, z⟩ := hsp
        exact z.elim
      | cont =>
        obtain ⟨σ6, H6, S6, z⟩ := hsp
        exact z.elim
      | ret u =>
        obtain ⟨v6, σ6, H6, S6, r6, z⟩ := hsp
        exact z.elim
    | false =>
      show wpAny _ X.A (handleBy (.ref a) X.env []) _ _ _
      refine wpAny_handleBy_nil ?_
      obtain ⟨k1, k2, k3, oe, vs, T, oT, ts', he, hz, hd, h1, hr⟩ := id fl3
      unfold PySem.passOn
      refine wpAny_bind (wpAny_field he hd h1 ?_)
      rw [if_neg (show ¬ ((Value.ref T == Value.none) = true) from by simp)]
      have fin : wpAny (model X.prog X.w) X.A (setFlight (.ref a) X.env.frame) (fun _ s4 => wpAny (model X.prog X.w) X.A (throw (.ref a) : Sem Flow) (SP X pins D) X.xe s4) X.xe { s' with heap := h3 } := by
        rw [hf]
        refine HandSPX.setFlight_upZ fl3 fun h4 hh4 up4 => wpAny_throw (tk _ _ ?_)
        exact ⟨a, B, sI, pins, σ', H', cls, d, rfl, J, nb, (up.trans up3).trans up4, .inr (.inr (by rw [hs]; exact hh4)), na, os, ag, hno rfl⟩
      first
        | exact wpAny_bind (wpAny_pure (wpAny_bind fin))
        | exact wpAny_bind fin
end
/-! ### as a statement of the monad -/
def sTryAs (ps : List Ecl) (mt : Ecl → Bool) (i j : Nat) (b : SC) : SC := fun ev m => match b ev m with
  | .exc c ev' m' => if c ∈ ps then (if mt c = true then .nx (((ev'.set i (some (.exc c))).set j (some (.exc c))).set i none) m' else .exc c ev' m') else .stk
  | r => r
section
variable {X : Cx} {C : Cn} {W : WX} {pos : Pos}
theorem cs_try_as (i j : Nat) {x n y : Str} {cv : Value} {np pos' py pn' ap : Pos} {body : List Stmt} {ps : List Ecl} {mt : Ecl → Bool} {b : SC} (hs : X.stack = X.env :: X.outer) (hf : X.env.frame = some X.env.locals) (hx0 : X.ex = []) (hN : X.N.Nodup) (hn : Names X x cv) (tk : Takes X W)
    (hx : ∀ c ∈ ps, PySem.W.exmOne X.K (.ref (C.eA c)) cv = some (mt c))
    (hb : ∀ (W : WX) (pn : List (Addr × Obj)) (xe : Value → Shared → Prop), Takes (X.tr pn xe) W → PassesOwn (model X.prog X.w) X.A X.env xe → CSs (X.tr pn xe) C W body b)
    (hi : X.N[i]? = some n := by rfl) (hln : X.env.kindOf n = some .local := by rfl) (hj : X.N[j]? = some y := by rfl) (hly : X.env.kindOf y = some .local := by rfl) (hnd : (n == ("__debug__" : Str)) = false := by decide) (hncd : (n == ("__classdict__" : Str)) = false := by decide)
    (hsw : ∀ (a : Addr) (pn : List (Addr × Obj)), swapsWith (.Name n pn') (some (.Name y py)) ap.line (X.suite a pn).env = pure false := by intro _ _; rfl) (hfn : X.fn y = true ∨ X.env.scope.names.lookup y = some .local := by first | exact .inl rfl | exact .inr rfl) :
    CS X C W (.Try body [.ExceptHandler (some (.Name x np)) (some n) [.Assign [.Name y py] (.Name n pn') ap] pos'] [] [] pos) (sTryAs ps mt i j b) := fun hK =>
  ps_imp (ps_try_held (i := i) (j := j) (tb := fun W => TSx C W b) hs hf hx0 hN hi hln hn tk (fun W pn xe t p => hb W pn xe t p hK)
    (fun a oe pn => ps_imp (ps_set (X := X.suite a ((a, oe) :: pn)) (i := j) hN hj (.inl hly) (pe_var hi (.inl hln) hnd hncd) (hsw a _) hfn) fun D σ H ⟨e, h⟩ => ⟨_, e, h⟩)
    (fun σ hl => by rw [hl]; exact (List.getElem?_eq_some_iff.mp hi).1)) fun D σ H ⟨S, m, ev, R, E, h⟩ => ⟨S, m, ev, R, E, by
    unfold sTryAs at h
    cases e : b ev m with
    | nx ev' m' => rw [e] at h; exact h
    | ret d m' => rw [e] at h; exact h
    | brk ev' m' => rw [e] at h; exact h
    | ct ev' m' => rw [e] at h; exact h
    | stk => rw [e] at h; exact h
    | exc c ev' m' =>
      rw [e] at h
      dsimp only at h
      by_cases hc : c ∈ ps
      · rw [if_pos hc] at h
        intro S' H' σ' g R' E'
        refine ⟨mt c, by rw [← hK] at hx; rw [← hK]; exact hx c hc, fun hm => ⟨rfl, fun a ha => ?_⟩, fun hm => ?_⟩
        · rw [if_pos hm] at h
          obtain ⟨R2, g2⟩ := R'.imm (u := ExV (.ref (C.eA c)) a) ha
          have iv : IsV C (S'.put a .imm) (upd H' a (ExV (.ref (C.eA c)) a)) (.ref a) (.exc c) := .exc c Wd.put_same upd_same
          exact h _ _ _ (g.trans g2) R2 ((((E'.mono g2).set i iv).set j iv).none i)
        · rw [if_neg (by rw [hm]; exact Bool.false_ne_true)] at h
          exact h S' H' σ' g R' E'
      · rw [if_neg hc] at h
        exact h.elim⟩
end
/-! ### isinstance of what is held -/
/-- isinstance(e, class): f tells by the class of e -/
def eIsi (f : Ecl → Bool) (e : EC) : EC := fun ev => bnd (e ev) fun x => match x with
  | .exc c => pur (.bl (f c))
  | _ => stuck
def isiE : Option Ecl → Ecl → Bool
  | none, _ => true
  | some c', c => decide (c = c')
structure IsiC (K : PySem.W.Frag) (C : Cn) (cv : Value) (f : Ecl → Bool) : Prop where
  ok : ∀ c, ExcC K (C.eA c) ∧ PySem.W.kitOne K (.ref (C.eA c)) cv = some (f c)
section
variable {X : Cx} {C : Cn} {W : WX} {pos : Pos}
def rIsH (K : PySem.W.Frag) : List V → Hp → VK → Prop := fun xs H Q => ∃ (a D : Addr) (c : V) (cv : Value) (b : Bool), xs = [.ref a, c] ∧ H a = some (ExV (.ref D) a) ∧ ExcC K D ∧ (∀ u, RelV c u → u = cv) ∧ PySem.W.kitOne K (.ref D) cv = some b ∧ Q (.bl b) H
theorem call_isH : CallR X (.builtin "isinstance") (rIsH X.K) := by
  intro pins s σ H xs us Q I r h
  obtain ⟨a, D, c, cv, b, rfl, hH, EC', hcv, e, q⟩ := h
  cases r with
  | cons rx rr =>
    cases rr with
    | cons rt rr =>
      cases rr
      cases rx
      have ec := hcv _ rt
      subst ec
      obtain ⟨oe, vs, hget, hz, hv⟩ := (show ObjOk X.prog X.w H s.heap a (ExV (.ref D) a) from I.hok a _ hH).1
      have J : PySem.W.InstAt s.heap a oe D none := by
        obtain ⟨oc, od, oda, osl⟩ := oe
        obtain ⟨h1, h2⟩ := hz
        dsimp only at h1 h2 hv
        subst h1 h2 hv
        exact ⟨hget, rfl, rfl, trivial⟩
      exact PySem.W.kia_one (PySem.W.handS_kitx_exc EC'.hg EC'.hk EC'.hs EC'.hd EC'.ha EC'.hn EC'.ht EC'.hm) I.kIn J e (fun z => nomatch z) fun tk => ⟨.bl b, H, I.kept (t' := tk) fun _ _ z => z, rfl, q⟩
theorem ce_isi {e ce : Expr} {c : EC} {v : V} {cv : Value} {f : Ecl → Bool} {p : Pos} (G : IsiC X.K C cv f) (hm : X.mg "isinstance" = none) (he : CE X C W e c) (hc : PE X ce (tC v)) (hv : ∀ u, RelV v u → u = cv) (hg : Gl X "isinstance" := by rfl)
    (hs : starEach [e, ce] X.env = (false, eval e X.env) :: starEach [ce] X.env := by rfl) (hs2 : starEach [ce] X.env = (false, eval ce X.env) :: starEach [] X.env := by rfl) (hpl : (backTo pos (starEach [ce] X.env)).any (·.1) = false := by rfl) :
    CE X C W (.Call (.Name "isinstance" p) [e, ce] [] pos) (eIsi f c) := fun hK =>
  pe_imp (pe_callB call_isH hg hm (by decide +kernel) (pa_cons (he hK) (pa_cons hc pa_nil hs2) hs) (by decide) (by decide) hs hpl) fun σ H Q ⟨S, m, ev, R, E, h⟩ => ⟨S, m, ev, R, E, (PostG.bnd h).imp fun x H1 ⟨S1, m1, d, g1, R1, i1, h1⟩ => by
    cases i1 with
    | exc c o e =>
      obtain ⟨q1, q2⟩ := G.ok c
      exact ⟨_, _, v, cv, f c, rfl, e, q1, hv, q2, h1 S1 H1 _ .refl R1 (.bl _)⟩
    | _ => exact h1.elim⟩
/-- .. an own class -/
theorem ce_isiO {e : Expr} {x : Str} {c : EC} {a : Addr} {f : Ecl → Bool} {p px : Pos} (G : IsiC X.K C (.ref a) f) (hm : X.mg "isinstance" = none) (hx : X.mg x = some (.ref a)) (he : CE X C W e c) (hgx : Gl X x := by rfl) (hdx : (x == ("__debug__" : Str)) = false := by decide) (hg : Gl X "isinstance" := by rfl)
    (hs : starEach [e, .Name x px] X.env = (false, eval e X.env) :: starEach [.Name x px] X.env := by rfl) (hs2 : starEach [.Name x px] X.env = (false, eval (.Name x px) X.env) :: starEach [] X.env := by rfl) (hpl : (backTo pos (starEach [.Name x px] X.env)).any (·.1) = false := by rfl) :
    CE X C W (.Call (.Name "isinstance" p) [e, .Name x px] [] pos) (eIsi f c) := ce_isi (v := .ref a) G hm he (pe_glob hgx hx rfl hdx) (fun _ h => h) hg hs hs2 hpl
/-- .. ValueError -/
theorem ce_isiV {e : Expr} {c : EC} {f : Ecl → Bool} {p px : Pos} (G : IsiC X.K C (.type "ValueError") f) (hm : X.mg "isinstance" = none) (hx : X.mg "ValueError" = none) (he : CE X C W e c) (hgx : Gl X "ValueError" := by rfl) (hg : Gl X "isinstance" := by rfl)
    (hs : starEach [e, .Name "ValueError" px] X.env = (false, eval e X.env) :: starEach [.Name "ValueError" px] X.env := by rfl) (hs2 : starEach [.Name "ValueError" px] X.env = (false, eval (.Name "ValueError" px) X.env) :: starEach [] X.env := by rfl) (hpl : (backTo pos (starEach [.Name "ValueError" px] X.env)).any (·.1) = false := by rfl) :
    CE X C W (.Call (.Name "isinstance" p) [e, .Name "ValueError" px] [] pos) (eIsi f c) := ce_isi (v := .ty "ValueError") G hm he (pe_bltn hgx hx (by decide +kernel) rfl) (fun _ h => h) hg hs hs2 hpl
def excCB (K : PySem.W.Frag) (D : Addr) : Bool :=
  He.eqO (PySem.W.findIn K (.ref D) "__getattribute__") (some (some (.builtin "BaseException.__getattribute__"))) && (He.eqO (PySem.W.findIn K (.ref D) "__getattr__") (some none) && (decide (PySem.W.subIn K (.ref D) (.type "BaseException") = some true) && (PySem.W.hasDictIn K D &&
  (He.eqO (PySem.W.findIn K (.ref D) "__class__") (some (some (.builtin "object.__class__"))) && (He.eqO (PySem.W.specialIn K (.builtin "object.__class__") "__get__") (some (some (.builtin "getset_descriptor.__get__"))) && (decide (PySem.W.takesIn K (.builtin "object.__class__") = some true) &&
  decide (PySem.W.mroIn K D (.type "object") = some true)))))))
theorem excCB_ok {K : PySem.W.Frag} {D : Addr} (h : excCB K D = true) : ExcC K D := by
  obtain ⟨h1, h⟩ := He.ba h
  obtain ⟨h2, h⟩ := He.ba h
  obtain ⟨h3, h⟩ := He.ba h
  obtain ⟨h4, h⟩ := He.ba h
  obtain ⟨h5, h⟩ := He.ba h
  obtain ⟨h6, h⟩ := He.ba h
  obtain ⟨h7, h8⟩ := He.ba h
  exact ⟨He.eqO_ok h1, He.eqO_ok h2, of_decide_eq_true h3, h4, He.eqO_ok h5, He.eqO_ok h6, of_decide_eq_true h7, of_decide_eq_true h8⟩
def allE : List Ecl := [.row, .file, .size, .old, .ended, .stop]
theorem allE_mem (c : Ecl) : c ∈ allE := by cases c <;> decide
def isiB (K : PySem.W.Frag) : Bool := allE.all fun c => excCB K (He.ga K (eName c)) && (decide (PySem.W.kitOne K (.ref (He.ga K (eName c))) (.type "ValueError") = some true) && allE.all fun d => decide (PySem.W.kitOne K (.ref (He.ga K (eName c))) (.ref (He.ga K (eName d))) = some (decide (c = d))))
theorem isi_own {K : PySem.W.Frag} (h : isiB K = true) (d : Ecl) : IsiC K (cnOf K) (.ref (He.ga K (eName d))) (isiE (some d)) := ⟨fun c => by
  obtain ⟨h1, h2⟩ := He.ba (List.all_eq_true.mp h c (allE_mem c))
  obtain ⟨_, h3⟩ := He.ba h2
  exact ⟨excCB_ok h1, of_decide_eq_true (List.all_eq_true.mp h3 d (allE_mem d))⟩⟩
theorem isi_val {K : PySem.W.Frag} (h : isiB K = true) : IsiC K (cnOf K) (.type "ValueError") (isiE none) := ⟨fun c => by
  obtain ⟨h1, h2⟩ := He.ba (List.all_eq_true.mp h c (allE_mem c))
  obtain ⟨h3, _⟩ := He.ba h2
  exact ⟨excCB_ok h1, of_decide_eq_true h3⟩⟩
/-! ### list.count of bools -/
def mCount (x : D) : List D → M D
  | [.bl k] => fun m => match rdL x m with
    | some xs => match allB xs with
      | some bs => .ok (.int (bs.count k : Nat)) m
      | none => .stk
    | none => .stk
  | _ => stuck
def rCntB (K : PySem.W.Frag) : V → List V → Hp → VK → Prop := fun x xs H Q => ∃ (p : Addr) (ns : List Bool) (k : Bool), x = .ref p ∧ xs = [.bl k] ∧ SqL K H p (ns.map V.bl) ∧ Q (.int (ns.count k : Nat)) H
theorem bools_of : ∀ {bs : List Bool} {us : List Value}, Vals (bs.map V.bl) us → us = bs.map Value.bool
  | [], _, .nil => rfl
  | b :: bs, _, .cons r t => by
    cases r
    rw [bools_of t]
    rfl
theorem mt_countB : MtR X "list.count" (rCntB X.K) := by
  intro pins s σ H x xs v us Q I rx rxs h
  obtain ⟨p, ns, k, rfl, rfl, hs, q⟩ := h
  cases rx
  obtain ⟨u, rfl, ru⟩ := rxs.one
  obtain rfl : u = Value.bool k := ru
  obtain ⟨its, rv, ⟨⟨cls, dd, data, sl⟩, n, ho, hc, hdn, hd⟩, hlen⟩ := I.list hs
  simp only at hc hd
  subst hc hd
  have hi := bools_of rv
  subst hi
  refine call_meets PySem.F.slot_list_count ⟨_, ho, rfl⟩ PySem.F.entry_list_count (PySem.F.args_list_count_2 _ _)
    (SeqAt.list_countAt p (ns.map Value.bool).toArray n dd sl (.bool k) (PyProof.Rows.isBoolOf k)) ⟨ho, fun y hy => ?_, ?_⟩
  · have hy' : y ∈ ns.map Value.bool := by simpa using hy
    obtain ⟨b, _, rfl⟩ := List.mem_map.mp hy'
    exact SeqAt.EqAt.bool_bool b k
  · refine ⟨.int (ns.count k : Nat), H, I.tok _, ⟨s.toks, ?_⟩, q⟩
    have ec : (ns.map Value.bool).countP (PyProof.Rows.isBoolOf k) = ns.count k := by
      rw [List.countP_map]
      rfl
    show Value.int (((ns.map Value.bool).toArray.toList.countP (PyProof.Rows.isBoolOf k) : Nat) : Int) s.toks = _
    rw [show (ns.map Value.bool).toArray.toList = ns.map Value.bool from rfl, ec]
theorem opm_count : OpM C (rCntB C.K) mCount := opm_one (fun y ds n => by match ds, n with | [], _ => rfl | [d], n => exact absurd rfl (n d) | d :: _ :: _, _ => cases d <;> rfl) fun S H m x dx y dy E Q R i iy h => by
  cases iy with
  | bl k =>
    dsimp only [mCount] at h
    cases e1 : rdL dx m with
    | none => simp only [e1] at h; exact h.elim
    | some ys =>
      simp only [e1] at h
      cases e2 : allB ys with
      | none => simp only [e2] at h; exact h.elim
      | some bs =>
        simp only [e2] at h
        obtain ⟨a, vs, rfl, sq, t⟩ := i.rdL R e1
        have ev := allB_is t e2
        subst ev
        exact ⟨a, bs, k, rfl, rfl, sq, h S H _ .refl R (.int _)⟩
  | _ => exact h.elim
theorem ce_count {o e : Expr} {co ce : EC} {apos cpos : Pos} (ho : CE X C W o co) (he : CE X C W e ce) (hbase : attributeBase o "count" X.env (eval o X.env) = eval o X.env := by rfl)
    (hfew : ((backTo cpos (starEach [e] X.env)).all (fun x => !x.1) && (backToKw cpos (keywordEach [] X.env)).all (fun x => x.1.isSome)
      && decide (([e] : List Expr).length + ([] : List Keyword).length + (if ([] : List Keyword).isEmpty then 0 else 1) < 30)) = true := by rfl)
    (hline : (apos.endLine == cpos.line) = true := by rfl) (hst : starEach [e] X.env = (false, eval e X.env) :: starEach [] X.env := by rfl) (hplain : (backTo cpos (starEach [] X.env)).any (·.1) = false := by rfl) :
    CE X C W (.Call (.Attribute o "count" apos) [e] [] cpos) (eML mCount co (aCons ce aNil)) := ce_ml PySem.F.slot_list_count PySem.F.type_list_count mt_countB (fun h => by rw [← h]; exact opm_count) ho (ca_cons he ca_nil hst) hbase hfew hline hst hplain
end
end Lt

set_option Elab.async false
set_option linter.all false
set_option maxRecDepth 100000
/-! C12: instances: their fields, methods, their making. -/
namespace Lt
open PySem PySem.Spec PyProof.Rows L2
/-! ### in the monad -/
def putD (f : Str) (v : D) : List (Str × D) → List (Str × D)
  | [] => [(f, v)]
  | (g, x) :: r => if g = f then (g, v) :: r else (g, x) :: putD f v r
/-- the fields of an instance of a class -/
def rdI (c : Icl) (x : D) (m : Mem) : Option (List (Str × D)) := match x with
  | .ref n => match m[n]? with
    | some (.ins c' fs) => if c' = c then some fs else none
    | _ => none
  | _ => none
instance : DecidableEq Icl := fun a b => by cases a <;> cases b <;> first | exact isTrue rfl | exact isFalse (fun h => nomatch h)
def eFld (c : Icl) (f : Str) (e : EC) : EC := fun ev => bnd (e ev) fun x m => match rdI c x m with
  | some fs => match fs.lookup f with
    | some d => .ok d m
    | none => .stk
  | none => .stk
def sFldS (c : Icl) (f : Str) (o e : EC) : SC := fun ev m => ofE (e ev m) ev fun d m1 => ofE (o ev m1) ev fun x m2 => match x with
  | .ref n => match rdI c (.ref n) m2 with
    | some fs => if fs.length < 1000 then .nx ev (m2.set n (.ins c (putD f d fs))) else .stk
    | none => .stk
  | _ => .stk
/-- o.m(..) -/
def eMe (c : Icl) (f : Str) (mf : List D → M D) (o : EC) (a : EA) : EC := fun ev => bnd (o ev) fun x m => match rdI c x m with
  | some fs => match fs.lookup f with
    | none => bnd (a ev) (fun xs => mf (x :: xs)) m
    | some _ => .stk
  | none => .stk
/-- C(..) -/
def eMake (c : Icl) (mf : List D → M D) (a : EA) : EC := fun ev => bnd (a ev) fun xs m => match mf (.ref m.length :: xs) (m ++ [.ins c []]) with
  | .ok .non m' => .ok (.ref m.length) m'
  | .ok _ _ => .stk
  | .exc e m' => .exc e m'
  | .stk => .stk
theorem rdI_is {C : Cn} {S : Wd} {H : Hp} {m : Mem} {c : Icl} {v : V} {x : D} {fs : List (Str × D)} (R : Rep C S H m) (i : IsV C S H v x) (h : rdI c x m = some fs) : ∃ n a dx fv, x = .ref n ∧ v = .ref a ∧ S.al[n]? = some a ∧ m[n]? = some (.ins c fs) ∧ H a = some (.ins (C.iA c) dx fv) ∧ S.own dx = some (.cell n) ∧ FsOk C S H fv fs := by
  cases i with
  | @ref a n al =>
    unfold rdI at h
    dsimp only at h
    cases q : m[n]? with
    | none => simp only [q] at h; cases h
    | some cl =>
      simp only [q] at h
      cases cl with
      | ins c' fs' =>
        dsimp only at h
        by_cases e : c' = c
        · rw [if_pos e] at h
          cases h
          subst e
          obtain ⟨dx, fv, e1, o, t⟩ := R.ok n a _ al q
          exact ⟨n, a, dx, fv, rfl, rfl, al, q, e1, o, t⟩
        · rw [if_neg e] at h
          cases h
      | _ => cases h
  | _ => cases h
theorem fs_lookup {C : Cn} {S : Wd} {H : Hp} {f : Str} : ∀ {fv : List (Str × V)} {fs : List (Str × D)}, FsOk C S H fv fs → (fv.lookup f = none ∧ fs.lookup f = none) ∨ ∃ v d, fv.lookup f = some v ∧ fs.lookup f = some d ∧ IsV C S H v d
  | [], [], _ => .inl ⟨rfl, rfl⟩
  | (g, v) :: fv, (g', d) :: fs, ⟨n, t⟩ => by
    simp only [List.map_cons, List.cons.injEq] at n
    obtain ⟨rfl, n⟩ := n
    simp only [List.map_cons] at t
    cases t with
    | cons i t =>
      by_cases e : f = g
      · subst e
        exact .inr ⟨v, d, by simp [List.lookup], by simp [List.lookup], i⟩
      · have hb : (f == g) = false := beq_eq_false_iff_ne.mpr e
        simp only [List.lookup, hb]
        exact fs_lookup ⟨n, t⟩
  | [], _ :: _, ⟨n, _⟩ => by simp at n
  | _ :: _, [], ⟨n, _⟩ => by simp at n
theorem fs_put {C : Cn} {S : Wd} {H : Hp} {f : Str} {v : V} {d : D} (i : IsV C S H v d) : ∀ {fv : List (Str × V)} {fs : List (Str × D)}, FsOk C S H fv fs → FsOk C S H (putF f v fv) (putD f d fs)
  | [], [], _ => ⟨rfl, .one i⟩
  | (g, w) :: fv, (g', e) :: fs, ⟨n, t⟩ => by
    simp only [List.map_cons, List.cons.injEq] at n
    obtain ⟨rfl, n⟩ := n
    simp only [List.map_cons] at t
    cases t with
    | cons j t =>
      by_cases h : g = f
      · simp only [putF, putD, if_pos h]
        refine ⟨by simp only [List.map_cons, n], ?_⟩
        simp only [List.map_cons]
        exact .cons i t
      · obtain ⟨q1, q2⟩ := fs_put (f := f) i ⟨n, t⟩
        simp only [putF, putD, if_neg h]
        refine ⟨by simp only [List.map_cons, q1], ?_⟩
        simp only [List.map_cons]
        exact .cons j q2
  | [], _ :: _, ⟨n, _⟩ => by simp at n
  | _ :: _, [], ⟨n, _⟩ => by simp at n
theorem FsOk.mono {C : Cn} {S S1 : Wd} {H H1 : Hp} {fv : List (Str × V)} {fs : List (Str × D)} (g : Grow S H S1 H1) (h : FsOk C S H fv fs) : FsOk C S1 H1 fv fs := ⟨h.1, h.2.mono g⟩
theorem FsOk.len {C : Cn} {S : Wd} {H : Hp} {fv : List (Str × V)} {fs : List (Str × D)} (h : FsOk C S H fv fs) : fv.length = fs.length := by
  have e := congrArg List.length h.1
  simpa using e
section
variable {X : Cx} {C : Cn} {W : WX} {pos : Pos}
theorem ce_fld {c : Icl} {f : Str} {e : Expr} {ce : EC} (cl : Cls X.K (C.iA c)) (na : NoAttr X.K (C.iA c) f) (he : CE X C W e ce) (hb : attributeBase e f X.env (eval e X.env) = eval e X.env := by rfl) : CE X C W (.Attribute e f pos) (eFld c f ce) := fun hK =>
  pe_imp (pe_fld (he hK) hb) fun σ H Q ⟨S, m, ev, R, E, h⟩ => ⟨S, m, ev, R, E, (PostG.bnd h).imp fun x H1 ⟨S1, m1, d, g1, R1, i1, h1⟩ => by
    cases q : rdI c d m1 with
    | none => simp only [q] at h1; exact h1.elim
    | some fs =>
      simp only [q] at h1
      obtain ⟨n, a, dx, fv, rfl, rfl, al, hm, ha, ho, t⟩ := rdI_is R1 i1 q
      rcases fs_lookup (f := f) t with ⟨l1, l2⟩ | ⟨v, d', l1, l2, iv⟩
      · simp only [l2] at h1; exact h1.elim
      · simp only [l2] at h1
        exact ⟨a, _, dx, fv, v, rfl, ha, cl, na, l1, h1 S1 H1 _ .refl R1 iv⟩⟩
theorem Rep.insw {S : Wd} {H : Hp} {m : Mem} {n : Nat} {a dx : Addr} {c : Icl} {fs : List (Str × D)} {fv : List (Str × V)} {f : Str} {v : V} {d : D} (R : Rep C S H m) (al : S.al[n]? = some a) (hm : m[n]? = some (.ins c fs)) (ho : S.own dx = some (.cell n)) (t : FsOk C S H fv fs) (iv : IsV C S H v d) :
    Rep C S (upd H a (.ins (C.iA c) dx (putF f v fv))) (m.set n (.ins c (putD f d fs))) ∧ Grow S H S (upd H a (.ins (C.iA c) dx (putF f v fv))) :=
  R.write al hm trivial fun g => ⟨dx, _, upd_same, ho, (fs_put iv t).mono g⟩
theorem cs_fld {c : Icl} {f : Str} {o e : Expr} {co ce : EC} {pos' : Pos} (cl : Cls X.K (C.iA c)) (na : NoAttr X.K (C.iA c) f) (ho : CE X C W o co) (he : CE X C W e ce) (hs : swapsWith e (some (.Attribute o f pos')) pos.line X.env = pure false := by rfl) : CS X C W (.Assign [.Attribute o f pos'] e pos) (sFldS c f co ce) := fun hK =>
  ps_imp (ps_fld (ho hK) (he hK) hs) fun D σ H ⟨S, m, ev, R, E, h⟩ => ⟨S, m, ev, R, E, (post_of (rel := isV C) E h).imp fun v H1 ⟨S1, m1, d, g1, R1, i1, E1, h1⟩ => ⟨S1, m1, ev, R1, E1, (post_of (rel := isV C) E1 h1).imp fun x H2 ⟨S2, m2, dx, g2, R2, i2, E2, h2⟩ => by
    cases i2 with
    | @ref a n al =>
      dsimp only at h2
      cases q : rdI c (.ref n) m2 with
      | none => simp only [q] at h2; exact h2.elim
      | some fs =>
        simp only [q] at h2
        obtain ⟨n', a', dx, fv, e1, e2, al', hm, ha, ho, t⟩ := rdI_is R2 (.ref al) q
        cases e1
        cases e2
        by_cases l : fs.length < 1000
        · rw [if_pos l] at h2
          obtain ⟨R3, g3⟩ := R2.insw (f := f) al' hm ho t (i1.mono g2)
          exact ⟨a, _, dx, fv, rfl, ha, cl, na, by rw [t.len]; exact l, h2 _ _ _ g3 R3 (E2.mono g3)⟩
        · rw [if_neg l] at h2
          exact h2.elim
    | _ => exact h2.elim⟩⟩
/-! methods -/
/-- a method of a class, by its promise -/
structure MeG (P : Program) (w : World) (K : PySem.W.Frag) (mg : Str → Option Value) (base : Heap) (C : Cn) (c : Icl) (x : Str) (k : Nat) (mf : List D → M D) : Prop where
  ex : ∃ f fd ps, FnOk P w K mg base (L2.CX P w) k f fd ps (SpM C mf) ∧ Meth K (C.iA c) x f ∧ Binds K fd ps []
  cl : Cls K (C.iA c)
def tMethA (C : Addr) (m : Str) (sp : Sp) (E : L2.St → XK) (ta : TE) (t : TA) : TE := fun σ H Q => ta σ H fun x H1 => ∃ a dx fs, x = .ref a ∧ H1 a = some (.ins C dx fs) ∧ fs.lookup m = none ∧ t σ H1 fun vs H2 => sp (x :: vs) H2 Q (E σ)
theorem pe_methA {CX : CXT} {k : Nat} {f A : Addr} {fd : FuncData} {ps : List Str} {sp : Sp} {E : L2.St → XK} {m : Str} {apos : Pos} {e o : Expr} {es : List Expr} {ta : TE} {t : TA} {pl : Sem Bool} (he : PE X o ta) (c : Cls X.K A) (hm : Meth X.K A m f) (F : FnOk X.prog X.w X.K X.mg X.base CX k f fd ps sp) (hr : Room k X.A) (hb : Binds X.K fd ps []) (hx : ∀ σ, PassesAt CX X σ (E σ)) (ha : PA X (e :: es) t)
    (hst : starEach (e :: es) X.env = (false, eval e X.env) :: starEach es X.env := by rfl) (hpl : (backTo pos (starEach es X.env)).any (·.1) = false := by rfl)
    (ht : eval (.Call (.Attribute o m apos) (e :: es) [] pos) X.env = (do
      let ov ← eval o X.env
      standAt apos.atName
      let (f, first) ← holding [ov] (getMethod ov m pl)
      callWith pos f first (backTo pos (starEach (e :: es) X.env)) (backToKw pos (keywordEach [] X.env))) := by rfl) :
    PE X (.Call (.Attribute o m apos) (e :: es) [] pos) (tMethA A m sp E ta t) := by
  refine ⟨fun pins s σ H Q I h => ?_⟩
  refine PySem.W.methodCall_KW (pl := pl) (thn (he.run pins s σ H _ I h) fun u s1 ⟨x, H1, I1, rx, a, dx, fs, ex, ea, l, q⟩ => ?_) ht
  subst ex
  obtain rfl : u = Value.ref a := rx
  refine getmeth_ok I1 ea c hm l ?_
  refine PySem.W.callWith_K (first := [.ref a]) (h₀ := X.base) I.ok.mod.kin hm.kp (thn (ha.run pos pins s1 σ H1 _ I1 q) fun us s2 ⟨vs, H2, I2, r, q2⟩ => ⟨I2.kIn, ?_⟩) hst hpl
  exact run_fnS (us := .ref a :: us) (vs := .ref a :: vs) F hr hb (hx σ) I2 (.cons rfl r) q2
theorem pe_methA0 {CX : CXT} {k : Nat} {f A : Addr} {fd : FuncData} {ps : List Str} {sp : Sp} {E : L2.St → XK} {m : Str} {apos : Pos} {o : Expr} {ta : TE} {pl : Sem Bool} (he : PE X o ta) (c : Cls X.K A) (hm : Meth X.K A m f) (F : FnOk X.prog X.w X.K X.mg X.base CX k f fd ps sp) (hr : Room k X.A) (hb : Binds X.K fd ps []) (hx : ∀ σ, PassesAt CX X σ (E σ))
    (ht : eval (.Call (.Attribute o m apos) [] [] pos) X.env = (do
      let ov ← eval o X.env
      standAt apos.atName
      let (f, first) ← holding [ov] (getMethod ov m pl)
      callWith pos f first (backTo pos (starEach [] X.env)) (backToKw pos (keywordEach [] X.env))) := by rfl) :
    PE X (.Call (.Attribute o m apos) [] [] pos) (tMethA A m sp E ta tNil) := by
  refine ⟨fun pins s σ H Q I h => ?_⟩
  refine PySem.W.methodCall_KW (pl := pl) (thn (he.run pins s σ H _ I h) fun u s1 ⟨x, H1, I1, rx, a, dx, fs, ex, ea, l, q⟩ => ?_) ht
  subst ex
  obtain rfl : u = Value.ref a := rx
  refine getmeth_ok I1 ea c hm l ?_
  exact PySem.W.callWith_K0 (first := [.ref a]) I1.kIn hm.kp (run_fnS (us := [.ref a]) (vs := [.ref a]) F hr hb (hx σ) I1 (.cons rfl .nil) q)
theorem meth_post {c : Icl} {x : Str} {mf : List D → M D} {co : EC} {a : EA} {t : TA} (ht : ∀ σ H Q, TAx C W a σ H Q → t σ H Q) {σ : L2.St} {H : Hp} {Q : VK} (h : TEx C W (eMe c x mf co a) σ H Q) : tMethA (C.iA c) x (SpM C mf) (WE W) (TEx C W co) t σ H Q := by
  obtain ⟨S, m, ev, R, E, h⟩ := h
  refine ⟨S, m, ev, R, E, (PostG.bnd h).imp fun v H1 ⟨S1, m1, d, g1, R1, i1, h1⟩ => ?_⟩
  cases q : rdI c d m1 with
  | none => simp only [q] at h1; exact h1.elim
  | some fs =>
    simp only [q] at h1
    obtain ⟨n, b, dx, fv, rfl, rfl, al, hm, hb, ho, t⟩ := rdI_is R1 i1 q
    rcases fs_lookup (f := x) t with ⟨l1, l2⟩ | ⟨w, d', l1, l2, iv⟩
    · simp only [l2] at h1
      exact ⟨b, dx, fv, rfl, hb, l1, ht _ _ _ ⟨S1, m1, ev, R1, E.mono g1, (PostG.bnd h1).imp fun xs H2 ⟨S2, m2, ds, g2, R2, i2, h2⟩ => ⟨S2, m2, _, R2, .cons (i1.mono g2) i2, h2⟩⟩⟩
    · simp only [l2] at h1; exact h1.elim
theorem ce_meth {c : Icl} {x : Str} {k : Nat} {mf : List D → M D} {o e : Expr} {es : List Expr} {co : EC} {a : EA} {apos : Pos} {pl : Sem Bool} (G : MeG X.prog X.w X.K X.mg X.base C c x k mf) (hr : Room k X.A) (tk : Takes X W) (ho : CE X C W o co) (ha : CA X C W (e :: es) a)
    (hst : starEach (e :: es) X.env = (false, eval e X.env) :: starEach es X.env := by rfl) (hpl : (backTo pos (starEach es X.env)).any (·.1) = false := by rfl)
    (ht : eval (.Call (.Attribute o x apos) (e :: es) [] pos) X.env = (do
      let ov ← eval o X.env
      standAt apos.atName
      let (f, first) ← holding [ov] (getMethod ov x pl)
      callWith pos f first (backTo pos (starEach (e :: es) X.env)) (backToKw pos (keywordEach [] X.env))) := by rfl) :
    CE X C W (.Call (.Attribute o x apos) (e :: es) [] pos) (eMe c x mf co a) := fun hK => by
  obtain ⟨f, fd, ps, F, hm, hb⟩ := G.ex
  exact pe_imp (pe_methA (ho hK) G.cl hm F hr hb (fun σ => passAt tk σ) (ha hK) hst hpl ht) fun σ H Q h => meth_post (fun _ _ _ h => h) h
theorem ce_meth0 {c : Icl} {x : Str} {k : Nat} {mf : List D → M D} {o : Expr} {co : EC} {apos : Pos} {pl : Sem Bool} (G : MeG X.prog X.w X.K X.mg X.base C c x k mf) (hr : Room k X.A) (tk : Takes X W) (ho : CE X C W o co)
    (ht : eval (.Call (.Attribute o x apos) [] [] pos) X.env = (do
      let ov ← eval o X.env
      standAt apos.atName
      let (f, first) ← holding [ov] (getMethod ov x pl)
      callWith pos f first (backTo pos (starEach [] X.env)) (backToKw pos (keywordEach [] X.env))) := by rfl) :
    CE X C W (.Call (.Attribute o x apos) [] [] pos) (eMe c x mf co aNil) := fun hK => by
  obtain ⟨f, fd, ps, F, hm, hb⟩ := G.ex
  exact pe_imp (pe_methA0 (ho hK) G.cl hm F hr hb (fun σ => passAt tk σ) ht) fun σ H Q h => meth_post (fun σ H Q ⟨S, m, ev, R, E, h⟩ => h S H [] .refl R .nil) h
/-! making -/
structure MkG (P : Program) (w : World) (K : PySem.W.Frag) (mg : Str → Option Value) (base : Heap) (C : Cn) (c : Icl) (x : Str) (k : Nat) (mf : List D → M D) : Prop where
  ex : ∃ f fd ps, FnOk P w K mg base (L2.CX P w) k f fd ps (SpM C mf) ∧ Mk K (C.iA c) f ∧ Binds K fd ps []
  mg : mg x = some (.ref (C.iA c))
def tMakeA (C : Addr) (sp : Sp) (E : L2.St → XK) (t : TA) : TE := fun σ H Q => t σ H fun vs H1 => ∀ x dx, H1 x = none → H1 dx = none → dx ≠ x →
  sp (.ref x :: vs) (upd (upd H1 dx (.own x)) x (.ins C dx [])) (fun v H2 => v = .non ∧ Q (.ref x) H2) (E σ)
theorem run_makeA {CX : CXT} {k : Nat} {f A : Addr} {fd : FuncData} {ps : List Str} {sp : Sp} {E : XK} {pins : List (Addr × Obj)} {σ : L2.St} {H : Hp} {s : Shared} {Q : VK} {us : List Value} {vs : List V} (M : Mk X.K A f) (F : FnOk X.prog X.w X.K X.mg X.base CX k f fd ps sp) (hr : Room (k + 1) X.A) (hb : Binds X.K fd ps [])
    (hx : PassesAt CX X σ E) (I : Inv X pins σ H s) (r : Vals vs us)
    (h : ∀ x dx, H x = none → H dx = none → dx ≠ x → sp (.ref x :: vs) (upd (upd H dx (.own x)) x (.ins A dx [])) (fun v H2 => v = .non ∧ Q (.ref x) H2) E) :
    wpAny (model X.prog X.w) X.A (call (.ref A) us) (EP X pins σ Q) X.xe s := by
  have hq := h (s.heap.objs.size + 1) s.heap.objs.size (I.hok.fresh (Nat.le_succ _)) (I.hok.fresh (Nat.le_refl _)) (Nat.ne_of_lt (Nat.lt_succ_self _))
  have I2 := Inv.made (C := A) I
  have r2 : Vals (V.ref (s.heap.objs.size + 1) :: vs) (Value.ref (s.heap.objs.size + 1) :: us) := .cons rfl r
  have hl : (Value.ref (s.heap.objs.size + 1) :: us ++ []).length = ps.length := by
    have e := r2.length
    rw [F.len _ _ _ _ hq] at e
    rw [List.append_nil]
    exact e.symm
  have b := hb _ (Value.ref (s.heap.objs.size + 1) :: us) I2.kIn hl
  rw [List.append_nil] at b
  refine wpAny_call (make_map (f := f) I.kIn M.makes M.init (beq_iff_eq.mp M.fn) (codeAny_mono (F.run _ X.stack _ _ ⟨Value.ref (s.heap.objs.size + 1) :: us, []⟩ (Value.ref (s.heap.objs.size + 1) :: us) _ _ E (hr.make A us [])
    (I2.env0.make A us []) b r2 hq) fun r s' hq' => ?_))
  cases r with
  | error e => exact hx pins _ _ e s' I2 hq'
  | ok fl =>
    cases fl with
    | ret u =>
      obtain ⟨v, H', I3, rv, ev, q3⟩ := I2.after hq'
      subst ev
      exact ⟨rv, ⟨V.ref (s.heap.objs.size + 1), H', I3, rfl, q3⟩⟩
    | next => exact False.elim hq'
    | brk => exact False.elim hq'
    | cont => exact False.elim hq'
theorem pe_makeA {CX : CXT} {k : Nat} {f A : Addr} {fd : FuncData} {ps : List Str} {sp : Sp} {E : L2.St → XK} {x : Str} {p : Pos} {e : Expr} {es : List Expr} {t : TA} (M : Mk X.K A f) (F : FnOk X.prog X.w X.K X.mg X.base CX k f fd ps sp) (hr : Room (k + 1) X.A) (hg : Gl X x) (hm : X.mg x = some (.ref A)) (hb : Binds X.K fd ps []) (hx : ∀ σ, PassesAt CX X σ (E σ))
    (ha : PA X (e :: es) t) (hdb : (x == ("__debug__" : Str)) = false := by decide) (he : starEach (e :: es) X.env = (false, eval e X.env) :: starEach es X.env := by rfl) (hpl : (backTo pos (starEach es X.env)).any (·.1) = false := by rfl) :
    PE X (.Call (.Name x p) (e :: es) [] pos) (tMakeA A sp E t) := by
  refine ⟨fun pins s σ H Q I h => ?_⟩
  refine wpAny_Call_Name_kw (ld_glob I hg hm ?_ hdb)
  refine PySem.W.callWith_K (h₀ := X.base) I.ok.mod.kin M.kp (thn (ha.run pos pins s σ H _ I h) fun us s1 ⟨vs, H1, I1, r, q⟩ => ⟨I1.kIn, ?_⟩) he hpl
  exact run_makeA M F hr hb (hx σ) I1 r q
theorem ce_make {c : Icl} {x : Str} {k : Nat} {mf : List D → M D} {e : Expr} {es : List Expr} {a : EA} {p : Pos} (G : MkG X.prog X.w X.K X.mg X.base C c x k mf) (hr : Room (k + 1) X.A) (tk : Takes X W) (ha : CA X C W (e :: es) a) (hg : Gl X x := by rfl) (hdb : (x == ("__debug__" : Str)) = false := by decide)
    (he : starEach (e :: es) X.env = (false, eval e X.env) :: starEach es X.env := by rfl) (hpl : (backTo pos (starEach es X.env)).any (·.1) = false := by rfl) : CE X C W (.Call (.Name x p) (e :: es) [] pos) (eMake c mf a) := fun hK => by
  obtain ⟨f, fd, ps, F, hm, hb⟩ := G.ex
  refine pe_imp (pe_makeA hm F hr hg G.mg hb (fun σ => passAt tk σ) (ha hK) hdb he hpl) fun σ H Q ⟨S, m, ev, R, E, h⟩ => ⟨S, m, ev, R, E, (PostG.bnd h).imp fun vs H1 ⟨S1, m1, ds, g1, R1, i1, h1⟩ => fun x dx hx hdx ne => ?_⟩
  -- the dict of the instance first, then the instance
  have f1 := R1.free dx hdx
  have f2 := R1.free x hx
  obtain ⟨R2, gside⟩ := R1.side (p := dx) (u := .own x) f1
  have g2 : Grow S1 H1 S1 (upd H1 dx (.own x)) := gside .refl hdx f1
  have hx2 : upd H1 dx (.own x) x = none := by rw [upd_ne (Ne.symm ne)]; exact hx
  have hd2 : upd H1 dx (.own x) dx = some (.own x) := upd_same
  -- own the dict for the new cell
  let S2 : Wd := S1.put dx (.cell m1.length)
  have R3 : Rep C S2 (upd H1 dx (.own x)) m1 := by
    refine ⟨R2.len, fun i a c h1 h2 h3 => ?_, fun i a c h1 h2 => ?_, fun b hb => ?_⟩
    · have q := R2.own i a c h1 h2 h3
      rw [Wd.put_ne (ne_free q f1)]
      exact q
    · exact (R2.ok i a c h1 h2).mono0 (Grow0.put f1) (fun u' e => e) (fun d e => by rw [Wd.put_ne (ne_free e f1)]; exact e) (fun e => by rw [Wd.put_ne (ne_free e f1)]; exact e)
    · have n : b ≠ dx := fun z => by rw [z, hd2] at hb; cases hb
      rw [Wd.put_ne n]
      exact R2.free b hb
  have g3 : Grow S1 H1 S2 (upd H1 dx (.own x)) := g2.adopt hdx f1
  obtain ⟨S3, R4, g4, al, ow⟩ := R3.cellO (p := x) (u := .ins (C.iA c) dx []) (c := .ins c []) hx2 fun S4 g4 k4 => ⟨dx, [], upd_same, k4 _ _ Wd.put_same, rfl, .nil⟩
  refine ⟨S3, m1 ++ [.ins c []], .ref m1.length :: ds, R4, .cons (.ref al) ((i1.mono g3).mono g4), ?_⟩
  cases e1 : mf (.ref m1.length :: ds) (m1 ++ [.ins c []]) with
  | stk => simp only [e1] at h1; exact h1.elim
  | exc ex m2 => simp only [e1] at h1; exact fun S' H' g R' => h1 S' H' ((g3.trans g4).trans g) R'
  | ok d m2 =>
    cases d with
    | non =>
      simp only [e1] at h1
      intro S' H' b g R' ib
      cases ib
      exact ⟨rfl, h1 S' H' _ ((g3.trans g4).trans g) R' (.ref (g.al _ _ al))⟩
    | _ => simp only [e1] at h1; exact h1.elim
end
/-- a method, a making, found by names -/
theorem me_g {P : Program} {w : World} {K : PySem.W.Frag} {mg : Str → Option Value} {base : Heap} {C : Cn} {c : Icl} {x qual : Str} {st : Stmt} {f : Addr} {fd : FuncData} {ps : List Str} {k : Nat} {mf : List D → M D} (F : FnP K x qual st f fd) (hm : Meth K (C.iA c) x f) (cl : Cls K (C.iA c))
    (h : ∀ (kV doc pm : Value) (an : Option Addr) (cdv ct : Value) (us : List Value), us.length = ps.length → bindArgs (PySem.W.fnOf x qual (defArgs st) (defBody st) (defScope st) .none kV doc pm an cdv ct) ⟨us, []⟩ = pure (ps.zip us))
    (ok : FnOk P w K mg base (L2.CX P w) k f fd ps (SpM C mf)) : MeG P w K mg base C c x k mf := ⟨⟨f, fd, ps, ok, hm, F.bindsN h⟩, cl⟩
theorem mk_g {P : Program} {w : World} {K : PySem.W.Frag} {mg : Str → Option Value} {base : Heap} {C : Cn} {c : Icl} {x y qual : Str} {st : Stmt} {f : Addr} {fd : FuncData} {ps : List Str} {k : Nat} {mf : List D → M D} (F : FnP K y qual st f fd) (hm : Mk K (C.iA c) f) (hg : mg x = some (.ref (C.iA c)))
    (h : ∀ (kV doc pm : Value) (an : Option Addr) (cdv ct : Value) (us : List Value), us.length = ps.length → bindArgs (PySem.W.fnOf y qual (defArgs st) (defBody st) (defScope st) .none kV doc pm an cdv ct) ⟨us, []⟩ = pure (ps.zip us))
    (ok : FnOk P w K mg base (L2.CX P w) k f fd ps (SpM C mf)) : MkG P w K mg base C c x k mf := ⟨⟨f, fd, ps, ok, hm, F.bindsN h⟩, hg⟩
end Lt

set_option Elab.async false
set_option linter.all false
set_option maxRecDepth 100000
/-! C13: dicts: displays, reading, writing, walks; places of lists written. -/
namespace Lt
open PySem PySem.Spec PyProof.Rows L2
/-! ### in the monad -/
def kD : Key → D
  | .inl i => .int i
  | .inr s => .str s
def putKD (kvs : List (Key × D)) (k : Key) (v : D) : List (Key × D) :=
  if (kvs.any fun kv => decide (kv.1 = k)) = true then kvs.map (fun kv => if kv.1 = k then (kv.1, v) else kv) else kvs ++ [(k, v)]
def dropKD (kvs : List (Key × D)) (k : Key) : List (Key × D) := kvs.filter fun kv => decide (kv.1 ≠ k)
/-- a display of a dict, its keys written -/
def eDsp (ks : List Key) (a : EA) : EC := fun ev => bnd (a ev) fun xs m => if xs.length = ks.length ∧ ks.Nodup ∧ ks.length ≤ 15 then .ok (.ref m.length) (m ++ [.dic false (ks.zip xs)]) else .stk
/-- d.get(k, x) -/
def gDGet2 (a : D) (y z : D) : M D := fun m => match rdK a m, keyD y with
  | some kvs, some q => .ok ((valD kvs q).getD z) m
  | _, _ => .stk
/-- a dict is asked for -/
def isDic (a : D) (r : M D) : M D := fun m => match rdK a m with
  | some _ => r m
  | none => .stk
def eDGet2 (d k x : EC) : EC := fun ev => bnd (d ev) fun a => isDic a (bnd (k ev) fun y => bnd (x ev) fun z => gDGet2 a y z)
/-- a dict that may be changed -/
def rdC (x : D) (m : Mem) : Option (List (Key × D)) := match x with
  | .ref n => match m[n]? with
    | some (.dic false kvs) => some kvs
    | _ => none
  | _ => none
def upC (x : D) (kvs : List (Key × D)) (m : Mem) : Mem := match x with
  | .ref n => m.set n (.dic false kvs)
  | _ => m
def gDPop (a : D) (y : D) (z : Option D) : M D := fun m => match rdC a m, keyD y with
  | some kvs, some q => match valD kvs q with
    | some v => .ok v (upC a (dropKD kvs q) m)
    | none => match z with
      | some d => .ok d m
      | none => .stk
  | _, _ => .stk
def eDPop1 (d k : EC) : EC := fun ev => bnd (d ev) fun a => isDic a (bnd (k ev) fun y => gDPop a y none)
def eDPop2 (d k x : EC) : EC := fun ev => bnd (d ev) fun a => isDic a (bnd (k ev) fun y => bnd (x ev) fun z => gDPop a y (some z))
/-- d[k] = e -/
def sDPutS (d k e : EC) : SC := fun ev m => ofE (e ev m) ev fun v m1 => ofE (d ev m1) ev fun a m2 => ofE (k ev m2) ev fun y m3 => match rdC a m3, keyD y with
  | some kvs, some q => if kvs.length < SZ then .nx ev (upC a (putKD kvs q v) m3) else .stk
  | _, _ => .stk
/-- o[i] = e, o a list -/
def sLPut (o i e : EC) : SC := fun ev m => ofE (e ev m) ev fun v m1 => ofE (o ev m1) ev fun a m2 => ofE (i ev m2) ev fun y m3 => match a, y with
  | .ref n, .int k => match m3[n]? with
    | some (.lst xs) => match ixN xs.length k with
      | some j => .nx ev (m3.set n (.lst (xs.set j v)))
      | none => .stk
    | _ => .stk
  | _, _ => .stk
/-- what a walk over a dict meets: keys, values, pairs -/
inductive Wk where
  | keys | vals | items
def Wk.of (w : Wk) (kvs : List (Key × D)) : List D := match w with
  | .keys => kvs.map fun kv => kD kv.1
  | .vals => kvs.map fun kv => kv.2
  | .items => kvs.map fun kv => .tup [kD kv.1, kv.2]
def unlk (n : Nat) (kvs : List (Key × D)) (m : Mem) : Option Mem := match m[n]? with
  | some (.dic true _) => some (m.set n (.dic false kvs))
  | _ => none
def unlS (n : Nat) (kvs : List (Key × D)) (r : SR) : SR := match r with
  | .nx ev m => match unlk n kvs m with | some m' => .nx ev m' | none => .stk
  | .ret d m => match unlk n kvs m with | some m' => .ret d m' | none => .stk
  | .brk ev m => match unlk n kvs m with | some m' => .brk ev m' | none => .stk
  | .ct ev m => match unlk n kvs m with | some m' => .ct ev m' | none => .stk
  | .exc c ev m => .exc c ev m
  | .stk => .stk
open Classical in
/-- for x in d.keys() (values, items): the dict is locked meanwhile; its expression changes nothing -/
noncomputable def sForD (w : Wk) (d : EC) (g : TGt) (b : SC) : SC := fun ev m => match d ev m with
  | .ok (.ref n) _ => match m[n]? with
    | some (.dic false kvs) => if d ev (m.set n (.dic true kvs)) = .ok (.ref n) (m.set n (.dic true kvs)) then
        unlS n kvs (forGo (fun m' => m'[n]? = some (.dic true kvs)) g b (w.of kvs) ev (m.set n (.dic true kvs))) else .stk
    | _ => .stk
  | _ => .stk
open Classical in
/-- [e for x in d.keys() if t] -/
noncomputable def eLcD (w : Wk) (nw : Bool) (own : List Nat) (d : EC) (g : TGt) (t : ET) (e : EC) : EC := fun ev m => match d ev m with
  | .ok (.ref n) _ => match m[n]? with
    | some (.dic false kvs) => if d ev (m.set n (.dic true kvs)) = .ok (.ref n) (m.set n (.dic true kvs)) then
        match bnd (lcGo (fun m' => m'[n]? = some (.dic true kvs)) g t e (wipeE ev own) (w.of kvs) []) (outL nw) (m.set n (.dic true kvs)) with
        | .ok x m' => match unlk n kvs m' with | some m'' => .ok x m'' | none => .stk
        | _ => .stk
      else .stk
    | _ => .stk
  | _ => .stk
/-! ### pairs -/
section
variable {C : Cn} {S S1 : Wd} {H H1 : Hp} {kvs : List (Key × V)} {kds : List (Key × D)}
theorem IsKs.any (k : Key) : ∀ {kvs : List (Key × V)} {kds : List (Key × D)}, IsKs C S H kvs kds → (kvs.any fun kv => decide (kv.1 = k)) = (kds.any fun kv => decide (kv.1 = k))
  | _, _, .nil => rfl
  | _, _, .cons i t => by simp only [List.any_cons, IsKs.any k t]
theorem IsKs.mapp {k : Key} {v : V} {d : D} (i : IsV C S H v d) : ∀ {kvs : List (Key × V)} {kds : List (Key × D)}, IsKs C S H kvs kds → IsKs C S H (kvs.map fun kv => if kv.1 = k then (kv.1, v) else kv) (kds.map fun kv => if kv.1 = k then (kv.1, d) else kv)
  | _, _, .nil => .nil
  | (k', w) :: _, (_, e) :: _, .cons j t => by
    simp only [List.map_cons]
    by_cases h : k' = k
    · simp only [if_pos h]; exact .cons i (IsKs.mapp i t)
    · simp only [if_neg h]; exact .cons j (IsKs.mapp i t)
theorem IsKs.app : ∀ {kvs kws : List (Key × V)} {kds kes : List (Key × D)}, IsKs C S H kvs kds → IsKs C S H kws kes → IsKs C S H (kvs ++ kws) (kds ++ kes)
  | _, _, _, _, .nil, h => h
  | _, _, _, _, .cons i t, h => .cons i (IsKs.app t h)
theorem IsKs.put {k : Key} {v : V} {d : D} (i : IsV C S H v d) (t : IsKs C S H kvs kds) : IsKs C S H (putK kvs k v) (putKD kds k d) := by
  unfold putK putKD
  rw [t.any k]
  by_cases h : (kds.any fun kv => decide (kv.1 = k)) = true
  · rw [if_pos h, if_pos h]; exact t.mapp i
  · rw [if_neg h, if_neg h]; exact t.app (.cons i .nil)
theorem IsKs.drop {k : Key} : ∀ {kvs : List (Key × V)} {kds : List (Key × D)}, IsKs C S H kvs kds → IsKs C S H (dropK kvs k) (dropKD kds k)
  | _, _, .nil => .nil
  | (k', w) :: _, (_, e) :: _, .cons j t => by
    have ih := IsKs.drop (k := k) t
    unfold dropK dropKD at ih ⊢
    by_cases h : k' = k
    · subst h; simp only [List.filter_cons]; simpa using ih
    · simp only [List.filter_cons]; simp only [h, ne_eq, not_false_eq_true, decide_true, if_true]; exact .cons j ih
theorem IsKs.length : ∀ {kvs : List (Key × V)} {kds : List (Key × D)}, IsKs C S H kvs kds → kvs.length = kds.length
  | _, _, .nil => rfl
  | _, _, .cons _ t => by rw [List.length_cons, List.length_cons, IsKs.length t]
theorem IsKs.keys : ∀ {kvs : List (Key × V)} {kds : List (Key × D)}, IsKs C S H kvs kds → kvs.map (·.1) = kds.map (·.1)
  | _, _, .nil => rfl
  | _, _, .cons _ t => by simp only [List.map_cons, IsKs.keys t]
theorem IsKs.at : ∀ {kvs : List (Key × V)} {kds : List (Key × D)} {i : Nat} {k : Key} {d : D}, IsKs C S H kvs kds → kds[i]? = some (k, d) → ∃ v, kvs[i]? = some (k, v) ∧ IsV C S H v d
  | _, _, 0, _, _, .cons h _, e => by
    cases (Option.some.inj e : _ = _)
    exact ⟨_, rfl, h⟩
  | _, _, i + 1, _, _, .cons _ t, e => IsKs.at (i := i) t e
theorem IsKs.zip : ∀ {ks : List Key} {vs : List V} {ds : List D}, IsVs C S H vs ds → IsKs C S H (ks.zip vs) (ks.zip ds)
  | [], _, _, _ => by simp only [List.zip_nil_left]; exact .nil
  | _ :: _, _, _, .nil => by simp only [List.zip_nil_right]; exact .nil
  | k :: ks, _, _, .cons i t => by simp only [List.zip_cons_cons]; exact .cons i (IsKs.zip t)
theorem mergeK_zip : ∀ {ks : List Key} {vs : List V} {acc : List (Key × V)}, ks.Nodup → (∀ k ∈ ks, ∀ kv ∈ acc, kv.1 ≠ k) → mergeK acc (ks.zip vs) = acc ++ ks.zip vs
  | [], _, acc, _, _ => by simp [mergeK]
  | k :: ks, [], acc, _, _ => by simp [mergeK]
  | k :: ks, v :: vs, acc, nd, hn => by
    rw [List.nodup_cons] at nd
    have h1 : putK acc k v = acc ++ [(k, v)] := by
      unfold putK
      rw [if_neg]
      intro h
      obtain ⟨kv, h1, h2⟩ := List.any_eq_true.mp h
      exact hn k List.mem_cons_self kv h1 (of_decide_eq_true h2)
    show mergeK (putK acc k v) (ks.zip vs) = _
    rw [h1, mergeK_zip nd.2 fun k' hk kv hkv => ?_]
    · rw [List.append_assoc]; rfl
    · rcases List.mem_append.mp hkv with h | h
      · exact hn k' (List.mem_cons_of_mem _ hk) kv h
      · rw [List.mem_singleton] at h
        subst h
        exact fun e => nd.1 (by rw [show k = k' from e]; exact hk)
/-- what is tracked and no one's becomes a cell -/
theorem Rep.adoptC {m : Mem} {p : Addr} {u : HO} {c : Cell} (R : Rep C S H m) (hp : H p = some u) (hf : S.own p = none) (hc : ∀ S1 : Wd, Grow0 S H S1 H → CellOk C S1 H m.length p c) :
    ∃ S1 : Wd, Rep C S1 H (m ++ [c]) ∧ S1.al[m.length]? = some p ∧ ∀ {S0 : Wd} {H0 : Hp}, Grow S0 H0 S H → H0 p = none → S0.own p = none → Grow S0 H0 S1 H := by
  have al : ∀ (i : Nat) (a : Addr), S.al[i]? = some a → (S.al ++ [p])[i]? = some a := fun i a h => by
    rw [List.getElem?_append_left (List.getElem?_eq_some_iff.mp h).1]
    exact h
  have g : Grow0 S H { S.put p (.cell m.length) with al := S.al ++ [p] } H := ⟨al, (Grow0.put (H := H) hf).own, fun _ _ _ _ e => e, fun _ _ _ e => e⟩
  have hl : (S.al ++ [p])[m.length]? = some p := by
    rw [← R.len, List.getElem?_append_right (Nat.le_refl _), Nat.sub_self]
    rfl
  have old : ∀ i, i ≠ m.length → ∀ a c', (S.al ++ [p])[i]? = some a → (m ++ [c])[i]? = some c' → S.al[i]? = some a ∧ m[i]? = some c' := fun i hi a c' h1 h2 => by
    have lt := (List.getElem?_eq_some_iff.mp h2).1
    rw [List.length_append, List.length_singleton] at lt
    have lt' : i < m.length := by omega
    rw [List.getElem?_append_left (by rw [R.len]; exact lt')] at h1
    rw [List.getElem?_append_left lt'] at h2
    exact ⟨h1, h2⟩
  refine ⟨{ S.put p (.cell m.length) with al := S.al ++ [p] }, ⟨?_, fun i a c' h1 h2 h3 => ?_, fun i a c' h1 h2 => ?_, fun a h => ?_⟩, hl, fun {S0 H0} g0 q1 q2 => ?_⟩
  · show (S.al ++ [p]).length = (m ++ [c]).length
    rw [List.length_append, List.length_append, R.len]
    rfl
  · by_cases hi : i = m.length
    · subst hi
      have e : a = p := Option.some.inj (h1.symm.trans hl)
      subst e
      exact Wd.put_same
    · obtain ⟨q1, q2⟩ := old i hi a c' h1 h2
      have q := R.own i a c' q1 q2 h3
      exact (Wd.put_ne (ne_free q hf)).trans q
  · by_cases hi : i = m.length
    · subst hi
      have e : a = p := Option.some.inj (h1.symm.trans hl)
      subst e
      have ec : c' = c := by
        rw [List.getElem?_append_right (Nat.le_refl _), Nat.sub_self] at h2
        exact (Option.some.inj h2).symm
      subst ec
      exact hc _ g
    · obtain ⟨q1, q2⟩ := old i hi a c' h1 h2
      exact (R.ok i a c' q1 q2).mono0 g (fun u' e => e) (fun dx e => (Wd.put_ne (ne_free e hf)).trans e) (fun e => (Wd.put_ne (ne_free e hf)).trans e)
  · have n : a ≠ p := fun z => by rw [z, hp] at h; cases h
    exact (Wd.put_ne n).trans (R.free a h)
  · have g1 : Grow S0 H0 (S.put p (.cell m.length)) H := g0.adopt q1 q2
    exact ⟨fun i a h => al i a (g0.al i a h), g1.own, g1.hd, g1.dk, g1.fr⟩
theorem rdC_is {m : Mem} {v : V} {x : D} (R : Rep C S H m) (i : IsV C S H v x) (h : rdC x m = some kds) : ∃ n a kvs, x = .ref n ∧ v = .ref a ∧ S.al[n]? = some a ∧ m[n]? = some (.dic false kds) ∧ H a = some (.dK kvs) ∧ IsKs C S H kvs kds := by
  cases i with
  | @ref a n al =>
    unfold rdC at h
    dsimp only at h
    cases q : m[n]? with
    | none => simp only [q] at h; cases h
    | some c =>
      simp only [q] at h
      cases c with
      | dic lk kds' =>
        cases lk with
        | true => cases h
        | false =>
          cases h
          obtain ⟨kvs, r, l, t, _⟩ := R.ok n a _ al q
          exact ⟨n, a, kvs, rfl, rfl, al, q, l rfl, t⟩
      | _ => cases h
  | _ => cases h
theorem Rep.dicw {m : Mem} {n : Nat} {a : Addr} {kds' : List (Key × D)} {kvs' : List (Key × V)} (R : Rep C S H m) (al : S.al[n]? = some a) (hm : m[n]? = some (.dic false kds)) (t : IsKs C S H kvs' kds') :
    Rep C S (upd H a (.dK kvs')) (m.set n (.dic false kds')) ∧ Grow S H S (upd H a (.dK kvs')) :=
  R.write al hm trivial fun g => ⟨kvs', .inl upd_same, fun _ => upd_same, t.mono g, fun z => nomatch z⟩
end
theorem PostG.bnd2 {C : Cn} {S S0 : Wd} {H H0 : Hp} {α β γ δ : Type} {E : Ecl → Hp → Prop} {rel : Rel β α} {rel2 : Rel δ γ} {m : Mem} {x : M α} {f : α → M γ} {Q : δ → Hp → Prop} (g : Grow S H S0 H0) (h : PostG C S H E rel2 (Lt.bnd x f m) Q) :
    PostG C S0 H0 E rel (x m) (fun b H1 => ∃ S1 m1 a, Grow S0 H0 S1 H1 ∧ Rep C S1 H1 m1 ∧ rel S1 H1 b a ∧ PostG C S H E rel2 (f a m1) Q) := by
  unfold Lt.bnd at h
  cases e : x m with
  | ok a m1 =>
    rw [e] at h
    exact fun S1 H1 b g' R x => ⟨S1, m1, a, g', R, x, h⟩
  | exc c m1 =>
    rw [e] at h
    exact fun S' H' g' R => h S' H' (g.trans g') R
  | stk =>
    rw [e] at h
    exact h
/-! ### expressions -/
section
variable {X : Cx} {C : Cn} {W : WX} {pos : Pos}
def CPs (X : Cx) (C : Cn) (W : WX) (pos : Pos) (keys : List (Option Expr)) (values : List Expr) (ks : List Key) (a : EA) : Prop := C.K = X.K → ∃ trs, PPs X pos keys values trs ∧ keys.length = ks.length ∧
  ∀ σ H (Q : List (V × V) → Hp → Prop), TAx C W a σ H (fun vs H' => Q ((ks.map kV).zip vs) H') → tPairs trs σ H Q
theorem cps_nil : CPs X C W pos [] [] [] aNil := fun _ => ⟨[], pps_nil, rfl, fun σ H Q ⟨S, m, ev, R, E, h⟩ => h S H [] .refl R .nil⟩
theorem cps_cons {s : Str} {j : Nat} {p : Pos} {v : Expr} {keys : List (Option Expr)} {vs : List Expr} {ks : List Key} {c : EC} {a : EA} (hv : CE X C W v c) (hr : CPs X C W pos keys vs ks a) :
    CPs X C W pos (some (.Constant (.str s) j p) :: keys) (v :: vs) (.inr s :: ks) (aCons c a) := fun hK => by
  obtain ⟨trs, h1, h2, h3⟩ := hr hK
  refine ⟨_, pps_cons pe_str (hv hK) h1, by simp only [List.length_cons, h2], fun σ H Q ⟨S, m, ev, R, E, h⟩ => ?_⟩
  show TEx C W c σ H _
  refine ⟨S, m, ev, R, E, (PostG.bnd h).imp fun x H1 ⟨S1, m1, d, g1, R1, i1, q1⟩ => h3 _ _ _ ⟨S1, m1, ev, R1, E.mono g1, (PostG.bnd q1).imp fun xs H2 ⟨S2, m2, ds, g2, R2, i2, q2⟩ => q2 S2 H2 (x :: xs) .refl R2 (.cons (i1.mono g2) i2)⟩⟩
theorem zip_kv : ∀ (ks : List Key) (vs : List V), (ks.map kV).zip vs = (ks.zip vs).map fun kv => (kV kv.1, kv.2)
  | [], _ => rfl
  | _ :: _, [] => rfl
  | k :: ks, v :: vs => by simp only [List.map_cons, List.zip_cons_cons, zip_kv ks vs]
theorem ce_dsp {keys : List (Option Expr)} {values : List Expr} {ks : List Key} {a : EA} (h : CPs X C W pos keys values ks a) (hall : keys.all (·.isSome) = true := by rfl) (hl : keys.length = values.length := by rfl) (h0 : keys ≠ [] := by exact fun h => nomatch h)
    (h15 : keys.length ≤ 15 := by decide) : CE X C W (.Dict keys values pos) (eDsp ks a) := fun hK => by
  obtain ⟨trs, p1, p2, p3⟩ := h hK
  refine pe_imp (pe_disp p1 hall hl h0 h15) fun σ H Q ⟨S, m, ev, R, E, q⟩ p hp => p3 _ _ _ ?_
  have hf := R.free p hp
  obtain ⟨R1, gs⟩ := R.side (p := p) (u := .dK []) hf
  have g1 : Grow S H S (upd H p (.dK [])) := gs .refl hp hf
  refine ⟨S, m, ev, R1, E.mono g1, (PostG.bnd2 g1 q).imp ?_⟩
  rintro vs H2 ⟨S2, m2, ds, g2, R2, i2, q2⟩
  obtain ⟨hp2, hf2⟩ := g2.fr p _ hf upd_same
  by_cases z : ds.length = ks.length ∧ ks.Nodup ∧ ks.length ≤ 15
  · rw [if_pos z] at q2
    obtain ⟨z1, z2, z3⟩ := z
    refine ⟨hp2, ks.zip vs, zip_kv ks vs, ?_, ?_⟩
    · rw [List.length_zip]
      omega
    · rw [mergeK_zip z2 (by intro _ _ _ h; cases h), List.nil_append]
      obtain ⟨R3, gs3⟩ := R2.side (p := p) (u := .dK (ks.zip vs)) hf2
      have g3 : Grow0 S2 H2 S2 (upd H2 p (.dK (ks.zip vs))) := ⟨fun _ _ h => h, fun _ h => h, fun a u' h _ e => by rw [upd_ne (ne_free h hf2)]; exact e, fun a kvs h r => rd_upd (ne_free h hf2) r⟩
      have t3 : IsVs C S2 (upd H2 p (.dK (ks.zip vs))) vs ds := i2.mono0 g3
      obtain ⟨S4, R4, al, ga⟩ := R3.adoptC (c := .dic false (ks.zip ds)) upd_same hf2 fun S4 g4 => ⟨ks.zip vs, .inl upd_same, fun _ => upd_same, (IsKs.zip t3).mono0 g4, fun z => nomatch z⟩
      exact q2 S4 _ _ (ga (gs3 (g1.trans g2) hp hf) hp hf) R4 (.ref al)
  · rw [if_neg z] at q2
    exact q2.elim
theorem ce_dnew : CE X C W (.Dict [] [] pos) (eDsp [] aNil) := fun hK =>
  pe_imp pe_dnewK fun σ H Q ⟨S, m, ev, R, E, q⟩ p hp => by
    have e : eDsp [] aNil ev m = .ok (.ref m.length) (m ++ [.dic false []]) := rfl
    rw [e] at q
    obtain ⟨S1, R1, g, al, _⟩ := R.cell (u := .dK []) (c := .dic false []) hp fun S1 g => ⟨[], .inl upd_same, fun _ => upd_same, .nil, fun z => nomatch z⟩
    exact q _ _ _ g R1 (.ref al)
theorem isDic_is {S : Wd} {H : Hp} {m : Mem} {a : V} {da : D} {r : M D} {E : Ecl → Hp → Prop} {Q : VK} (R : Rep C S H m) (i : IsV C S H a da) (h : PostG C S H E (isV C) (isDic da r m) Q) : ∃ p kvs, a = .ref p ∧ IsD H p ∧ PostG C S H E (isV C) (r m) Q ∧ rdK da m = some kvs := by
  unfold isDic at h
  cases e1 : rdK da m with
  | none => simp only [e1] at h; exact h.elim
  | some kds =>
    simp only [e1] at h
    obtain ⟨p, kvs, rfl, r, t⟩ := i.rdK R e1
    exact ⟨p, kds, rfl, .inl ⟨kvs, r⟩, h, rfl⟩
theorem ce_dget2 {d k x : Expr} {cd ck cx : EC} {apos cpos : Pos} {kk : Nat} (hr : Room kk X.A) (hd : CE X C W d cd) (hk : CE X C W k ck) (hx : CE X C W x cx) (m : M2 X d "get" apos k x cpos := by exact ⟨rfl, rfl, rfl, rfl⟩) : CE X C W (.Call (.Attribute d "get" apos) [k, x] [] cpos) (eDGet2 cd ck cx) := fun hK =>
  pe_imp (pe_dget2 (hu_of hr) (hd hK) (hk hK) (hx hK) m) fun σ H Q ⟨S, m, ev, R, E, h⟩ => ⟨S, m, ev, R, E, (PostG.bnd h).imp fun a H1 ⟨S1, m1, da, g1, R1, i1, h1⟩ => by
    obtain ⟨p, kvs, rfl, isd, h1', -⟩ := isDic_is R1 i1 h1
    exact ⟨p, rfl, isd, S1, m1, ev, R1, E.mono g1, (PostG.bnd h1').imp fun y H2 ⟨S2, m2, dy, g2, R2, i2, h2⟩ => ⟨S2, m2, ev, R2, (E.mono g1).mono g2, (PostG.bnd h2).imp fun z H3 ⟨S3, m3, dz, g3, R3, i3, h3⟩ => by
      unfold gDGet2 at h3
      cases e1 : rdK da m3 with
      | none => simp only [e1] at h3; exact h3.elim
      | some kds =>
        cases e2 : keyD dy with
        | none => simp only [e1, e2] at h3; exact h3.elim
        | some q =>
          simp only [e1, e2] at h3
          obtain ⟨p', kws, ep, r, t⟩ := ((i1.mono g2).mono g3).rdK R3 e1
          cases ep
          obtain rfl := keyD_is i2 e2
          rcases valD_is (k := q) t with ⟨v1, v2⟩ | ⟨v, d, v1, v2, iv⟩
          · rw [v1] at h3
            exact ⟨none, .inl ⟨kws, q, r, rfl, v2.symm⟩, h3 S3 H3 _ .refl R3 i3⟩
          · rw [v1] at h3
            exact ⟨some v, .inl ⟨kws, q, r, rfl, v2.symm⟩, h3 S3 H3 _ .refl R3 iv⟩⟩⟩⟩
theorem dpop_is {S : Wd} {H : Hp} {m : Mem} {a y : V} {da dy : D} {z : Option D} {zv : V} {E : Ecl → Hp → Prop} {Q : VK} (R : Rep C S H m) (ia : IsV C S H a da) (iy : IsV C S H y dy) (iz : ∀ d, z = some d → IsV C S H zv d) (h : PostG C S H E (isV C) (gDPop da dy z m) Q) :
    ∃ p kvs k, a = .ref p ∧ H p = some (.dK kvs) ∧ y = kV k ∧ (∀ v, valV kvs k = some v → Q v (upd H p (.dK (dropK kvs k)))) ∧ (valV kvs k = none → Q zv H ∧ z ≠ none) := by
  unfold gDPop at h
  cases e1 : rdC da m with
  | none => simp only [e1] at h; exact h.elim
  | some kds =>
    cases e2 : keyD dy with
    | none => simp only [e1, e2] at h; exact h.elim
    | some q =>
      simp only [e1, e2] at h
      obtain ⟨n, p, kvs, rfl, rfl, al, hm, hp, t⟩ := rdC_is R ia e1
      obtain rfl := keyD_is iy e2
      refine ⟨p, kvs, q, rfl, hp, rfl, fun v hv => ?_, fun hv => ?_⟩
      · rcases valD_is (k := q) t with ⟨v1, v2⟩ | ⟨w, d, v1, v2, iv⟩
        · rw [v2] at hv; cases hv
        · rw [v2] at hv; cases hv
          simp only [v1] at h
          obtain ⟨R1, g⟩ := R.dicw al hm (t.drop (k := q))
          exact h _ _ _ g R1 (iv.mono g)
      · rcases valD_is (k := q) t with ⟨v1, v2⟩ | ⟨w, d, v1, v2, iv⟩
        · simp only [v1] at h
          cases z with
          | none => exact h.elim
          | some d => exact ⟨h S H _ .refl R (iz d rfl), fun e => nomatch e⟩
        · rw [v2] at hv; cases hv
theorem ce_dpop1 {d k : Expr} {cd ck : EC} {apos cpos : Pos} (hd : CE X C W d cd) (hk : CE X C W k ck) (m : M1 X d "pop" apos k cpos := by exact ⟨rfl, rfl, rfl, rfl⟩) : CE X C W (.Call (.Attribute d "pop" apos) [k] [] cpos) (eDPop1 cd ck) := fun hK =>
  pe_imp (pe_dpop1 (hd hK) (hk hK) m) fun σ H Q ⟨S, m, ev, R, E, h⟩ => ⟨S, m, ev, R, E, (PostG.bnd h).imp fun a H1 ⟨S1, m1, da, g1, R1, i1, h1⟩ => by
    obtain ⟨p, kvs, rfl, isd, h1', -⟩ := isDic_is R1 i1 h1
    exact ⟨p, rfl, isd, S1, m1, ev, R1, E.mono g1, (PostG.bnd h1').imp fun y H2 ⟨S2, m2, dy, g2, R2, i2, h2⟩ => by
      obtain ⟨p', kws, q, ep, hp, ey, q1, q2⟩ := dpop_is (zv := .non) R2 (i1.mono g2) i2 (by intro _ e; cases e) h2
      cases ep
      cases hv : valV kws q with
      | none => exact absurd rfl (q2 hv).2
      | some v => exact ⟨kws, q, v, hp, ey, hv, q1 v hv⟩⟩⟩
theorem ce_dpop2 {d k x : Expr} {cd ck cx : EC} {apos cpos : Pos} (hd : CE X C W d cd) (hk : CE X C W k ck) (hx : CE X C W x cx) (m : M2 X d "pop" apos k x cpos := by exact ⟨rfl, rfl, rfl, rfl⟩) : CE X C W (.Call (.Attribute d "pop" apos) [k, x] [] cpos) (eDPop2 cd ck cx) := fun hK =>
  pe_imp (pe_dpop2 (hd hK) (hk hK) (hx hK) m) fun σ H Q ⟨S, m, ev, R, E, h⟩ => ⟨S, m, ev, R, E, (PostG.bnd h).imp fun a H1 ⟨S1, m1, da, g1, R1, i1, h1⟩ => by
    obtain ⟨p, kvs, rfl, isd, h1', -⟩ := isDic_is R1 i1 h1
    exact ⟨p, rfl, isd, S1, m1, ev, R1, E.mono g1, (PostG.bnd h1').imp fun y H2 ⟨S2, m2, dy, g2, R2, i2, h2⟩ => ⟨S2, m2, ev, R2, (E.mono g1).mono g2, (PostG.bnd h2).imp fun z H3 ⟨S3, m3, dz, g3, R3, i3, h3⟩ => by
      obtain ⟨p', kws, q, ep, hp, ey, q1, q2⟩ := dpop_is (zv := z) R3 ((i1.mono g2).mono g3) (i2.mono g3) (fun d e => by cases e; exact i3) h3
      cases ep
      exact ⟨kws, q, hp, ey, q1, fun hv => (q2 hv).1⟩⟩⟩⟩
/-! ### statements -/
theorem cs_dput {d k e : Expr} {cd ck ce : EC} {pos' : Pos} {kk : Nat} (hr : Room kk X.A) (hd : CE X C W d cd) (hk : CE X C W k ck) (he : CE X C W e ce) (hs : swapsWith e (some (.Subscript d k pos')) pos.line X.env = pure false := by rfl) : CS X C W (.Assign [.Subscript d k pos'] e pos) (sDPutS cd ck ce) := fun hK =>
  ps_imp (ps_dput (hu_of hr) (hd hK) (hk hK) (he hK) hs) fun D σ H ⟨S, m, ev, R, E, h⟩ => ⟨S, m, ev, R, E, (post_of (rel := isV C) E h).imp fun v H1 ⟨S1, m1, dv, g1, R1, i1, E1, h1⟩ => ⟨S1, m1, ev, R1, E1, (post_of (rel := isV C) E1 h1).imp fun a H2 ⟨S2, m2, da, g2, R2, i2, E2, h2⟩ =>
    ⟨S2, m2, ev, R2, E2, (post_of (rel := isV C) E2 h2).imp fun y H3 ⟨S3, m3, dy, g3, R3, i3, E3, h3⟩ => by
      cases e1 : rdC da m3 with
      | none => simp only [e1] at h3; exact h3.elim
      | some kds =>
        cases e2 : keyD dy with
        | none => simp only [e1, e2] at h3; exact h3.elim
        | some q =>
          simp only [e1, e2] at h3
          obtain ⟨n, p, kvs, rfl, rfl, al, hm, hp, t⟩ := rdC_is R3 (i2.mono g3) e1
          obtain rfl := keyD_is i3 e2
          by_cases l : kds.length < SZ
          · rw [if_pos l] at h3
            obtain ⟨R4, g4⟩ := R3.dicw al hm (t.put (k := q) ((i1.mono g2).mono g3))
            exact ⟨p, _, rfl, .k hp (by rw [t.length]; exact sz_lt l), h3 _ _ _ g4 R4 (E3.mono g4)⟩
          · rw [if_neg l] at h3
            exact h3.elim⟩⟩⟩
theorem cs_lput {o i e : Expr} {co ci ce : EC} {pos' : Pos} (ho : CE X C W o co) (hi : CE X C W i ci) (he : CE X C W e ce) (hs : swapsWithSole [.Subscript o i pos'] e pos.line X.env = pure false := by rfl) (hw : swappedStores [.Subscript o i pos'] e X.env = pure none := by rfl) (h1 : (assignEach [.Subscript o i pos'] X.env).map (·.2) = [assign (.Subscript o i pos') X.env] := by rfl)
    (ha : ∀ v, assign (.Subscript o i pos') X.env v = (do
      let ov ← holding [v] (eval o X.env)
      let iv ← holding [v, ov] (eval i X.env)
      standAt pos'
      holding [v, ov, iv] (setItem ov iv v)
      release [v, ov, iv] []) := by intro _; rfl) : CS X C W (.Assign [.Subscript o i pos'] e pos) (sLPut co ci ce) := fun hK =>
  ps_imp (ps_asg (he hK) (pg_sub (ho hK) (hi hK) set_list ha) hs hw h1) fun D σ H ⟨S, m, ev, R, E, h⟩ => ⟨S, m, ev, R, E, (post_of (rel := isV C) E h).imp fun v H1 ⟨S1, m1, dv, g1, R1, i1, E1, h1⟩ => ⟨S1, m1, ev, R1, E1, (post_of (rel := isV C) E1 h1).imp fun a H2 ⟨S2, m2, da, g2, R2, i2, E2, h2⟩ =>
    ⟨S2, m2, ev, R2, E2, (post_of (rel := isV C) E2 h2).imp fun y H3 ⟨S3, m3, dy, g3, R3, i3, E3, h3⟩ => by
      cases i2 with
      | @ref p n al =>
        cases i3 with
        | int k =>
          dsimp only at h3
          cases q : m3[n]? with
          | none => simp only [q] at h3; exact h3.elim
          | some c =>
            simp only [q] at h3
            cases c with
            | lst xs =>
              dsimp only at h3
              cases q2 : ixN xs.length k with
              | none => simp only [q2] at h3; exact h3.elim
              | some j =>
                simp only [q2] at h3
                have al3 := g3.al _ _ al
                obtain ⟨vs, e1, t⟩ := R3.ok n p _ al3 q
                obtain ⟨R4, g4⟩ := R3.write (u := .lst (vs.set j v)) (c' := .lst (xs.set j dv)) al3 q trivial fun g => ⟨_, upd_same, (t.mono g).setn j (((i1.mono g2).mono g3).mono g)⟩
                exact ⟨p, vs, k, j, rfl, rfl, e1, by rw [t.length]; exact q2, h3 _ _ _ g4 R4 (E3.mono g4)⟩
            | _ => exact h3.elim
        | _ => exact h3.elim
      | _ => cases i3 <;> exact h3.elim⟩⟩⟩
/-! ### walks over dicts -/
/-- what a walk's rule asks and gives -/
def ItW (w : Wk) (d : Addr) (o : Obj) (kvs : List (Key × V)) : It := match w with
  | .keys => Itk d o kvs
  | .vals => Itd d o kvs
  | .items => Iti d o kvs
def iWk (w : Wk) (td : TE) : TI := fun σ H R => td σ H fun x H1 => ∃ d o kvs, x = .ref d ∧ H1 d = some (.frz o (.dK kvs)) ∧ R (ItW w d o kvs) H1
theorem kD_is {S : Wd} {H : Hp} (k : Key) : IsV C S H (kV k) (kD k) := by
  cases k with
  | inl i => exact .int i
  | inr s => exact .str s
/-- the turns over a locked dict -/
theorem itw_ok {w : Wk} {S : Wd} {H : Hp} {m : Mem} {n : Nat} {p : Addr} {o : Obj} {kvs : List (Key × V)} {kds : List (Key × D)} (R : Rep C S H m) (al : S.al[n]? = some p) (hm : m[n]? = some (.dic true kds)) (hp : H p = some (.frz o (.dK kvs))) (t : IsKs C S H kvs kds) :
    (∀ (i : Nat) (d : D), (w.of kds)[i]? = some d → (ItW w p o kvs).go i H ∧ ∀ x H2, (ItW w p o kvs).yld i H x H2 → ∃ S2, Grow S H S2 H2 ∧ Rep C S2 H2 m ∧ IsV C S2 H2 x d) ∧ (ItW w p o kvs).stop (w.of kds).length H := by
  have lt := t.length
  cases w with
  | keys =>
    refine ⟨fun i d e => ?_, hp, by show kvs.length ≤ (kds.map _).length; rw [List.length_map, lt]; exact Nat.le_refl _⟩
    rw [show (Wk.keys.of kds)[i]? = (kds[i]?).map fun kv => kD kv.1 from List.getElem?_map ..] at e
    obtain ⟨⟨k, dv⟩, e1, rfl⟩ := Option.map_eq_some_iff.mp e
    refine ⟨⟨hp, by rw [lt]; exact (List.getElem?_eq_some_iff.mp e1).1⟩, fun x H2 y => ?_⟩
    obtain ⟨rfl, k', v', q1, rfl⟩ := y
    obtain ⟨v, q2, _⟩ := t.at e1
    rw [q1] at q2
    cases q2
    exact ⟨S, .refl, R, kD_is k⟩
  | vals =>
    refine ⟨fun i d e => ?_, hp, by show kvs.length ≤ (kds.map _).length; rw [List.length_map, lt]; exact Nat.le_refl _⟩
    rw [show (Wk.vals.of kds)[i]? = (kds[i]?).map fun kv => kv.2 from List.getElem?_map ..] at e
    obtain ⟨⟨k, dv⟩, e1, rfl⟩ := Option.map_eq_some_iff.mp e
    refine ⟨⟨hp, by rw [lt]; exact (List.getElem?_eq_some_iff.mp e1).1⟩, fun x H2 y => ?_⟩
    obtain ⟨rfl, k', q1⟩ := y
    obtain ⟨v, q2, iv⟩ := t.at e1
    rw [q1] at q2
    cases q2
    exact ⟨S, .refl, R, iv⟩
  | items =>
    refine ⟨fun i d e => ?_, hp, by show kvs.length ≤ (kds.map _).length; rw [List.length_map, lt]; exact Nat.le_refl _⟩
    rw [show (Wk.items.of kds)[i]? = (kds[i]?).map fun kv => D.tup [kD kv.1, kv.2] from List.getElem?_map ..] at e
    obtain ⟨⟨k, dv⟩, e1, rfl⟩ := Option.map_eq_some_iff.mp e
    refine ⟨⟨hp, by rw [lt]; exact (List.getElem?_eq_some_iff.mp e1).1⟩, fun x H2 y => ?_⟩
    obtain ⟨T, k', v', q1, rfl, hT, rfl⟩ := y
    obtain ⟨v, q2, iv⟩ := t.at e1
    rw [q1] at q2
    cases q2
    obtain ⟨R2, g2⟩ := R.imm (u := .tup [kV k, v']) hT
    exact ⟨_, g2, R2, .tup Wd.put_same upd_same (.cons (kD_is k) (.cons (iv.mono g2) .nil))⟩
/-- the iterable's rule -/
theorem pi_wk {tg e : Expr} {td : TE} {apos cpos : Pos} (w : Wk) {elts : List Expr} {kk : Nat} {tpos : Pos} (htg : w = .items → tg = .Tuple elts kk tpos) (he : PE X e td) (hbk : w = .keys → attributeBase e "keys" X.env (eval e X.env) = eval e X.env) (hbv : w = .vals → attributeBase e "values" X.env (eval e X.env) = eval e X.env)
    (hbi : w = .items → attributeBase e "items" X.env (eval e X.env) = eval e X.env) (hline : (apos.endLine == cpos.line) = true) :
    PI X tg (.Call (.Attribute e (match w with | .keys => "keys" | .vals => "values" | .items => "items" : Str) apos) [] [] cpos) (iWk w td) := by
  cases w with
  | keys => exact pi_imp (pi_keysM he (hbk rfl) hline) fun σ H Q h => h
  | vals => exact pi_imp (pi_values he (hbv rfl) hline) fun σ H Q h => h
  | items =>
    obtain rfl := htg rfl
    exact pi_imp (pi_items he (hbi rfl) hline) fun σ H Q h => h
theorem cs_forD (w : Wk) {tg iter d : Expr} {body : List Stmt} {cd : EC} {g : TGt} {s : SC} (hp : PassesOwn (model X.prog X.w) X.A X.env X.xe) (hc : X.calm = true) (hi : ∀ td, PE X d td → PI X tg iter (iWk w td)) (hd : CE X C W d cd) (hg : CG X C tg g) (hb : CSs X C W body s)
    (hs : ∀ x, foldedSetIterable iter X.env x = pure x := by intro _; rfl) : CS X C W (.For tg iter body [] pos) (sForD w cd g s) := fun hK =>
  ps_imp (ps_lock (ps_for hp hc (hi _ (hd hK)) (hg hK) (hb hK) hs)) fun D σ H ⟨S, m, ev, R, E, h⟩ => by
    unfold sForD at h
    cases e0 : cd ev m with
    | stk => simp only [e0] at h; exact h.elim
    | exc c m' => simp only [e0] at h; exact h.elim
    | ok d0 m0 =>
      cases d0 with
      | ref n =>
        simp only [e0] at h
        cases q : m[n]? with
        | none => simp only [q] at h; exact h.elim
        | some c =>
          cases c with
          | dic lk kds =>
            cases lk with
            | true => simp only [q] at h; exact h.elim
            | false =>
              simp only [q] at h
              by_cases z : cd ev (m.set n (.dic true kds)) = .ok (.ref n) (m.set n (.dic true kds))
              · rw [if_pos z] at h
                have hn := (List.getElem?_eq_some_iff.mp q).1
                have hal : n < S.al.length := by rw [R.len]; exact hn
                obtain ⟨p, al⟩ : ∃ p, S.al[n]? = some p := ⟨_, List.getElem?_eq_getElem hal⟩
                obtain ⟨kvs, r0, l0, t, _⟩ := R.ok n p _ al q
                have hp0 := l0 rfl
                refine ⟨p, .dK kvs, hp0, trivial, fun od => ?_⟩
                obtain ⟨R1, g1⟩ := R.lock (o := od) al q t
                have E1 := E.mono g1
                have hm1 : (m.set n (Cell.dic true kds))[n]? = some (.dic true kds) := List.getElem?_set_self hn
                -- the expression, once more
                refine ⟨_, _, ev, R1, E1, ?_⟩
                rw [z]
                intro S2 H2 x g2 R2 ix
                cases ix with
                | @ref p' n' al' =>
                  have ep : p' = p := by
                    have e1 := g2.al _ _ (g1.al _ _ al)
                    rw [al'] at e1
                    exact Option.some.inj e1
                  subst ep
                  have hp2 : H2 p' = some (.frz od (.dK kvs)) := g2.hd p' _ _ Wd.put_same rfl trivial upd_same
                  refine ⟨p', od, kvs, rfl, hp2, ?_⟩
                  have E2 := E1.mono g2
                  -- from the locked heap on
                  have fin : ∀ {r : SR}, PostS C S H W D (unlS n kds r) → PostS C (S.put p' (.lck n)) (upd H p' (.frz od (.dK kvs))) W
                      ⟨fun σ' H' => H' p' = some (.frz od (.dK kvs)) ∧ D.nx σ' (upd H' p' (.dK kvs)), fun v H' => H' p' = some (.frz od (.dK kvs)) ∧ D.rt v (upd H' p' (.dK kvs)), fun σ' H' => H' p' = some (.frz od (.dK kvs)) ∧ D.bk σ' (upd H' p' (.dK kvs)), fun σ' H' => H' p' = some (.frz od (.dK kvs)) ∧ D.ct σ' (upd H' p' (.dK kvs))⟩ r := fun {r} hr => by
                    have key : ∀ {m' : Mem} {S' : Wd} {H' : Hp}, Grow (S.put p' (.lck n)) (upd H p' (.frz od (.dK kvs))) S' H' → Rep C S' H' m' → ∀ m'', unlk n kds m' = some m'' → H' p' = some (.frz od (.dK kvs)) ∧ Rep C (S'.put p' (.cell n)) (upd H' p' (.dK kvs)) m'' ∧ Grow S H (S'.put p' (.cell n)) (upd H' p' (.dK kvs)) ∧ Grow0 S' H' (S'.put p' (.cell n)) (upd H' p' (.dK kvs)) := fun {m' S' H'} g' R' m'' hu => by
                      unfold unlk at hu
                      cases qm : m'[n]? with
                      | none => simp only [qm] at hu; cases hu
                      | some c' =>
                        cases c' with
                        | dic lk' kx =>
                          cases lk' with
                          | true =>
                            simp only [qm] at hu
                            cases hu
                            have hO : S'.own p' = some (.lck n) := g'.own p' _ Wd.put_same rfl
                            have nim : ∀ b, S'.own b = some .imm → b ≠ p' := fun b h e => by rw [e, hO] at h; cases h
                            obtain ⟨a1, a2, a3⟩ := R.unlock al q t g' R' qm
                            exact ⟨a1, a2, a3, fun _ _ h => h, fun b h => by rw [Wd.put_ne (nim b h)]; exact h, fun b u h _ e => by rw [upd_ne (nim b h)]; exact e, fun b kvs' h r => rd_upd (nim b h) r⟩
                          | false => simp only [qm] at hu; cases hu
                        | _ => simp only [qm] at hu; cases hu
                    have env0 : ∀ {S' S'' : Wd} {H' H'' : Hp} {σ' : L2.St} {ev' : Ev}, Grow0 S' H' S'' H'' → EnvOk C S' H' σ' ev' → EnvOk C S'' H'' σ' ev' := fun g0 h => ⟨h.1, fun i d e => let ⟨v, a, b⟩ := h.2 i d e; ⟨v, a, b.mono0 g0⟩⟩
                    cases r with
                    | nx ev' m' =>
                      intro S' H' σ' g' R' E'
                      cases hu : unlk n kds m' with
                      | none => simp only [unlS, hu] at hr; exact hr.elim
                      | some m'' =>
                        simp only [unlS, hu] at hr
                        obtain ⟨a1, a2, a3, a4⟩ := key g' R' m'' hu
                        exact ⟨a1, hr _ _ σ' a3 a2 (env0 a4 E')⟩
                    | ret d m' =>
                      intro S' H' v g' R' i'
                      cases hu : unlk n kds m' with
                      | none => simp only [unlS, hu] at hr; exact hr.elim
                      | some m'' =>
                        simp only [unlS, hu] at hr
                        obtain ⟨a1, a2, a3, a4⟩ := key g' R' m'' hu
                        exact ⟨a1, hr _ _ v a3 a2 (i'.mono0 a4)⟩
                    | brk ev' m' =>
                      intro S' H' σ' g' R' E'
                      cases hu : unlk n kds m' with
                      | none => simp only [unlS, hu] at hr; exact hr.elim
                      | some m'' =>
                        simp only [unlS, hu] at hr
                        obtain ⟨a1, a2, a3, a4⟩ := key g' R' m'' hu
                        exact ⟨a1, hr _ _ σ' a3 a2 (env0 a4 E')⟩
                    | ct ev' m' =>
                      intro S' H' σ' g' R' E'
                      cases hu : unlk n kds m' with
                      | none => simp only [unlS, hu] at hr; exact hr.elim
                      | some m'' =>
                        simp only [unlS, hu] at hr
                        obtain ⟨a1, a2, a3, a4⟩ := key g' R' m'' hu
                        exact ⟨a1, hr _ _ σ' a3 a2 (env0 a4 E')⟩
                    | exc c ev' m' =>
                      intro S' H' σ' g' R' E'
                      exact hr S' H' σ' (g1.trans g') R' E'
                    | stk => exact hr.elim
                  have h2 := PostS.since g2 (fin h)
                  exact for_tail (w := ⟨w.of kds, fun m' => m'[n]? = some (.dic true kds)⟩) (fun S' H' m' g' R' hold => itw_ok R' (g'.al _ _ al') hold (g'.hd p' _ _ (g2.own _ _ Wd.put_same rfl) rfl trivial hp2) (((t.mono g1).mono g2).mono g')) R2 E2 h2
                | _ => exact absurd ix (fun z => nomatch z)
              · rw [if_neg z] at h; exact h.elim
          | _ => simp only [q] at h; exact h.elim
      | _ => simp only [e0] at h; exact h.elim
theorem ce_lcD (w : Wk) (nw : Bool) {N : List Str} {sc : Scope} {elt tg iter d : Expr} {ifs : List Expr} {scope : Scope} {own : List (Str × Nat)} {cd : EC} {g : TGt} {t : ET} {c : EC} (hc : X.calm = true) (hN : X.N.Nodup) (hi : ∀ td, PE X d td → PI X tg iter (iWk w td)) (hd : CE X C W d cd) (ok : BlkOk N sc scope own)
    (hg : ∀ (s : Shared) (H : Hp) (K : Addr) (cl : List (Str × Addr)) (fp : List Addr), CGw (X.blk s H scope (compEnvC scope cl K X.env) fp) C tg g (own.map (·.2)))
    (ht : ∀ (s : Shared) (H : Hp) (K : Addr) (cl : List (Str × Addr)) (fp : List Addr), CTs (X.blk s H scope (compEnvC scope cl K X.env) fp) C W0 ifs t)
    (he : ∀ (s : Shared) (H : Hp) (K : Addr) (cl : List (Str × Addr)) (fp : List Addr), CE (X.blk s H scope (compEnvC scope cl K X.env) fp) C W0 elt c)
    (hs : ∀ x, foldedSetIterable iter X.env x = pure x := by intro _; rfl) (eN : X.N = N := by rfl) (eS : X.env.scope = sc := by rfl) : CE X C W (.ListComp elt [⟨tg, iter, ifs, 0⟩] scope pos) (eLcD w nw (own.map (·.2)) cd g t c) := fun hK =>
  pe_imp (pe_lock (pe_lc hc hN (hi _ (hd hK)) (by rw [eN, eS]; exact ok) (fun s H K cl fp => hg s H K cl fp hK) (fun s H K cl fp => ht s H K cl fp hK) (fun s H K cl fp => he s H K cl fp hK) hs)) fun σ H Q ⟨S, m, ev, R, E, h⟩ => by
    unfold eLcD at h
    cases e0 : cd ev m with
    | stk => simp only [e0] at h; exact h.elim
    | exc c m' => simp only [e0] at h; exact h.elim
    | ok d0 m0 =>
      cases d0 with
      | ref n =>
        simp only [e0] at h
        cases q : m[n]? with
        | none => simp only [q] at h; exact h.elim
        | some cl =>
          cases cl with
          | dic lk kds =>
            cases lk with
            | true => simp only [q] at h; exact h.elim
            | false =>
              simp only [q] at h
              by_cases z : cd ev (m.set n (.dic true kds)) = .ok (.ref n) (m.set n (.dic true kds))
              · rw [if_pos z] at h
                have hn := (List.getElem?_eq_some_iff.mp q).1
                have hal : n < S.al.length := by rw [R.len]; exact hn
                obtain ⟨p, al⟩ : ∃ p, S.al[n]? = some p := ⟨_, List.getElem?_eq_getElem hal⟩
                obtain ⟨kvs, r0, l0, t', _⟩ := R.ok n p _ al q
                have hp0 := l0 rfl
                refine ⟨p, .dK kvs, hp0, trivial, fun od => ?_⟩
                obtain ⟨R1, g1⟩ := R.lock (o := od) al q t'
                have E1 := E.mono g1
                have hm1 : (m.set n (Cell.dic true kds))[n]? = some (.dic true kds) := List.getElem?_set_self hn
                refine ⟨_, _, ev, R1, E1, ?_⟩
                rw [z]
                intro S2 H2 x g2 R2 ix
                cases ix with
                | @ref p' n' al' =>
                  have ep : p' = p := by
                    have e1 := g2.al _ _ (g1.al _ _ al)
                    rw [al'] at e1
                    exact Option.some.inj e1
                  subst ep
                  have hp2 : H2 p' = some (.frz od (.dK kvs)) := g2.hd p' _ _ Wd.put_same rfl trivial upd_same
                  refine ⟨p', od, kvs, rfl, hp2, ?_⟩
                  have E2 := E1.mono g2
                  refine lc_tail (W := W) (ev := ev) (own := own.map (·.2)) (g := g) (t := t) (e := c) (Q := fun v H' => H' p' = some (.frz od (.dK kvs)) ∧ Q v (upd H' p' (.dK kvs))) (w := ⟨w.of kds, fun m' => m'[n]? = some (.dic true kds)⟩) (nw := nw) (fun S' H' m' g' R' hold => itw_ok R' (g'.al _ _ al') hold (g'.hd p' _ _ (g2.own _ _ Wd.put_same rfl) rfl trivial hp2) (((t'.mono g1).mono g2).mono g')) R2 E2 ?_
                  dsimp only
                  cases er : Lt.bnd (lcGo (fun m' => m'[n]? = some (.dic true kds)) g t c (wipeE ev (own.map (·.2))) (w.of kds) []) (outL nw) (m.set n (.dic true kds)) with
                  | stk => simp only [er] at h; exact h.elim
                  | exc _ _ => simp only [er] at h; exact h.elim
                  | ok x m' =>
                    simp only [er] at h
                    cases hu : unlk n kds m' with
                    | none => simp only [hu] at h; exact h.elim
                    | some m'' =>
                      simp only [hu] at h
                      intro S' H' v g' R' i'
                      unfold unlk at hu
                      cases qm : m'[n]? with
                      | none => simp only [qm] at hu; cases hu
                      | some c' =>
                        cases c' with
                        | dic lk' kx =>
                          cases lk' with
                          | true =>
                            simp only [qm] at hu
                            cases hu
                            have g3 := g2.trans g'
                            have hO : S'.own p' = some (.lck n) := g3.own p' _ Wd.put_same rfl
                            have nim : ∀ b, S'.own b = some .imm → b ≠ p' := fun b h e => by rw [e, hO] at h; cases h
                            obtain ⟨a1, a2, a3⟩ := R.unlock al q t' g3 R' qm
                            have g0 : Grow0 S' H' (S'.put p' (.cell n)) (upd H' p' (.dK kvs)) := ⟨fun _ _ h => h, fun b h => by rw [Wd.put_ne (nim b h)]; exact h, fun b u h _ e => by rw [upd_ne (nim b h)]; exact e, fun b kvs' h r => rd_upd (nim b h) r⟩
                            exact ⟨a1, h _ _ v a3 a2 (i'.mono0 g0)⟩
                          | false => simp only [qm] at hu; cases hu
                        | _ => simp only [qm] at hu; cases hu
              · rw [if_neg z] at h; exact h.elim
          | _ => simp only [q] at h; exact h.elim
      | _ => simp only [e0] at h; exact h.elim
end
end Lt

set_option Elab.async false
set_option linter.all false
set_option maxRecDepth 100000
/-! C14: sorted, min, max, sum, str, int of a text, methods of texts. -/
namespace Lt
open PySem PySem.Spec PyProof.Rows L2
/-! ### in the monad -/
def sortI (ns : List Int) : List Int := ns.mergeSort fun a b => decide (a ≤ b)
def sortS (ss : List Str) : List Str := ss.mergeSort fun a b => !strLt b a
def bSorted (nw : Bool) : List D → M D
  | [x] => fun m => match rdL x m with
    | some xs => match allI xs with
      | some is => outL nw ((sortI is).map D.int) m
      | none => match allS xs with
        | some ss => if ss.length < 64 then outL nw ((sortS ss).map D.str) m else .stk
        | none => .stk
    | none => .stk
  | _ => stuck
def keyS : List (Key × D) → Option (List Str)
  | [] => some []
  | (.inr s, _) :: r => (keyS r).map (s :: ·)
  | (.inl _, _) :: _ => none
def keyI : List (Key × D) → Option (List Int)
  | [] => some []
  | (.inl s, _) :: r => (keyI r).map (s :: ·)
  | (.inr _, _) :: _ => none
/-- sorted(d.keys()) -/
def eSoK (nw : Bool) (d : EC) : EC := fun ev => bnd (d ev) fun x m => match rdK x m with
  | some kvs => match keyS kvs with
    | some ks => if ks.length < 64 then outL nw ((sortS ks).map D.str) m else .stk
    | none => match keyI kvs with
      | some is => if is.length < 64 then outL nw ((sortI is).map D.int) m else .stk
      | none => .stk
  | none => .stk
def bMin2 : List D → M D
  | [.int i, .int j] => pur (.int (if j < i then j else i))
  | _ => stuck
def bMax2 : List D → M D
  | [.int i, .int j] => pur (.int (if j > i then j else i))
  | _ => stuck
def maxI : List Int → Int
  | [] => 0
  | n :: ns => ns.foldl max n
def bMax1 : List D → M D
  | [x] => fun m => match rdL x m with
    | some xs => match allI xs with
      | some is => if 0 < is.length then .ok (.int (maxI is)) m else .stk
      | none => .stk
    | none => .stk
  | _ => stuck
def bSum : List D → M D
  | [x] => fun m => match rdL x m with
    | some xs => match allI xs with
      | some is => .ok (.int is.sum) m
      | none => .stk
    | none => .stk
  | _ => stuck
def bStr : List D → M D
  | [.int i] => fun m => if i.natAbs.log2 < 1920 then .ok (.str (Str.ofString (toString i))) m else .stk
  | _ => stuck
def bIntS : List D → M D
  | [.str a] => fun m => match PySem.intText? a with
    | some n => if a.length ≤ 640 then .ok (.int n) m else .stk
    | none => .stk
  | _ => stuck
def mStarts (x : D) : List D → M D
  | [.str b] => match x with
    | .str a => pur (.bl (Txt.startswith a b))
    | _ => stuck
  | _ => stuck
def eDigit (o : EC) : EC := fun ev => bnd (o ev) fun x => match x with
  | .str a => pur (.bl (Txt.isdigit a))
  | _ => stuck
def mSplit (x : D) : List D → M D
  | [.str b] => match x with
    | .str a => fun m => if (b.length == 0) = false ∧ a.length + 2 ≤ SZ ∧ (Txt.split a b).length ≤ SZ then .ok (.lst ((Txt.split a b).map D.str)) m else .stk
    | _ => stuck
  | _ => stuck
/-! ### order -/
theorem sortI_uniq {ns ms : List Int} (p : ms.Perm ns) (s : ms.Pairwise (· ≤ ·)) : ms = sortI ns := by
  refine List.Perm.eq_of_pairwise (le := (· ≤ ·)) (fun a b _ _ h1 h2 => Int.le_antisymm h1 h2) s ?_ (p.trans (List.mergeSort_perm ns _).symm)
  have h := List.pairwise_mergeSort (le := fun a b : Int => decide (a ≤ b)) (fun a b c h1 h2 => by simp only [decide_eq_true_eq] at *; omega) (fun a b => by simp only [Bool.or_eq_true, decide_eq_true_eq]; omega) ns
  exact h.imp fun h => of_decide_eq_true h
theorem strLt_irr (a b : Str) (h1 : strLt a b = false) (h2 : strLt b a = false) : a = b := by
  unfold strLt at h1 h2
  have h3 : ¬ a.cps.toList < b.cps.toList := of_decide_eq_false h1
  have h4 : ¬ b.cps.toList < a.cps.toList := of_decide_eq_false h2
  have e : a.cps.toList = b.cps.toList := List.le_antisymm (List.not_lt.mp h4) (List.not_lt.mp h3)
  obtain ⟨⟨la⟩⟩ := a
  obtain ⟨⟨lb⟩⟩ := b
  simp only at e
  rw [e]
theorem strLe_trans (a b c : Str) (h1 : (!strLt b a) = true) (h2 : (!strLt c b) = true) : (!strLt c a) = true := by
  simp only [strLt, Bool.not_eq_true', decide_eq_false_iff_not, List.not_lt] at *
  exact List.le_trans h1 h2
theorem strLe_total (a b : Str) : ((!strLt b a) || (!strLt a b)) = true := by
  simp only [strLt, Bool.or_eq_true, Bool.not_eq_true', decide_eq_false_iff_not, List.not_lt]
  exact List.le_total _ _
theorem sortedS_pw : ∀ {ss : List Str}, sortedS ss = true → ss.Pairwise fun a b => (!strLt b a) = true := by
  have key : ∀ (ss : List Str) (p : Str), risingS p ss = true → (∀ x ∈ ss, (!strLt x p) = true) ∧ ss.Pairwise fun a b => (!strLt b a) = true := fun ss => by
    induction ss with
    | nil => exact fun p _ => ⟨fun _ h => (nomatch h), List.Pairwise.nil⟩
    | cons x r ih =>
      intro p h
      unfold risingS at h
      rw [Bool.and_eq_true, PyProof.Rows.ltCps_eq] at h
      obtain ⟨i1, i2⟩ := ih x h.2
      have h0 : (!strLt x p) = true := h.1
      refine ⟨fun y hy => ?_, .cons i1 i2⟩
      rcases List.mem_cons.mp hy with e | hy
      · rw [e]; exact h0
      · exact strLe_trans _ _ _ h0 (i1 y hy)
  intro ss h
  cases ss with
  | nil => exact .nil
  | cons x r =>
    obtain ⟨i1, i2⟩ := key r x h
    exact .cons i1 i2
theorem sortS_pw (ss : List Str) : (sortS ss).Pairwise fun a b => (!strLt b a) = true :=
  List.pairwise_mergeSort (le := fun a b => !strLt b a) strLe_trans strLe_total ss
theorem sortS_perm (ss : List Str) : (sortS ss).Perm ss := List.mergeSort_perm ss _
theorem sortS_uniq {ns ms : List Str} (p : ms.Perm ns) (s : ms.Pairwise fun a b => (!strLt b a) = true) : ms = sortS ns := by
  refine List.Perm.eq_of_pairwise (le := fun a b => (!strLt b a) = true) (fun a b _ _ h1 h2 => ?_) s (sortS_pw ns) (p.trans (sortS_perm ns).symm)
  simp only [Bool.not_eq_true'] at h1 h2
  exact strLt_irr a b h2 h1
theorem foldl_max : ∀ (ns : List Int) (a : Int), (∀ y, y ∈ a :: ns → y ≤ ns.foldl max a) ∧ ns.foldl max a ∈ a :: ns
  | [], a => ⟨fun y h => by simp at h; simp [h], by simp⟩
  | n :: ns, a => by
    obtain ⟨h1, h2⟩ := foldl_max ns (max a n)
    simp only [List.foldl_cons]
    refine ⟨fun y hy => ?_, ?_⟩
    · have h3 := h1 (max a n) List.mem_cons_self
      rcases List.mem_cons.mp hy with e | hy
      · rw [e]; omega
      · rcases List.mem_cons.mp hy with e | hy
        · rw [e]; omega
        · exact h1 y (List.mem_cons_of_mem _ hy)
    · rcases List.mem_cons.mp h2 with e | h
      · rw [e]
        by_cases z : a ≤ n
        · rw [Int.max_eq_right z]; simp
        · rw [Int.max_eq_left (by omega)]; simp
      · exact List.mem_cons_of_mem _ (List.mem_cons_of_mem _ h)
theorem maxI_is {ns : List Int} {m : Int} (h : m ∈ ns) (hm : ∀ y, y ∈ ns → y ≤ m) : m = maxI ns := by
  cases ns with
  | nil => cases h
  | cons n ns =>
    obtain ⟨h1, h2⟩ := foldl_max ns n
    exact Int.le_antisymm (h1 m h) (hm _ h2)
/-! ### the operations keep their promises -/
section
variable {C : Cn} {X : Cx}
theorem one_stuck {b : List D → M D} (h0 : b [] = stuck) (h2 : ∀ d e r, b (d :: e :: r) = stuck) : ∀ ds, (∀ d, ds ≠ [d]) → b ds = stuck
  | [], _ => h0
  | [d], n => absurd rfl (n d)
  | d :: e :: r, _ => h2 d e r
def rSoA (K : PySem.W.Frag) : List V → Hp → VK → Prop := fun vs H Q => rSortedI K vs H Q ∨ rSortedS K vs H Q
theorem cr_so : CallR X (.builtin "sorted") (rSoA X.K) := CallR.or cr_sortedI cr_sortedS
theorem opn_sorted (nw : Bool) : OpN C (rSoA C.K) (bSorted nw) := opn_one (one_stuck rfl fun _ _ _ => rfl) fun S H m x d E Q R ix h => by
  dsimp only [bSorted] at h
  cases e1 : rdL d m with
  | none => simp only [e1] at h; exact h.elim
  | some ys =>
    simp only [e1] at h
    obtain ⟨a, vs, rfl, sq, t⟩ := ix.rdL R e1
    cases e2 : allI ys with
    | some is =>
      simp only [e2] at h
      have ev := allI_is t e2
      subst ev
      refine .inl ⟨a, is, rfl, sq, fun ns p hp hs hn => ?_⟩
      rw [sortI_uniq hp hs]
      have tv : IsVs C S H ((sortI is).map V.int) ((sortI is).map D.int) := script_is _
      exact (post_out R tv h).2 p hn
    | none =>
      simp only [e2] at h
      cases e3 : allS ys with
      | none => simp only [e3] at h; exact h.elim
      | some ss =>
        simp only [e3] at h
        have ev := allS_is t e3
        subst ev
        by_cases l : ss.length < 64
        · rw [if_pos l] at h
          refine .inr ⟨a, ss, rfl, sq, l, fun ns p hp hs hn => ?_⟩
          rw [sortS_uniq hp (sortedS_pw hs)]
          exact (post_out R (strs_is (sortS ss)) h).2 p hn
        · rw [if_neg l] at h
          exact h.elim
theorem opn_min2 : OpN C (fun xs H Q => ∃ i j, xs = [.int i, .int j] ∧ Q (.int (if j < i then j else i)) H) bMin2 := fun S H m xs ds E Q R i h => by
  unfold bMin2 at h
  split at h
  · cases i with
    | cons i t =>
      cases i
      cases t with
      | cons i t => cases i; cases t; exact ⟨_, _, rfl, h S H _ .refl R (.int _)⟩
  · exact h.elim
theorem opn_max2 : OpN C (fun xs H Q => ∃ i j, xs = [.int i, .int j] ∧ Q (.int (if j > i then j else i)) H) bMax2 := fun S H m xs ds E Q R i h => by
  unfold bMax2 at h
  split at h
  · cases i with
    | cons i t =>
      cases i
      cases t with
      | cons i t => cases i; cases t; exact ⟨_, _, rfl, h S H _ .refl R (.int _)⟩
  · exact h.elim
theorem opn_max1 : OpN C (rMax C.K) bMax1 := opn_one (one_stuck rfl fun _ _ _ => rfl) fun S H m x d E Q R ix h => by
  dsimp only [bMax1] at h
  cases e1 : rdL d m with
  | none => simp only [e1] at h; exact h.elim
  | some ys =>
    simp only [e1] at h
    obtain ⟨a, vs, rfl, sq, t⟩ := ix.rdL R e1
    cases e2 : allI ys with
    | none => simp only [e2] at h; exact h.elim
    | some is =>
      simp only [e2] at h
      have ev := allI_is t e2
      subst ev
      by_cases l : 0 < is.length
      · rw [if_pos l] at h
        refine ⟨a, is, rfl, sq, l, fun m hm hle => ?_⟩
        rw [maxI_is hm hle]
        exact h S H _ .refl R (.int _)
      · rw [if_neg l] at h
        exact h.elim
theorem opn_sum : OpN C (rSum C.K) bSum := opn_one (one_stuck rfl fun _ _ _ => rfl) fun S H m x d E Q R ix h => by
  dsimp only [bSum] at h
  cases e1 : rdL d m with
  | none => simp only [e1] at h; exact h.elim
  | some ys =>
    simp only [e1] at h
    obtain ⟨a, vs, rfl, sq, t⟩ := ix.rdL R e1
    cases e2 : allI ys with
    | none => simp only [e2] at h; exact h.elim
    | some is =>
      simp only [e2] at h
      have ev := allI_is t e2
      subst ev
      exact ⟨a, is, rfl, sq, h S H _ .refl R (.int _)⟩
theorem opn_str : OpN C (fun xs H Q => ∃ i, xs = [.int i] ∧ i.natAbs.log2 < 1920 ∧ Q (.str (toString i)) H) bStr := opn_one (one_stuck rfl fun d _ _ => by cases d <;> rfl) fun S H m x d E Q R ix h => by
  cases ix with
  | int k =>
    dsimp only [bStr] at h
    by_cases z : k.natAbs.log2 < 1920
    · rw [if_pos z] at h
      exact ⟨k, rfl, z, h S H _ .refl R (.str _)⟩
    · rw [if_neg z] at h
      exact h.elim
  | _ => exact h.elim
theorem opn_intS : OpN C (fun xs H Q => ∃ a n, xs = [.str a] ∧ PySem.intText? a = some n ∧ a.length ≤ 640 ∧ Q (.int n) H) bIntS := opn_one (one_stuck rfl fun d _ _ => by cases d <;> rfl) fun S H m x d E Q R ix h => by
  cases ix with
  | str a =>
    dsimp only [bIntS] at h
    cases e : PySem.intText? a with
    | none => simp only [e] at h; exact h.elim
    | some n =>
      simp only [e] at h
      by_cases z : a.length ≤ 640
      · rw [if_pos z] at h
        exact ⟨a, n, rfl, e, z, h S H _ .refl R (.int _)⟩
      · rw [if_neg z] at h
        exact h.elim
  | _ => exact h.elim
theorem opm_starts : OpM C (fun x xs H Q => ∃ a b, x = .str a ∧ xs = [.str b] ∧ Q (.bl (Txt.startswith a b)) H) mStarts := fun S H m x xs d ds E Q R ix i h => by
  unfold mStarts at h
  split at h
  · cases i with
    | cons i t =>
      cases i
      cases t
      cases ix with
      | str a => exact ⟨a, _, rfl, rfl, h S H _ .refl R (.bl _)⟩
      | _ => exact h.elim
  · exact h.elim
theorem opm_split : OpM C (fun x xs H Q => ∃ a b, x = .str a ∧ xs = [.str b] ∧ (b.length == 0) = false ∧ a.length + 2 ≤ sizeLine ∧ rNewStrs (Txt.split a b) H Q) mSplit := fun S H m x xs d ds E Q R ix i h => by
  unfold mSplit at h
  split at h
  · cases i with
    | cons i t =>
      cases i
      cases t
      rename_i b
      cases ix with
      | str a =>
        dsimp only at h
        by_cases z : (b.length == 0) = false ∧ a.length + 2 ≤ SZ ∧ (Txt.split a b).length ≤ SZ
        · rw [if_pos z] at h
          refine ⟨a, b, rfl, rfl, z.1, sz_le z.2.1, fun p hp => ?_⟩
          obtain ⟨R1, g⟩ := R.imm (u := .lst ((Txt.split a b).map V.str)) hp
          exact h _ _ _ g R1 (.lst Wd.put_same upd_same (strs_is _))
        · rw [if_neg z] at h
          exact h.elim
      | _ => exact h.elim
  · exact h.elim
end
/-! ### sorted(d.keys()) -/
section
variable {X : Cx} {C : Cn} {W : WX} {pos : Pos}
def tSoK (td : TE) : TE := fun σ H Q => td σ H fun x H1 => ∃ (a : Addr) (kvs : List (Key × V)), x = .ref a ∧ Rd H1 a (.dK kvs) ∧ kvs.length < 64 ∧
  ((∃ ks : List Str, kvs.map (·.1) = ks.map Sum.inr ∧ ∀ (ys : List Str) (p : Addr), ys.Perm ks → sortedS ys = true → H1 p = none → Q (.ref p) (upd H1 p (.lst (ys.map V.str)))) ∨
   ∃ ks : List Int, kvs.map (·.1) = ks.map Sum.inl ∧ ∀ (ys : List Int) (p : Addr), ys.Perm ks → ys.Pairwise (· ≤ ·) → H1 p = none → Q (.ref p) (upd H1 p (.lst (ys.map V.int))))
theorem pe_soK {o : Expr} {td : TE} {p apos mpos : Pos} (hc : X.calm = true) (hg : Gl X "sorted") (hm : X.mg "sorted" = none) (hd : PE X o td) (hbase : attributeBase o "keys" X.env (eval o X.env) = eval o X.env := by rfl) (hline : (apos.endLine == mpos.line) = true := by rfl)
    (hse : starEach [Expr.Call (.Attribute o "keys" apos) [] [] mpos] X.env = [(false, eval (Expr.Call (.Attribute o "keys" apos) [] [] mpos) X.env)] := by rfl) :
    PE X (.Call (.Name "sorted" p) [.Call (.Attribute o "keys" apos) [] [] mpos] [] pos) (tSoK td) := by
  refine ⟨fun pins s σ H Q I h => ?_⟩
  refine wpAny_Call_Name_kw (ld_blt I hg hm (u := .builtin "sorted") (by first | rfl | decide +kernel) ?_ (by first | decide +kernel | decide) (by first | decide +kernel | decide))
  rw [hse]
  refine PySem.callWith_builtin1 (wpAny_Call_method0_late hbase hline (thn (hd.run pins s σ H _ I h) fun v s1 ⟨x, H1, I1, r1, a, kvs, ex, ha, h64, q⟩ => ?_))
  subst ex
  obtain rfl : v = Value.ref a := r1
  obtain ⟨_, hsys, vs, rel, dof⟩ := dk_rd I1.hok ha
  obtain ⟨ep, dat⟩ := dof.dictAt
  have dat' := dat
  obtain ⟨ob, es, ho, ex, hdat, hko, hpr, hnd⟩ := dat'
  refine ⟨"dict", "dict.keys", F.plainAttrs_dict, F.slot_dict_keys, F.type_dict_keys, ⟨ob, ho, ex.1⟩, fun b e => ?_, Calls.callWith_builtin rfl (PySem.evalArgs_none ?_)⟩
  · cases e
    exact ⟨ob, ho, ex.2.1⟩
  refine call_meetsIn F.slot_dict_keys ⟨ob, ho, ex.1⟩ F.entry_dict_keys (F.args_dict_keys_1 _) (PySem.W.kdl_meets_keys (mixKind X.prog X.w) a hsys) ⟨⟨vs, dof⟩, ?_⟩
  have k1 : ∀ b u, s1.heap.get? b = some u → (s1.heap.push { cls := .type "dict_keys", data := .fields #[.ref a] }).get? b = some u := fun b u e => Heap.get?_push_of_some _ e
  have dat1 : (s1.heap.push { cls := .type "dict_keys", data := .fields #[.ref a] }).DictAt (mixKind X.prog X.w) a vs ep := dat.keep k1
  have hview : PySem.W.KdlKeysView (s1.heap.push { cls := .type "dict_keys", data := .fields #[.ref a] }) s1.heap.objs.size a := ⟨_, Heap.get?_push_size _ rfl, rfl, rfl⟩
  have hlen : vs.length = kvs.length := (KV.length rel).symm
  have h16 : vs.length ≤ sizeLine := by rw [hlen, sizeLine_eq]; omega
  have I2 : Inv X pins σ H1 { s1 with heap := s1.heap.push { cls := .type "dict_keys", data := .fields #[.ref a] } } := I1.kept (t' := s1.toks) k1
  generalize hs2 : ({ s1 with heap := s1.heap.push { cls := .type "dict_keys", data := .fields #[.ref a] } } : Shared) = s2 at I2
  have hv2 : PySem.W.KdlKeysView s2.heap s1.heap.objs.size a ∧ s2.heap.DictAt (mixKind X.prog X.w) a vs ep := by rw [← hs2]; exact ⟨hview, dat1⟩
  have goal2 : wpAny (model X.prog X.w) X.A (call (.builtin "sorted") [.ref s1.heap.objs.size]) (EP X pins σ Q) X.xe s2 := by
    refine Calls.call_function_entry PyProof.Rows.kind_sorted PyProof.Rows.plain_sorted PyProof.Rows.entry_sorted (PyProof.Rows.args_sorted1 _) ?_
    unfold Builtin.«sorted»
    refine wpAny_bind (m := checkCount "sorted" 1 1 _) (wpAny_pure ?_)
    refine wpAny_bind (PySem.W.kdu_collect (A := X.A.in1) (PySem.W.kdl_keys (knd := mixKind X.prog X.w) (kvs := vs) (ep := ep) (d := a)) (I.ok.hd hc) hv2 h16 fun h' tk acc hk hacc => ?_)
    have I3 : Inv X pins σ H1 { s2 with heap := h', toks := tk } := I2.kept hk
    have hal : acc.toList.length = vs.length := by rw [Array.length_toList, hacc.1]
    refine wpAny_bind (wpAny_newList ?_ (by rw [hal]; exact h16))
    have hoL : (h'.push (seqObj "list" acc.toList.toArray 0)).get? h'.objs.size = some (seqObj "list" acc.toList.toArray 0) := Heap.get?_push_size _ rfl
    show wpAny _ _ _ _ _ { s2 with heap := h'.push (seqObj "list" acc.toList.toArray 0), toks := tk }
    rcases q with ⟨ks, hks, q⟩ | ⟨ks, hks, q⟩
    · have hkeys : vs.map (·.1) = ks.map Sum.inr := rel.keys.symm.trans hks
      have hl : vs.length = ks.length := by
        have e := congrArg List.length hkeys
        rw [List.length_map, List.length_map] at e
        exact e
      have hS : StrsAre acc.toList ks := strs_at (by rw [hal, hl]) fun j v e => by
        obtain ⟨k, x, e1, e2⟩ := hacc.2 j v (by rw [← Array.getElem?_toList]; exact e)
        have e3 : (vs.map (·.1))[j]? = some k := by rw [List.getElem?_map, e1]; all_goals rfl
        rw [hkeys, List.getElem?_map] at e3
        cases e4 : ks[j]? with
        | none => rw [e4] at e3; cases e3
        | some y =>
          rw [e4] at e3
          have e5 : Sum.inr y = k := Option.some.inj e3
          subst e5
          obtain ⟨t, ev⟩ := Value.isStrOf_shape (x := y) (v := v) e2
          exact ⟨y, t, rfl, ev⟩
      refine wpAny_bind (wpAny_holding (wpAny_call_entry PyProof.Rows.slot_list_sort ⟨_, hoL, rfl⟩ PyProof.Rows.entry_list_sort
        (list_sort_treeK strKind_oneLt (s := { s2 with heap := h'.push (seqObj "list" acc.toList.toArray 0), toks := tk }) hoL hS.keysOf (fun v₁ v₂ rest e => keyKind_strs (by rw [← e]; exact hS)) (by rw [hal, hlen]; exact h64) fun st' hp hs => ⟨_, rfl, ?_⟩)
        (PyProof.Rows.args_list_sort _)))
      obtain ⟨ys, g1, g2, g3⟩ := sorted_out_str hS hp hs
      obtain ⟨e', he'⟩ := PyProof.Rows.sortedHeap_at (vs := acc.toList) (out := (arrOf st').map (·.2)) hoL
      have hlen : (ys.map V.str).length ≤ sizeLine := by
        rw [List.length_map, g2.length_eq, ← hl]
        exact h16
      refine wpAny_pure ⟨_, rfl, .ref h'.objs.size, upd H1 h'.objs.size (.lst (ys.map V.str)), I3.laid (t' := tk) (fun b u e => ?_) (Nat.le_refl _)
        (show ObjOk X.prog X.w _ _ _ (.lst (ys.map V.str)) from ⟨hlen, ((arrOf st').map (·.2)).toList, e', vals_of_strs g1, by rw [Array.toArray_toList]; exact he'⟩), rfl, q ys _ g2 g3 (I3.hok.fresh (Nat.le_refl _))⟩
      have hb : b < h'.objs.size := Heap.lt_size e
      rw [PyProof.Rows.sortedHeap_old (Nat.ne_of_lt hb) (by rw [size_push']; exact Nat.lt_succ_of_lt hb)]
      exact Heap.get?_push_of_some _ e
    · have hkeys : vs.map (·.1) = ks.map Sum.inl := rel.keys.symm.trans hks
      have hl : vs.length = ks.length := by
        have e := congrArg List.length hkeys
        rw [List.length_map, List.length_map] at e
        exact e
      have hS : IntsAre acc.toList ks := ints_each (by rw [hal, hl]) fun j v e => by
        obtain ⟨k, x, e1, e2⟩ := hacc.2 j v (by rw [← Array.getElem?_toList]; exact e)
        have e3 : (vs.map (·.1))[j]? = some k := by rw [List.getElem?_map, e1]; rfl
        rw [hkeys, List.getElem?_map] at e3
        cases e4 : ks[j]? with
        | none => rw [e4] at e3; cases e3
        | some y =>
          rw [e4] at e3
          have e5 : Sum.inl y = k := Option.some.inj e3
          subst e5
          rcases keyIs_shape (show keyIs (Sum.inl y) v = true from e2) with ⟨i, t, ek, ev⟩ | ⟨z, t, ek, ev⟩
          · cases ek
            exact ⟨y, t, rfl, ev⟩
          · cases ek
      refine wpAny_bind (wpAny_holding (wpAny_call_entry PyProof.Rows.slot_list_sort ⟨_, hoL, rfl⟩ PyProof.Rows.entry_list_sort
        (PyProof.Rows.list_sort_tree (s := { s2 with heap := h'.push (seqObj "list" acc.toList.toArray 0), toks := tk }) hoL hS (by rw [hal, hlen]; exact h64) fun out ys g1 g2 g3 => ⟨_, rfl, ?_⟩) (PyProof.Rows.args_list_sort _)))
      obtain ⟨e', he'⟩ := PyProof.Rows.sortedHeap_at (vs := acc.toList) (out := out) hoL
      have hlen : (ys.map V.int).length ≤ sizeLine := by
        rw [List.length_map, g2.length_eq, ← hl]
        exact h16
      refine wpAny_pure ⟨_, rfl, .ref h'.objs.size, upd H1 h'.objs.size (.lst (ys.map V.int)), I3.laid (t' := tk) (fun b u e => ?_) (Nat.le_refl _)
        (show ObjOk X.prog X.w _ _ _ (.lst (ys.map V.int)) from ⟨hlen, out.toList, e', vals_of_ints g1, by rw [Array.toArray_toList]; exact he'⟩), rfl, q ys _ g2 g3 (I3.hok.fresh (Nat.le_refl _))⟩
      have hb : b < h'.objs.size := Heap.lt_size e
      rw [PyProof.Rows.sortedHeap_old (Nat.ne_of_lt hb) (by rw [size_push']; exact Nat.lt_succ_of_lt hb)]
      exact Heap.get?_push_of_some _ e
  exact goal2
theorem keyS_is {kvs : List (Key × D)} : ∀ {ks : List Str}, keyS kvs = some ks → kvs.map (·.1) = ks.map Sum.inr := by
  induction kvs with
  | nil => intro ks h; cases h; rfl
  | cons kv r ih =>
    intro ks h
    obtain ⟨k, d⟩ := kv
    cases k with
    | inl i => cases h
    | inr s =>
      obtain ⟨ls, h1, rfl⟩ := Option.map_eq_some_iff.mp (show (keyS r).map (s :: ·) = some ks from h)
      simp only [List.map_cons, ih h1]
theorem keyI_is {kvs : List (Key × D)} : ∀ {ks : List Int}, keyI kvs = some ks → kvs.map (·.1) = ks.map Sum.inl := by
  induction kvs with
  | nil => intro ks h; cases h; rfl
  | cons kv r ih =>
    intro ks h
    obtain ⟨k, d⟩ := kv
    cases k with
    | inr i => cases h
    | inl s =>
      obtain ⟨ls, h1, rfl⟩ := Option.map_eq_some_iff.mp (show (keyI r).map (s :: ·) = some ks from h)
      simp only [List.map_cons, ih h1]
theorem ce_soK (nw : Bool) {o : Expr} {co : EC} {p apos mpos : Pos} (hc : X.calm = true) (hm : X.mg "sorted" = none) (ho : CE X C W o co) (hg : Gl X "sorted" := by rfl) (hbase : attributeBase o "keys" X.env (eval o X.env) = eval o X.env := by rfl) (hline : (apos.endLine == mpos.line) = true := by rfl)
    (hse : starEach [Expr.Call (.Attribute o "keys" apos) [] [] mpos] X.env = [(false, eval (Expr.Call (.Attribute o "keys" apos) [] [] mpos) X.env)] := by rfl) :
    CE X C W (.Call (.Name "sorted" p) [.Call (.Attribute o "keys" apos) [] [] mpos] [] pos) (eSoK nw co) := fun hK =>
  pe_imp (pe_soK hc hg hm (ho hK) hbase hline hse) fun σ H Q ⟨S, m, ev, R, E, h⟩ => ⟨S, m, ev, R, E, (PostG.bnd h).imp fun x H1 ⟨S1, m1, d, g1, R1, i1, h1⟩ => by
    cases e1 : rdK d m1 with
    | none => simp only [e1] at h1; exact h1.elim
    | some kds =>
      simp only [e1] at h1
      obtain ⟨a, kvs, rfl, r, t⟩ := i1.rdK R1 e1
      have tl := t.length
      cases e2 : keyS kds with
      | some ks =>
        simp only [e2] at h1
        have kk := keyS_is e2
        have kl := congrArg List.length kk
        rw [List.length_map, List.length_map] at kl
        by_cases l : ks.length < 64
        · rw [if_pos l] at h1
          refine ⟨a, kvs, rfl, r, by omega, .inl ⟨ks, t.keys.trans kk, fun ys p hp hs hn => ?_⟩⟩
          rw [sortS_uniq hp (sortedS_pw hs)]
          exact (post_out R1 (strs_is (sortS ks)) h1).2 p hn
        · rw [if_neg l] at h1; exact h1.elim
      | none =>
        simp only [e2] at h1
        cases e3 : keyI kds with
        | none => simp only [e3] at h1; exact h1.elim
        | some ks =>
          simp only [e3] at h1
          have kk := keyI_is e3
          have kl := congrArg List.length kk
          rw [List.length_map, List.length_map] at kl
          by_cases l : ks.length < 64
          · rw [if_pos l] at h1
            refine ⟨a, kvs, rfl, r, by omega, .inr ⟨ks, t.keys.trans kk, fun ys p hp hs hn => ?_⟩⟩
            rw [sortI_uniq hp hs]
            have tv : IsVs C S1 H1 ((sortI ks).map V.int) ((sortI ks).map D.int) := script_is _
            exact (post_out R1 tv h1).2 p hn
          · rw [if_neg l] at h1; exact h1.elim⟩
/-! ### short words -/
theorem ce_sorted (nw : Bool) {p : Pos} {e : Expr} {A : EA} (hm : X.mg "sorted" = none) (ha : CA X C W [e] A) (hg : Gl X "sorted" := by rfl) (he : starEach [e] X.env = (false, eval e X.env) :: starEach [] X.env := by rfl) (hpl : (backTo pos (starEach [] X.env)).any (·.1) = false := by rfl) : CE X C W (.Call (.Name "sorted" p) [e] [] pos) (eB1 (bSorted nw) A) :=
  ce_bi cr_so (fun h => by rw [← h]; exact opn_sorted nw) hm (by decide +kernel) ha hg (by decide) (by decide) he hpl
theorem ce_min2 {p : Pos} {a b : Expr} {A : EA} (hc : X.calm = true) (hm : X.mg "min" = none) (ha : CA X C W [a, b] A) (hg : Gl X "min" := by rfl) (he : starEach [a, b] X.env = (false, eval a X.env) :: starEach [b] X.env := by rfl) (hpl : (backTo pos (starEach [b] X.env)).any (·.1) = false := by rfl) : CE X C W (.Call (.Name "min" p) [a, b] [] pos) (eB1 bMin2 A) :=
  ce_bi (call_min2 hc) (fun _ => opn_min2) hm (by decide +kernel) ha hg (by decide) (by decide) he hpl
theorem ce_max2 {p : Pos} {a b : Expr} {A : EA} (hc : X.calm = true) (hm : X.mg "max" = none) (ha : CA X C W [a, b] A) (hg : Gl X "max" := by rfl) (he : starEach [a, b] X.env = (false, eval a X.env) :: starEach [b] X.env := by rfl) (hpl : (backTo pos (starEach [b] X.env)).any (·.1) = false := by rfl) : CE X C W (.Call (.Name "max" p) [a, b] [] pos) (eB1 bMax2 A) :=
  ce_bi (call_max2 hc) (fun _ => opn_max2) hm (by decide +kernel) ha hg (by decide) (by decide) he hpl
theorem ce_max1 {p : Pos} {e : Expr} {A : EA} (hc : X.calm = true) (hm : X.mg "max" = none) (ha : CA X C W [e] A) (hg : Gl X "max" := by rfl) (he : starEach [e] X.env = (false, eval e X.env) :: starEach [] X.env := by rfl) (hpl : (backTo pos (starEach [] X.env)).any (·.1) = false := by rfl) : CE X C W (.Call (.Name "max" p) [e] [] pos) (eB1 bMax1 A) :=
  ce_bi (cr_max hc) (fun h => by rw [← h]; exact opn_max1) hm (by decide +kernel) ha hg (by decide) (by decide) he hpl
theorem ce_sum {p : Pos} {e : Expr} {A : EA} (hc : X.calm = true) (hm : X.mg "sum" = none) (ha : CA X C W [e] A) (hg : Gl X "sum" := by rfl) (he : starEach [e] X.env = (false, eval e X.env) :: starEach [] X.env := by rfl) (hpl : (backTo pos (starEach [] X.env)).any (·.1) = false := by rfl) : CE X C W (.Call (.Name "sum" p) [e] [] pos) (eB1 bSum A) :=
  ce_bi (cr_sum hc) (fun h => by rw [← h]; exact opn_sum) hm (by decide +kernel) ha hg (by decide) (by decide) he hpl
theorem ce_str1 {p : Pos} {e : Expr} {A : EA} (hm : X.mg "str" = none) (ha : CA X C W [e] A) (hg : Gl X "str" := by rfl) (he : starEach [e] X.env = (false, eval e X.env) :: starEach [] X.env := by rfl) (hpl : (backTo pos (starEach [] X.env)).any (·.1) = false := by rfl) : CE X C W (.Call (.Name "str" p) [e] [] pos) (eB1 bStr A) :=
  ce_ty call_str_int (fun _ => opn_str) hm (by decide +kernel) ha hg (by decide) (by decide) he hpl
theorem ce_intS {p : Pos} {e : Expr} {A : EA} (hm : X.mg "int" = none) (ha : CA X C W [e] A) (hg : Gl X "int" := by rfl) (he : starEach [e] X.env = (false, eval e X.env) :: starEach [] X.env := by rfl) (hpl : (backTo pos (starEach [] X.env)).any (·.1) = false := by rfl) : CE X C W (.Call (.Name "int" p) [e] [] pos) (eB1 bIntS A) :=
  ce_ty call_int_str (fun _ => opn_intS) hm (by decide +kernel) ha hg (by decide) (by decide) he hpl
theorem ce_starts {o e : Expr} {co ce : EC} {apos cpos : Pos} (ho : CE X C W o co) (he : CE X C W e ce) (hst : starEach [e] X.env = [(false, eval e X.env)] := by rfl) (hbase : attributeBase o "startswith" X.env (eval o X.env) = eval o X.env := by rfl) (hline : (apos.endLine == cpos.line) = true := by rfl) :
    CE X C W (.Call (.Attribute o "startswith" apos) [e] [] cpos) (eMS mStarts co (aCons ce aNil)) := ce_ms PySem.F.slot_str_startswith PySem.F.type_str_startswith mt_startswith (fun _ => opm_starts) ho he hst hbase hline
theorem ce_split {o e : Expr} {co ce : EC} {apos cpos : Pos} (ho : CE X C W o co) (he : CE X C W e ce) (hst : starEach [e] X.env = [(false, eval e X.env)] := by rfl) (hbase : attributeBase o "split" X.env (eval o X.env) = eval o X.env := by rfl) (hline : (apos.endLine == cpos.line) = true := by rfl) :
    CE X C W (.Call (.Attribute o "split" apos) [e] [] cpos) (eMS mSplit co (aCons ce aNil)) := ce_ms PySem.F.slot_str_split PySem.F.type_str_split mt_split (fun _ => opm_split) ho he hst hbase hline
theorem ce_digit {o : Expr} {co : EC} {apos : Pos} (ho : CE X C W o co) (hbase : attributeBase o "isdigit" X.env (eval o X.env) = eval o X.env := by rfl) (hline : (apos.endLine == pos.line) = true := by rfl) :
    CE X C W (.Call (.Attribute o "isdigit" apos) [] [] pos) (eDigit co) := fun hK =>
  pe_imp (pe_m0 PySem.F.slot_str_isdigit PySem.F.type_str_isdigit mt_isdigit (ho hK) hbase hline) fun σ H Q ⟨S, m, ev, R, E, h⟩ => ⟨S, m, ev, R, E, (PostG.bnd h).imp fun x H1 ⟨S1, m1, d, g1, R1, i1, h1⟩ => by
    cases i1 with
    | str a => exact ⟨⟨a, rfl⟩, a, rfl, rfl, trivial, h1 S1 H1 _ .refl R1 (.bl _)⟩
    | _ => exact h1.elim⟩
end
end Lt

set_option Elab.async false
set_option linter.all false
set_option maxRecDepth 100000
/-! C15: copies of dicts. -/
namespace Lt
open PySem PySem.Spec PyProof.Rows L2
/-- d.copy() -/
def gDCopy (a : D) : M D := fun m => match rdK a m with
  | some kvs => .ok (.ref m.length) (m ++ [.dic false kvs])
  | none => .stk
def eDCopy (d : EC) : EC := fun ev => bnd (d ev) gDCopy
def tDCopy (td : TE) : TE := fun σ H Q => td σ H fun x H1 => ∃ a kvs, x = .ref a ∧ Rd H1 a (.dK kvs) ∧ ∀ p, H1 p = none → Q (.ref p) (upd H1 p (.dK kvs))
section
variable {X : Cx} {C : Cn} {W : WX} {pos : Pos}
theorem d_copy {pins : List (Addr × Obj)} {σ : L2.St} {H : Hp} {s : Shared} {a : Addr} {kvs : List (Key × V)} {A : Around} {E : Value → Shared → Prop} {Q : Value → Shared → Prop} (I : Inv X pins σ H s) (e : Rd H a (.dK kvs)) (h : ∀ p s', H p = none → Inv X pins σ (upd H p (.dK kvs)) s' → Q (.ref p) s') :
    wpAny (model X.prog X.w) A (call (.builtin "dict.copy") [.ref a]) Q E s := by
  obtain ⟨z, hd, vs, rel, dd⟩ := dk_rd I.hok e
  refine call_meetsIn PySem.F.slot_dict_copy dd.typeIs PySem.F.entry_dict_copy (PySem.F.args_dict_copy_1 _) (meets_dict_copy (mixKind X.prog X.w) a hd) ⟨_, dd, by rw [← rel.length]; exact z, fun h' d1 d2 hs => ?_⟩
  exact h _ _ (I.hok.fresh (Nat.le_refl _)) (I.laid (a := s.heap.objs.size) (o := .dK kvs) (t' := s.toks) (fun b q hq => hs b q hq) (Nat.le_refl _) (dk_new z (beq_eq_false_iff_ne.mpr (Ne.symm (Nat.ne_of_lt I.big))) rel d1))
theorem pe_dcopy {o : Expr} {apos cpos : Pos} {td : TE} (ho : PE X o td) (hbase : attributeBase o "copy" X.env (eval o X.env) = eval o X.env := by rfl) (hline : (apos.endLine == cpos.line) = true := by rfl) : PE X (.Call (.Attribute o "copy" apos) [] [] cpos) (tDCopy td) := by
  refine ⟨fun pins s σ H Q I h => ?_⟩
  refine PySem.Call_method0 hbase hline (thn (ho.run pins s σ H _ I h) fun v s1 ⟨x, H1, I1, r1, a, kvs, ex, rd, q1⟩ => ?_)
  subst ex
  obtain rfl : v = Value.ref a := r1
  obtain ⟨t1, t2, _⟩ := isD_at I1 (.inl ⟨kvs, rd⟩)
  exact ⟨"dict", _, PySem.F.plainAttrs_dict, PySem.F.slot_dict_copy, PySem.F.type_dict_copy, t1, t2, Calls.callWith_builtin rfl (PySem.evalArgs_none (d_copy I1 rd fun p s2 hp I2 => ⟨.ref p, _, I2, rfl, q1 p hp⟩))⟩
theorem ce_dcopy {o : Expr} {co : EC} {apos : Pos} (ho : CE X C W o co) (hbase : attributeBase o "copy" X.env (eval o X.env) = eval o X.env := by rfl) (hline : (apos.endLine == pos.line) = true := by rfl) :
    CE X C W (.Call (.Attribute o "copy" apos) [] [] pos) (eDCopy co) := fun hK =>
  pe_imp (pe_dcopy (ho hK) hbase hline) fun σ H Q ⟨S, m, ev, R, E, h⟩ => ⟨S, m, ev, R, E, (PostG.bnd h).imp fun x H1 ⟨S1, m1, d, g1, R1, i1, h1⟩ => by
    unfold gDCopy at h1
    cases e1 : rdK d m1 with
    | none => simp only [e1] at h1; exact h1.elim
    | some kds =>
      simp only [e1] at h1
      obtain ⟨p, kvs, rfl, r, t⟩ := i1.rdK R1 e1
      refine ⟨p, kvs, rfl, r, fun q hq => ?_⟩
      obtain ⟨S2, R2, g2, al, _⟩ := R1.cell (u := .dK kvs) (c := .dic false kds) hq fun S2 g => ⟨kvs, .inl upd_same, fun _ => upd_same, t.mono g, fun z => nomatch z⟩
      exact h1 _ _ _ g2 R2 (.ref al)⟩
/-! x is True -/
def oIsB (x y : D) : M D := fun m => match y with
  | .bl b => match x with
    | .bl c => .ok (.bl (decide (c = b))) m
    | _ => .ok (.bl false) m
  | _ => .stk
def oNotB (x y : D) : M D := fun m => match y with
  | .bl b => match x with
    | .bl c => .ok (.bl (!decide (c = b))) m
    | _ => .ok (.bl true) m
  | _ => .stk
theorem op_isB : OpR X (compareOp .Is) (fun x y H Q => ∃ b, y = .bl b ∧ Q (.bl (decide (x = .bl b))) H) := by
  intro pins s σ H x y v u Q I rx ry h
  obtain ⟨b, rfl, q⟩ := h
  cases ry
  cases x with
  | bl c =>
    cases rx
    by_cases e : c = b
    · subst e; exact wpAny_is_self rfl (fin_bl I q (by simp))
    · exact wpAny_is_other rfl (fun z => e (by cases z; rfl)) (fin_bl I q (by simp [e]))
  | non => cases rx; exact wpAny_is_other rfl (fun z => nomatch z) (fin_bl I q rfl)
  | ref a => cases rx; exact wpAny_is_other rfl (fun z => nomatch z) (fin_bl I q rfl)
  | int i => obtain ⟨t, rfl⟩ := rx; exact wpAny_is_other rfl (fun z => nomatch z) (fin_bl I q rfl)
  | str z => obtain ⟨t, rfl⟩ := rx; exact wpAny_is_other rfl (fun z => nomatch z) (fin_bl I q rfl)
  | byt z => obtain ⟨t, rfl⟩ := rx; exact wpAny_is_other rfl (fun z => nomatch z) (fin_bl I q rfl)
  | flt z => obtain ⟨t, rfl⟩ := rx; exact wpAny_is_other rfl (fun z => nomatch z) (fin_bl I q rfl)
  | ty n => cases rx; exact wpAny_is_other rfl (fun z => nomatch z) (fin_bl I q rfl)
theorem op_notB : OpR X (compareOp .IsNot) (fun x y H Q => ∃ b, y = .bl b ∧ Q (.bl (!decide (x = .bl b))) H) := by
  intro pins s σ H x y v u Q I rx ry h
  obtain ⟨b, rfl, q⟩ := h
  cases ry
  cases x with
  | bl c =>
    cases rx
    by_cases e : c = b
    · subst e; exact wpAny_isNot_self rfl (fin_bl I q (by simp))
    · exact wpAny_isNot_other rfl (fun z => e (by cases z; rfl)) (fin_bl I q (by simp [e]))
  | non => cases rx; exact wpAny_isNot_other rfl (fun z => nomatch z) (fin_bl I q rfl)
  | ref a => cases rx; exact wpAny_isNot_other rfl (fun z => nomatch z) (fin_bl I q rfl)
  | int i => obtain ⟨t, rfl⟩ := rx; exact wpAny_isNot_other rfl (fun z => nomatch z) (fin_bl I q rfl)
  | str z => obtain ⟨t, rfl⟩ := rx; exact wpAny_isNot_other rfl (fun z => nomatch z) (fin_bl I q rfl)
  | byt z => obtain ⟨t, rfl⟩ := rx; exact wpAny_isNot_other rfl (fun z => nomatch z) (fin_bl I q rfl)
  | flt z => obtain ⟨t, rfl⟩ := rx; exact wpAny_isNot_other rfl (fun z => nomatch z) (fin_bl I q rfl)
  | ty n => cases rx; exact wpAny_isNot_other rfl (fun z => nomatch z) (fin_bl I q rfl)
theorem op2_isB : Op2 C (fun x y H Q => ∃ b, y = .bl b ∧ Q (.bl (decide (x = .bl b))) H) oIsB := fun S H m x y dx dy E Q R ix iy h => by
  cases iy with
  | bl b => cases ix <;> exact ⟨b, rfl, by simpa using h S H _ .refl R (.bl _)⟩
  | _ => exact h.elim
theorem op2_notB : Op2 C (fun x y H Q => ∃ b, y = .bl b ∧ Q (.bl (!decide (x = .bl b))) H) oNotB := fun S H m x y dx dy E Q R ix iy h => by
  cases iy with
  | bl b => cases ix <;> exact ⟨b, rfl, by simpa using h S H _ .refl R (.bl _)⟩
  | _ => exact h.elim
theorem ce_isB {a b : Expr} {ca cb : EC} (ha : CE X C W a ca) (hb : CE X C W b cb) : CE X C W (.Compare a [.Is] [b] pos) (eBin oIsB ca cb) := ce_cmp op_isB (fun _ => op2_isB) ha hb (nomark b)
theorem ce_notB {a b : Expr} {ca cb : EC} (ha : CE X C W a ca) (hb : CE X C W b cb) : CE X C W (.Compare a [.IsNot] [b] pos) (eBin oNotB ca cb) := ce_cmp op_notB (fun _ => op2_notB) ha hb (nomark b)
theorem ct_isB {a b : Expr} {ca cb : EC} (ha : CE X C W a ca) (hb : CE X C W b cb) : CT X C W (.Compare a [.Is] [b] pos) (tOf (eBin oIsB ca cb)) := ct_cmp op_isB (fun _ => op2_isB) ha hb (nomark b)
theorem ct_notB {a b : Expr} {ca cb : EC} (ha : CE X C W a ca) (hb : CE X C W b cb) : CT X C W (.Compare a [.IsNot] [b] pos) (tOf (eBin oNotB ca cb)) := ct_cmp op_notB (fun _ => op2_notB) ha hb (nomark b)
/-! list(range(a, b)); range(a, b, c) -/
instance (i j : Int) : Decidable (RgOk i j) := inferInstanceAs (Decidable (_ ∧ _ ∧ _ ∧ _ ∧ _))
instance (i j c : Int) (n : Nat) : Decidable (RgC i j c n) := inferInstanceAs (Decidable (_ ∧ _ ∧ _ ∧ _))
def gLRg (nw : Bool) (x y : D) : M D := fun m => match x, y with
  | .int i, .int j => if RgOk i j then outL nw (rngI i j) m else .stk
  | _, _ => .stk
def eLRg (nw : Bool) (a b : EC) : EC := fun ev => bnd (a ev) fun x => bnd (b ev) fun y => gLRg nw x y
theorem rngV_is {S : Wd} {H : Hp} (i j : Int) : IsVs C S H (rgV i j) (rngI i j) := by
  have e1 : rgV i j = ((List.range (j - i).toNat).map fun (t : Nat) => i + (t : Int)).map V.int := by simp [rgV, List.map_map, Function.comp_def]
  have e2 : rngI i j = ((List.range (j - i).toNat).map fun (t : Nat) => i + (t : Int)).map D.int := by simp [rngI, List.map_map, Function.comp_def]
  rw [e1, e2]
  exact script_is _
theorem ce_listRg (nw : Bool) {p p' pos' : Pos} {a b : Expr} {ca cb : EC} (hc : X.calm = true) (hm : X.mg "list" = none) (hm' : X.mg "range" = none) (ha : CE X C W a ca) (hb : CE X C W b cb) (hg : Gl X "list" := by rfl) (hg' : Gl X "range" := by rfl)
    (na : starEach [.Call (.Name "range" p') [a, b] [] pos'] X.env = (false, eval (.Call (.Name "range" p') [a, b] [] pos') X.env) :: starEach [] X.env := by rfl) (na' : starEach [a, b] X.env = (false, eval a X.env) :: starEach [b] X.env := by rfl) (nb' : starEach [b] X.env = (false, eval b X.env) :: starEach [] X.env := by rfl) (hp : (backTo pos' (starEach [b] X.env)).any (·.1) = false := by rfl) :
    CE X C W (.Call (.Name "list" p) [.Call (.Name "range" p') [a, b] [] pos'] [] pos) (eLRg nw ca cb) := fun hK =>
  pe_imp (pe_listRg hc hg hm (prg_2 hg' hm' (ha hK) (hb hK) na' nb' hp) na) fun σ H Q ⟨S, m, ev, R, E, h⟩ => ⟨S, m, ev, R, E, (PostG.bnd h).imp fun x H1 ⟨S1, m1, d, g1, R1, i1, h1⟩ => ⟨S1, m1, ev, R1, E.mono g1, (PostG.bnd h1).imp fun y H2 ⟨S2, m2, d2, g2, R2, i2, h2⟩ => by
    unfold gLRg at h2
    cases i1 with
    | int i =>
      cases i2 with
      | int j =>
        by_cases z : RgOk i j
        · simp only [if_pos z] at h2
          exact ⟨i, j, rfl, rfl, z, fun q hq => (post_out R2 (rngV_is i j) h2).2 q hq⟩
        · simp only [if_neg z] at h2
          exact h2.elim
      | _ => exact h2.elim
    | _ => first | exact h2.elim | (cases i2 <;> exact h2.elim)⟩⟩
def rng3 (i j c : Int) : List D := (List.range (Builtin.Range.rangeSize i j c).toNat).map fun (t : Nat) => D.int (i + (t : Int) * c)
def iRng3 (a : EA) : EI := fun ev => bnd (a ev) fun xs => match xs with
  | [.int i, .int j, .int c] => if RgC i j c (Builtin.Range.rangeSize i j c).toNat then pur ⟨rng3 i j c, fun _ => True⟩ else stuck
  | _ => stuck
theorem rng3_ok {S : Wd} {H : Hp} {m : Mem} (lo hi c : Int) (R : Rep C S H m) : (∀ (i : Nat) (d : D), (rng3 lo hi c)[i]? = some d → (Itc lo c (Builtin.Range.rangeSize lo hi c).toNat).go i H ∧ ∀ x H2, (Itc lo c (Builtin.Range.rangeSize lo hi c).toNat).yld i H x H2 → ∃ S2, Grow S H S2 H2 ∧ Rep C S2 H2 m ∧ IsV C S2 H2 x d) ∧ (Itc lo c (Builtin.Range.rangeSize lo hi c).toNat).stop (rng3 lo hi c).length H := by
  refine ⟨fun i d q => ?_, ?_⟩
  · unfold rng3 at q
    rw [List.getElem?_map] at q
    obtain ⟨k, q1, rfl⟩ := Option.map_eq_some_iff.mp q
    obtain ⟨l, q2⟩ := List.getElem?_eq_some_iff.mp q1
    rw [List.length_range] at l
    rw [List.getElem_range] at q2
    subst q2
    refine ⟨l, fun x H2 y => ?_⟩
    obtain ⟨rfl, rfl⟩ := y
    exact ⟨S, .refl, R, .int _⟩
  · show _ ≤ _
    unfold rng3
    rw [List.length_map, List.length_range]
    exact Nat.le_refl _
theorem ci_rng3 {tg a b c : Expr} {A : EA} {p : Pos} (hm : X.mg "range" = none) (ha : CA X C W [a, b, c] A) (hg : Gl X "range" := by rfl) (hs : starEach [a, b, c] X.env = (false, eval a X.env) :: starEach [b, c] X.env := by rfl) (hpl : (backTo pos (starEach [b, c] X.env)).any (·.1) = false := by rfl) : CI X C W tg (.Call (.Name "range" p) [a, b, c] [] pos) (iRng3 A) := fun hK =>
  pi_imp (pi_range3 hg hm (ha hK) hs hpl) fun σ H Q ⟨S, m, ev, R, E, h⟩ => ⟨S, m, ev, R, E, (PostG.bnd h).imp fun vs H1 ⟨S1, m1, ds, g1, R1, i1, h1⟩ => by
    cases i1 with
    | cons j1 t1 =>
      cases t1 with
      | cons j2 t2 =>
        cases t2 with
        | cons j3 t3 =>
          cases t3 with
          | nil =>
            cases j1 with
            | int i =>
              cases j2 with
              | int j =>
                cases j3 with
                | int k =>
                  dsimp only at h1
                  by_cases z : RgC i j k (Builtin.Range.rangeSize i j k).toNat
                  · rw [if_pos z] at h1
                    exact ⟨i, j, k, _, rfl, z, h1 S1 H1 _ .refl R1 fun S2 H2 m2 g2 R2 _ => rng3_ok i j k R2⟩
                  · rw [if_neg z] at h1
                    exact h1.elim
                | _ => exact h1.elim
              | _ => first | exact h1.elim | (cases j3 <;> exact h1.elim)
            | _ => first | exact h1.elim | (cases j2 <;> first | exact h1.elim | (cases j3 <;> exact h1.elim))
          | cons j4 t4 => first | exact h1.elim | (cases j1 <;> first | exact h1.elim | (cases j2 <;> first | exact h1.elim | (cases j3 <;> exact h1.elim)))
        | nil => first | exact h1.elim | (cases j1 <;> first | exact h1.elim | (cases j2 <;> exact h1.elim))
      | nil => first | exact h1.elim | (cases j1 <;> exact h1.elim)
    | nil => exact h1.elim⟩
end
section
variable {Q : D → Mem → Prop} {X : Ecl → Mem → Prop} {m : Mem} {ev : Ev}
end
end Lt

set_option Elab.async false
set_option linter.all false
set_option maxRecDepth 100000
/-! C16: membership of data of any depth. -/
namespace Lt
open PySem PySem.Spec PyProof.Rows L2
def inP (x y : D) (m : Mem) : Option Bool := match toPyT x m, toPyT y m with
  | some d, some (.list ds) => if SeqAt.shaped d = true ∧ SeqAt.shaped (.list ds) = true then some (ds.any fun z => PyData.eqv z d) else none
  | _, _ => none
def oInP (x y : D) : M D := fun m => match inP x y m with
  | some b => .ok (.bl b) m
  | none => .stk
def oNotInP (x y : D) : M D := fun m => match inP x y m with
  | some b => .ok (.bl (!b)) m
  | none => .stk
section
variable {X : Cx} {C : Cn} {W : WX} {pos : Pos} {k : Nat}
theorem inP_is {S : Wd} {H : Hp} {m : Mem} {x y : V} {dx dy : D} {b : Bool} (R : Rep C S H m) (ix : IsV C S H x dx) (iy : IsV C S H y dy) (h : inP dx dy m = some b) :
    ∃ d ds, Dp C.K H x d ∧ Dp C.K H y (.list ds) ∧ SeqAt.shaped d = true ∧ SeqAt.shaped (.list ds) = true ∧ (ds.any fun z => PyData.eqv z d) = b := by
  unfold inP at h
  cases e1 : toPyT dx m with
  | none => simp only [e1] at h; cases h
  | some d =>
    cases e2 : toPyT dy m with
    | none => simp only [e1, e2] at h; cases h
    | some e =>
      simp only [e1, e2] at h
      cases e with
      | list ds =>
        dsimp only at h
        by_cases z : SeqAt.shaped d = true ∧ SeqAt.shaped (.list ds) = true
        · rw [if_pos z] at h
          exact ⟨d, ds, dpT_of R ix e1, dpT_of R iy e2, z.1, z.2, Option.some.inj h⟩
        · rw [if_neg z] at h
          cases h
      | _ => cases h
theorem op2_inP : Op2 C (rInD C.K) oInP := fun S H m x y dx dy E Q R ix iy h => by
  unfold oInP at h
  cases q : inP dx dy m with
  | none => simp only [q] at h; exact h.elim
  | some b =>
    simp only [q] at h
    have hq : Q (.bl b) H := h S H _ .refl R (.bl b)
    obtain ⟨d, ds, h1, h2, h3, h4, rfl⟩ := inP_is R ix iy q
    exact ⟨d, ds, h1, h2, h3, h4, hq⟩
theorem op2_notInP : Op2 C (rNotInD C.K) oNotInP := fun S H m x y dx dy E Q R ix iy h => by
  unfold oNotInP at h
  cases q : inP dx dy m with
  | none => simp only [q] at h; exact h.elim
  | some b =>
    simp only [q] at h
    have hq : Q (.bl (!b)) H := h S H _ .refl R (.bl (!b))
    obtain ⟨d, ds, h1, h2, h3, h4, rfl⟩ := inP_is R ix iy q
    exact ⟨d, ds, h1, h2, h3, h4, hq⟩
theorem room65 {A : Around} (r : Room k A) : A.units + 65 < cLine := by have := r.un; omega
theorem ce_inP {a b : Expr} {ca cb : EC} (hr : Room k X.A) (ha : CE X C W a ca) (hb : CE X C W b cb) (hm : behindInMarks .In b = false := by rfl) : CE X C W (.Compare a [.In] [b] pos) (eBin oInP ca cb) := ce_cmp (op_inD (room65 hr)) (fun h => by rw [← h]; exact op2_inP) ha hb hm
theorem ce_notInP {a b : Expr} {ca cb : EC} (hr : Room k X.A) (ha : CE X C W a ca) (hb : CE X C W b cb) (hm : behindInMarks .NotIn b = false := by rfl) : CE X C W (.Compare a [.NotIn] [b] pos) (eBin oNotInP ca cb) := ce_cmp (op_notInD (room65 hr)) (fun h => by rw [← h]; exact op2_notInP) ha hb hm
theorem ct_inP {a b : Expr} {ca cb : EC} (hr : Room k X.A) (ha : CE X C W a ca) (hb : CE X C W b cb) (hm : behindInMarks .In b = false := by rfl) : CT X C W (.Compare a [.In] [b] pos) (tOf (eBin oInP ca cb)) := ct_cmp (op_inD (room65 hr)) (fun h => by rw [← h]; exact op2_inP) ha hb hm
theorem ct_notInP {a b : Expr} {ca cb : EC} (hr : Room k X.A) (ha : CE X C W a ca) (hb : CE X C W b cb) (hm : behindInMarks .NotIn b = false := by rfl) : CT X C W (.Compare a [.NotIn] [b] pos) (tOf (eBin oNotInP ca cb)) := ct_cmp (op_notInD (room65 hr)) (fun h => by rw [← h]; exact op2_notInP) ha hb hm
end
end Lt

set_option Elab.async false
set_option linter.all false
set_option maxRecDepth 100000
namespace Lt
open PySem L2
def c_SMALL : Str := "abcdefghijklmnopqrstuvwxyz0123456789."
def c_KINDS : List Str := ["", "put", "drop", "begin", "end", "thin"]
def c_SIGNS : Str := " !\"#$ &'()*+,-./0123456789:;<=>?@ABCDEFGHIJKLMNOPQRSTUVWXYZ[\\]^_`abcdefghijklmnopqrstuvwxyz{|}~"
def c_LOG : Str := "log."
def c_NEW : Str := "new."
def c_HINT : Str := "hint."
noncomputable def b_Store_all_keys : SC := (sRet (eSoK false (eFld .store "table" (eVar 0))))
noncomputable def m_Store_all_keys : List D → M D := runP 1 1 b_Store_all_keys

noncomputable def b_between : SC := (sSeq (sSet 3 (eLc false [4] (iLst (eMe .store "all_keys" m_Store_all_keys (eVar 0) aNil)) (Lt.gName 4) (Lt.tOr (tOf (eBin oIsN (eVar 1) (eC .non))) (tOf (eBin oGe (eVar 4) (eVar 1)))) (eVar 4)))
  (sRet (eLc false [4] (iLst (eVar 3)) (Lt.gName 4) (Lt.tOr (tOf (eBin oIsN (eVar 2) (eC .non))) (tOf (eBin oLt (eVar 4) (eVar 2)))) (eVar 4))))
noncomputable def m_between : List D → M D := runP 3 5 b_between

noncomputable def b_is_text : SC := (sRet (eAnd (eChain oLe oLe (eVar 1) (eB1 bLen (aCons (eVar 0) aNil)) (eVar 2)) (eB1 bAll (aCons (eLc false [3] (iStr (eVar 0)) (Lt.gName 3) Lt.tYes (eAnd (eChain oLe oLt (eC (.int 32)) (eB1 bOrd (aCons (eVar 3) aNil)) (eC (.int 127))) (eBin oNe (eB1 bOrd (aCons (eVar 3) aNil)) (eC (.int 37))))) aNil))))
noncomputable def m_is_text : List D → M D := runP 3 4 b_is_text

noncomputable def b_look_key : SC := (sIf (Lt.tNot (tTru (eCall m_is_text (aCons (eVar 0) (aCons (eC (.int 1)) (aCons (eC (.int 40)) aNil)))))) (sRaise .row) sNop)
noncomputable def m_look_key : List D → M D := runP 1 1 b_look_key

noncomputable def b_log_name : SC := (sRet (eBin (oAdd false) (eC (.str c_LOG)) (eB1 bStr (aCons (eVar 0) aNil))))
noncomputable def m_log_name : List D → M D := runP 1 1 b_log_name

noncomputable def b_Disk_look : SC := (sIf (tOf (eBin oNotIn (eVar 1) (eFld .disk "held" (eVar 0)))) (sRaise .file) sNop)
noncomputable def m_Disk_look : List D → M D := runP 2 2 b_Disk_look

noncomputable def b_Disk_piece : SC := (sSeq (sExpr (eMe .disk "look" m_Disk_look (eVar 0) (aCons (eVar 1) aNil)))
  (sRet (eSl false (eBin oIx (eFld .disk "held" (eVar 0)) (eVar 1)) (oSome (eVar 2)) (oSome (eVar 3)))))
noncomputable def m_Disk_piece : List D → M D := runP 4 4 b_Disk_piece

noncomputable def b_number_of : SC := (sSeq (sSet 1 (eC (.int 0)))
  (sSeq (sFor (iLst (eVar 0)) (Lt.gName 2) (sSet 1 (eBin (oAdd false) (eBin oMul (eC (.int 256)) (eVar 1)) (eVar 2))))
  (sRet (eVar 1))))
noncomputable def m_number_of : List D → M D := runP 1 3 b_number_of

noncomputable def b_number_bytes : SC := (sSeq (sSet 2 (eLst true aNil))
  (sSeq (sFor (iRng1 (eVar 1)) (Lt.gName 3) (sSeq (sExpr (eML mAppend (eVar 2) (aCons (eBin oMod (eVar 0) (eC (.int 256))) aNil)))
  (sSet 0 (eBin oFdiv (eVar 0) (eC (.int 256))))))
  (sRet (eUn (oRev false) (eVar 2)))))
noncomputable def m_number_bytes : List D → M D := runP 2 4 b_number_bytes

noncomputable def b_sums_of : SC := (sSeq (sSet 1 (eC (.int 1)))
  (sSeq (sSet 2 (eC (.int 0)))
  (sSeq (sFor (iLst (eVar 0)) (Lt.gName 3) (sSeq (sSet 1 (eBin oMod (eBin (oAdd false) (eVar 1) (eVar 3)) (eC (.int 65521))))
  (sSet 2 (eBin oMod (eBin (oAdd false) (eVar 2) (eVar 1)) (eC (.int 65521))))))
  (sRet (eBin (oAdd false) (eCall m_number_bytes (aCons (eVar 2) (aCons (eC (.int 2)) aNil))) (eCall m_number_bytes (aCons (eVar 1) (aCons (eC (.int 2)) aNil))))))))
noncomputable def m_sums_of : List D → M D := runP 1 4 b_sums_of

noncomputable def b_text_of : SC := (sSeq (sIf (Lt.tNot (tTru (eB1 bAll (aCons (eLc false [1] (iLst (eVar 0)) (Lt.gName 1) Lt.tYes (eAnd (eChain oLe oLt (eC (.int 32)) (eVar 1) (eC (.int 127))) (eBin oNe (eVar 1) (eC (.int 37))))) aNil)))) (sRet (eC .non)) sNop)
  (sRet (eMS mJoin (eC (.str "")) (aCons (eLc false [1] (iLst (eVar 0)) (Lt.gName 1) Lt.tYes (eBin oIx (eC (.str c_SIGNS)) (eBin oSub (eVar 1) (eC (.int 32))))) aNil))))
noncomputable def m_text_of : List D → M D := runP 1 2 b_text_of

noncomputable def b_look_value : SC := (sIf (Lt.tNot (tTru (eCall m_is_text (aCons (eVar 0) (aCons (eC (.int 0)) (aCons (eC (.int 400)) aNil)))))) (sRaise .row) sNop)
noncomputable def m_look_value : List D → M D := runP 1 1 b_look_value

noncomputable def b_look_row : SC := (sSeq (sIf (Lt.tOr (tOf (eBin oNe (eB1 bLen (aCons (eVar 0) aNil)) (eC (.int 4)))) (Lt.tOr (tOf (eBin oNotIn (eBin oIx (eVar 0) (eC (.int 0))) (eSl false (eC (.klst (c_KINDS.map D.str))) (oSome (eC (.int 1))) oNone))) (Lt.tNot (tOf (eChain oLe oLe (eC (.int 1)) (eBin oIx (eVar 0) (eC (.int 1))) (eC (.int 999999999))))))) (sRaise .row) sNop)
  (sSeq (sIf (tOf (eBin oIn (eBin oIx (eVar 0) (eC (.int 0))) (eTup (aCons (eC (.str "put")) (aCons (eC (.str "drop")) aNil))))) (sExpr (eCall m_look_key (aCons (eBin oIx (eVar 0) (eC (.int 2))) aNil))) (sIf (tOf (eBin oNe (eBin oIx (eVar 0) (eC (.int 2))) (eC (.str "")))) (sRaise .row) sNop))
  (sIf (tOf (eBin oEq (eBin oIx (eVar 0) (eC (.int 0))) (eC (.str "put")))) (sExpr (eCall m_look_value (aCons (eBin oIx (eVar 0) (eC (.int 3))) aNil))) (sIf (tOf (eBin oNe (eBin oIx (eVar 0) (eC (.int 3))) (eC (.str "")))) (sRaise .row) sNop))))
noncomputable def m_look_row : List D → M D := runP 1 1 b_look_row

noncomputable def b_row_at : SC := (sSeq (sSet 2 (eSl false (eVar 0) (oSome (eVar 1)) (oSome (eBin (oAdd false) (eVar 1) (eC (.int 12))))))
  (sSeq (sIf (Lt.tOr (tOf (eBin oLt (eB1 bLen (aCons (eVar 2) aNil)) (eC (.int 12)))) (Lt.tNot (tOf (eChain oLe oLt (eC (.int 1)) (eBin oIx (eVar 2) (eC (.int 4))) (eB1 bLen (aCons (eC (.klst (c_KINDS.map D.str))) aNil)))))) (sRet (eC .non)) sNop)
  (sSeq (sSet 3 (eBin (oAdd false) (eBin (oAdd false) (eVar 1) (eC (.int 12))) (eBin oIx (eVar 2) (eC (.int 9)))))
  (sSeq (sSet 4 (eBin (oAdd false) (eVar 3) (eCall m_number_of (aCons (eSl false (eVar 2) (oSome (eC (.int 10))) (oSome (eC (.int 12)))) aNil))))
  (sSeq (sIf (Lt.tOr (tOf (eBin oGt (eVar 4) (eB1 bLen (aCons (eVar 0) aNil)))) (tOf (eBin oNe (eCall m_sums_of (aCons (eSl false (eVar 0) (oSome (eBin (oAdd false) (eVar 1) (eC (.int 4)))) (oSome (eVar 4))) aNil)) (eSl false (eVar 2) oNone (oSome (eC (.int 4))))))) (sRet (eC .non)) sNop)
  (sSeq (sSet 5 (eTup (aCons (eBin oIx (eC (.klst (c_KINDS.map D.str))) (eBin oIx (eVar 2) (eC (.int 4)))) (aCons (eCall m_number_of (aCons (eSl false (eVar 2) (oSome (eC (.int 5))) (oSome (eC (.int 9)))) aNil)) (aCons (eCall m_text_of (aCons (eSl false (eVar 0) (oSome (eBin (oAdd false) (eVar 1) (eC (.int 12)))) (oSome (eVar 3))) aNil)) (aCons (eCall m_text_of (aCons (eSl false (eVar 0) (oSome (eVar 3)) (oSome (eVar 4))) aNil)) aNil))))))
  (sSeq (sIf (Lt.tOr (tOf (eBin oIsN (eBin oIx (eVar 5) (eC (.int 2))) (eC .non))) (tOf (eBin oIsN (eBin oIx (eVar 5) (eC (.int 3))) (eC .non)))) (sRet (eC .non)) sNop)
  (sSeq (sSet 6 (eC (.bl true)))
  (sSeq (sTryOnly [.row] (fun c => decide (c = .row)) (sExpr (eCall m_look_row (aCons (eVar 5) aNil))) (sSet 6 (eC (.bl false))))
  (sRet (eIf (tTru (eVar 6)) (eTup (aCons (eVar 5) (aCons (eVar 4) aNil))) (eC .non))))))))))))
noncomputable def m_row_at : List D → M D := runP 2 7 b_row_at

noncomputable def b_read_row : SC := (sSeq (sSet 3 (eCall m_log_name (aCons (eVar 1) aNil)))
  (sSeq (sSet 4 (eMe .disk "piece" m_Disk_piece (eVar 0) (aCons (eVar 3) (aCons (eVar 2) (aCons (eBin (oAdd false) (eVar 2) (eC (.int 12))) aNil)))))
  (sSeq (sSet 5 (eIf (tOf (eBin oEq (eB1 bLen (aCons (eVar 4) aNil)) (eC (.int 12)))) (eBin (oAdd false) (eBin (oAdd false) (eBin (oAdd false) (eC (.int 12)) (eBin oIx (eVar 4) (eC (.int 9)))) (eBin oMul (eC (.int 256)) (eBin oIx (eVar 4) (eC (.int 10))))) (eBin oIx (eVar 4) (eC (.int 11)))) (eC (.int 0))))
  (sSeq (sSet 6 (eCall m_row_at (aCons (eMe .disk "piece" m_Disk_piece (eVar 0) (aCons (eVar 3) (aCons (eVar 2) (aCons (eBin (oAdd false) (eVar 2) (eVar 5)) aNil)))) (aCons (eC (.int 0)) aNil))))
  (sSeq (sIf (tOf (eBin oIsN (eVar 6) (eC .non))) (sRaise .file) sNop)
  (sRet (eBin oIx (eVar 6) (eC (.int 0)))))))))
noncomputable def m_read_row : List D → M D := runP 3 7 b_read_row

noncomputable def b_Store_row_of : SC := (sSeq (sExpr (eCall m_look_key (aCons (eVar 1) aNil)))
  (sSeq (sIf (tOf (eBin oNotIn (eVar 1) (eFld .store "table" (eVar 0)))) (sRet (eC .non)) sNop)
  (sSeq (sUnp (Lt.gTup [2, 3, 4]) (eBin oIx (eFld .store "table" (eVar 0)) (eVar 1)))
  (sRet (eCall m_read_row (aCons (eFld .store "disk" (eVar 0)) (aCons (eVar 3) (aCons (eVar 4) aNil))))))))
noncomputable def m_Store_row_of : List D → M D := runP 2 5 b_Store_row_of

noncomputable def b_Store_get : SC := (sSeq (sSet 2 (eMe .store "row_of" m_Store_row_of (eVar 0) (aCons (eVar 1) aNil)))
  (sRet (eIf (tOf (eBin oIsN (eVar 2) (eC .non))) (eC .non) (eBin oIx (eVar 2) (eC (.int 3))))))
noncomputable def m_Store_get : List D → M D := runP 2 3 b_Store_get

noncomputable def b_walk : SC := (sSeq (sIf (tOf (eBin oLt (eVar 3) (eC (.int 0)))) (sRaise .size) sNop)
  (sSeq (sSet 5 (eCall m_between (aCons (eVar 0) (aCons (eVar 1) (aCons (eVar 2) aNil)))))
  (sSeq (sSet 5 (eIf (tTru (eVar 4)) (eUn (oRev false) (eVar 5)) (eVar 5)))
  (sRet (eLc false [6] (iLst (eSl false (eVar 5) oNone (oSome (eVar 3)))) (Lt.gName 6) Lt.tYes (eTup (aCons (eVar 6) (aCons (eMe .store "get" m_Store_get (eVar 0) (aCons (eVar 6) aNil)) aNil))))))))
noncomputable def m_walk : List D → M D := runP 5 7 b_walk

noncomputable def b_beginning : SC := (sRet (eLc false [2] (iLst (eMe .store "all_keys" m_Store_all_keys (eVar 0) aNil)) (Lt.gName 2) (tTru (eMS mStarts (eVar 2) (aCons (eVar 1) aNil))) (eVar 2)))
noncomputable def m_beginning : List D → M D := runP 2 3 b_beginning

noncomputable def b_pages : SC := (sSeq (sIf (tOf (eBin oLt (eVar 1) (eC (.int 1)))) (sRaise .size) sNop)
  (sSeq (sSet 2 (eMe .store "all_keys" m_Store_all_keys (eVar 0) aNil))
  (sRet (eLc false [3] (iRng3 (aCons (eC (.int 0)) (aCons (eB1 bLen (aCons (eVar 2) aNil)) (aCons (eVar 1) aNil)))) (Lt.gName 3) Lt.tYes (eSl false (eVar 2) (oSome (eVar 3)) (oSome (eBin (oAdd false) (eVar 3) (eVar 1))))))))
noncomputable def m_pages : List D → M D := runP 2 4 b_pages

noncomputable def b_nearest : SC := (sSeq (sSet 2 (eLc false [4] (iLst (eMe .store "all_keys" m_Store_all_keys (eVar 0) aNil)) (Lt.gName 4) (tOf (eBin oLe (eVar 4) (eVar 1))) (eVar 4)))
  (sSeq (sSet 3 (eLc false [4] (iLst (eMe .store "all_keys" m_Store_all_keys (eVar 0) aNil)) (Lt.gName 4) (tOf (eBin oGe (eVar 4) (eVar 1))) (eVar 4)))
  (sRet (eTup (aCons (eIf (tTru (eVar 2)) (eBin oIx (eVar 2) (eUn oNeg (eC (.int 1)))) (eC .non)) (aCons (eIf (tTru (eVar 3)) (eBin oIx (eVar 3) (eC (.int 0))) (eC .non)) aNil))))))
noncomputable def m_nearest : List D → M D := runP 2 5 b_nearest

noncomputable def b_look_name : SC := (sIf (Lt.tOr (Lt.tNot (tOf (eChain oLe oLe (eC (.int 1)) (eB1 bLen (aCons (eVar 0) aNil)) (eC (.int 20))))) (Lt.tNot (tTru (eB1 bAll (aCons (eLc false [1] (iStr (eVar 0)) (Lt.gName 1) Lt.tYes (eBin oIn (eVar 1) (eC (.str c_SMALL)))) aNil))))) (sRaise .file) sNop)
noncomputable def m_look_name : List D → M D := runP 1 2 b_look_name

noncomputable def b_Disk___init__ : SC := (sSeq (sIf (Lt.tAnd (tOf (eBin oNotN (eVar 1) (eC .non))) (tOf (eBin oLt (eVar 1) (eC (.int 0))))) (sRaise .size) sNop)
  (sSeq (sFldS .disk "room" (eVar 0) (eVar 1))
  (sSeq (sFldS .disk "held" (eVar 0) (eDsp [] aNil))
  (sFldS .disk "sure" (eVar 0) (eDsp [] aNil)))))
noncomputable def m_Disk___init__ : List D → M D := runF 2 2 b_Disk___init__

noncomputable def b_Disk_use : SC := (sSeq (sIf (tOf (eBin oIsN (eFld .disk "room" (eVar 0)) (eC .non))) (sRet (eVar 1)) sNop)
  (sSeq (sSet 2 (eB1 bMin2 (aCons (eVar 1) (aCons (eFld .disk "room" (eVar 0)) aNil))))
  (sSeq (sFldS .disk "room" (eVar 0) (eBin oSub (eFld .disk "room" (eVar 0)) (eVar 2)))
  (sRet (eVar 2)))))
noncomputable def m_Disk_use : List D → M D := runF 2 3 b_Disk_use

noncomputable def b_Disk_need : SC := (sIf (tOf (eBin oEq (eMe .disk "use" m_Disk_use (eVar 0) (aCons (eC (.int 1)) aNil)) (eC (.int 0)))) (sRaise .stop) sNop)
noncomputable def m_Disk_need : List D → M D := runF 1 1 b_Disk_need

noncomputable def b_Disk_names : SC := (sRet (eSoK false (eFld .disk "held" (eVar 0))))
noncomputable def m_Disk_names : List D → M D := runP 1 1 b_Disk_names

noncomputable def b_Disk_read : SC := (sSeq (sExpr (eMe .disk "look" m_Disk_look (eVar 0) (aCons (eVar 1) aNil)))
  (sRet (eB1 (bList false) (aCons (eBin oIx (eFld .disk "held" (eVar 0)) (eVar 1)) aNil))))
noncomputable def m_Disk_read : List D → M D := runP 2 2 b_Disk_read

noncomputable def b_Disk_size : SC := (sSeq (sExpr (eMe .disk "look" m_Disk_look (eVar 0) (aCons (eVar 1) aNil)))
  (sRet (eB1 bLen (aCons (eBin oIx (eFld .disk "held" (eVar 0)) (eVar 1)) aNil))))
noncomputable def m_Disk_size : List D → M D := runP 2 2 b_Disk_size

noncomputable def b_Disk_write : SC := (sSeq (sExpr (eCall m_look_name (aCons (eVar 1) aNil)))
  (sSeq (sExpr (eMe .disk "need" m_Disk_need (eVar 0) aNil))
  (sSeq (sIf (tOf (eBin oNotIn (eVar 1) (eFld .disk "held" (eVar 0)))) (sSeq (sDPutS (eFld .disk "held" (eVar 0)) (eVar 1) (eLst false aNil))
  (sDPutS (eFld .disk "sure" (eVar 0)) (eVar 1) (eC (.int 0)))) sNop)
  (sSeq (sSet 3 (eMe .disk "use" m_Disk_use (eVar 0) (aCons (eB1 bLen (aCons (eVar 2) aNil)) aNil)))
  (sSeq (sDPutS (eFld .disk "held" (eVar 0)) (eVar 1) (eBin (oAdd false) (eBin oIx (eFld .disk "held" (eVar 0)) (eVar 1)) (eB1 (bList false) (aCons (eSl false (eVar 2) oNone (oSome (eVar 3))) aNil))))
  (sIf (tOf (eBin oLt (eVar 3) (eB1 bLen (aCons (eVar 2) aNil)))) (sRaise .stop) sNop))))))
noncomputable def m_Disk_write : List D → M D := runF 3 4 b_Disk_write

noncomputable def b_Disk_sync : SC := (sSeq (sExpr (eMe .disk "look" m_Disk_look (eVar 0) (aCons (eVar 1) aNil)))
  (sSeq (sExpr (eMe .disk "need" m_Disk_need (eVar 0) aNil))
  (sDPutS (eFld .disk "sure" (eVar 0)) (eVar 1) (eB1 bLen (aCons (eBin oIx (eFld .disk "held" (eVar 0)) (eVar 1)) aNil)))))
noncomputable def m_Disk_sync : List D → M D := runF 2 2 b_Disk_sync

noncomputable def b_Disk_shorten : SC := (sSeq (sExpr (eMe .disk "look" m_Disk_look (eVar 0) (aCons (eVar 1) aNil)))
  (sSeq (sIf (Lt.tNot (tOf (eChain oLe oLe (eC (.int 0)) (eVar 2) (eB1 bLen (aCons (eBin oIx (eFld .disk "held" (eVar 0)) (eVar 1)) aNil))))) (sRaise .size) sNop)
  (sSeq (sExpr (eMe .disk "need" m_Disk_need (eVar 0) aNil))
  (sSeq (sDPutS (eFld .disk "held" (eVar 0)) (eVar 1) (eSl false (eBin oIx (eFld .disk "held" (eVar 0)) (eVar 1)) oNone (oSome (eVar 2))))
  (sDPutS (eFld .disk "sure" (eVar 0)) (eVar 1) (eVar 2))))))
noncomputable def m_Disk_shorten : List D → M D := runF 3 3 b_Disk_shorten

noncomputable def b_Disk_remove : SC := (sSeq (sExpr (eMe .disk "look" m_Disk_look (eVar 0) (aCons (eVar 1) aNil)))
  (sSeq (sExpr (eMe .disk "need" m_Disk_need (eVar 0) aNil))
  (sSeq (sExpr (eDPop1 (eFld .disk "held" (eVar 0)) (eVar 1)))
  (sExpr (eDPop1 (eFld .disk "sure" (eVar 0)) (eVar 1))))))
noncomputable def m_Disk_remove : List D → M D := runF 2 2 b_Disk_remove

noncomputable def b_written_row : SC := (sSeq (sExpr (eCall m_look_row (aCons (eVar 0) aNil)))
  (sSeq (sUnp (Lt.gTup [1, 2, 3, 4]) (eVar 0))
  (sSeq (sSet 5 (eBin (oAdd false) (eBin (oAdd false) (eBin (oAdd false) (eLst false (aCons (eML mIndex (eC (.klst (c_KINDS.map D.str))) (aCons (eVar 1) aNil)) aNil)) (eCall m_number_bytes (aCons (eVar 2) (aCons (eC (.int 4)) aNil)))) (eLst false (aCons (eB1 bLen (aCons (eVar 3) aNil)) aNil))) (eCall m_number_bytes (aCons (eB1 bLen (aCons (eVar 4) aNil)) (aCons (eC (.int 2)) aNil)))))
  (sSeq (sSet 5 (eBin (oAdd false) (eVar 5) (eLc false [6] (iStr (eBin (oAdd false) (eVar 3) (eVar 4))) (Lt.gName 6) Lt.tYes (eB1 bOrd (aCons (eVar 6) aNil)))))
  (sRet (eBin (oAdd false) (eCall m_sums_of (aCons (eVar 5) aNil)) (eVar 5)))))))
noncomputable def m_written_row : List D → M D := runP 1 7 b_written_row

noncomputable def b_read_hint : SC := (sSeq (sIf (Lt.tOr (tOf (eBin oLt (eB1 bLen (aCons (eVar 0) aNil)) (eC (.int 8)))) (Lt.tOr (tOf (eBin oNe (eCall m_sums_of (aCons (eSl false (eVar 0) (oSome (eC (.int 4))) oNone) aNil)) (eSl false (eVar 0) oNone (oSome (eC (.int 4)))))) (tOf (eBin oNe (eCall m_number_of (aCons (eSl false (eVar 0) (oSome (eC (.int 4))) (oSome (eC (.int 8)))) aNil)) (eVar 1))))) (sRet (eC .non)) sNop)
  (sSeq (sSet 2 (eLst true aNil))
  (sSeq (sSet 3 (eC (.int 8)))
  (sSeq (sWhile (tOf (eBin oLt (eVar 3) (eB1 bLen (aCons (eVar 0) aNil)))) (sSeq (sSet 4 (eBin (oAdd false) (eBin (oAdd false) (eVar 3) (eC (.int 9))) (eIf (tOf (eBin oLt (eBin (oAdd false) (eVar 3) (eC (.int 8))) (eB1 bLen (aCons (eVar 0) aNil)))) (eBin oIx (eVar 0) (eBin (oAdd false) (eVar 3) (eC (.int 8)))) (eC (.int 0)))))
  (sSeq (sSet 5 (eCall m_text_of (aCons (eSl false (eVar 0) (oSome (eBin (oAdd false) (eVar 3) (eC (.int 9)))) (oSome (eVar 4))) aNil)))
  (sSeq (sIf (Lt.tOr (tOf (eBin oGt (eBin (oAdd false) (eVar 3) (eC (.int 9))) (eB1 bLen (aCons (eVar 0) aNil)))) (Lt.tOr (tOf (eBin oGt (eVar 4) (eB1 bLen (aCons (eVar 0) aNil)))) (Lt.tOr (tOf (eBin oIsN (eVar 5) (eC .non))) (Lt.tNot (tTru (eCall m_is_text (aCons (eVar 5) (aCons (eC (.int 1)) (aCons (eC (.int 40)) aNil))))))))) (sRet (eC .non)) sNop)
  (sSeq (sExpr (eML mAppend (eVar 2) (aCons (eTup (aCons (eVar 5) (aCons (eCall m_number_of (aCons (eSl false (eVar 0) (oSome (eVar 3)) (oSome (eBin (oAdd false) (eVar 3) (eC (.int 4))))) aNil)) (aCons (eCall m_number_of (aCons (eSl false (eVar 0) (oSome (eBin (oAdd false) (eVar 3) (eC (.int 4)))) (oSome (eBin (oAdd false) (eVar 3) (eC (.int 8))))) aNil)) aNil)))) aNil)))
  (sSet 3 (eVar 4)))))))
  (sRet (eIf (tTru (eB1 bAll (aCons (eLc false [5, 6, 7] (iLst (eVar 2)) (Lt.gTup [5, 6, 7]) Lt.tYes (eBin oGe (eVar 7) (eC (.int 12)))) aNil))) (eFrz 2) (eC .non)))))))
noncomputable def m_read_hint : List D → M D := runP 2 8 b_read_hint

noncomputable def b_read_log : SC := (sSeq (sSet 1 (eLst true aNil))
  (sSeq (sSet 2 (eC (.int 0)))
  (sWhile (tTru (eC (.bl true))) (sSeq (sSet 3 (eCall m_row_at (aCons (eVar 0) (aCons (eVar 2) aNil))))
  (sSeq (sIf (tOf (eBin oIsN (eVar 3) (eC .non))) (sRet (eTup (aCons (eFrz 1) (aCons (eVar 2) aNil)))) sNop)
  (sSeq (sExpr (eML mAppend (eVar 1) (aCons (eTup (aCons (eBin oIx (eVar 3) (eC (.int 0))) (aCons (eVar 2) aNil))) aNil)))
  (sSet 2 (eBin oIx (eVar 3) (eC (.int 1))))))))))
noncomputable def m_read_log : List D → M D := runP 1 4 b_read_log

noncomputable def b_parted : SC := (sSeq (sSet 1 (eLst true aNil))
  (sSeq (sSet 2 (eLst true aNil))
  (sSeq (sSet 3 (eC .non))
  (sSeq (sSet 4 (eC (.int 0)))
  (sSeq (sFor (iLst (eVar 0)) (Lt.gTup [5, 6]) (sSeq (sIf (Lt.tAnd (tOf (eBin oNotN (eVar 3) (eC .non))) (tOf (eBin oNe (eBin oIx (eVar 5) (eC (.int 1))) (eBin (oAdd false) (eVar 4) (eC (.int 1)))))) (sSet 3 (eC .non)) sNop)
  (sSeq (sSet 4 (eBin oIx (eVar 5) (eC (.int 1))))
  (sIf (tOf (eBin oEq (eBin oIx (eVar 5) (eC (.int 0))) (eC (.str "begin")))) (sSeq (sSet 2 (eLst true aNil))
  (sSet 3 (eVar 6))) (sIf (tOf (eBin oEq (eBin oIx (eVar 5) (eC (.int 0))) (eC (.str "end")))) (sSeq (sExpr (eML mExtend (eVar 1) (aCons (eIf (tOf (eBin oIsN (eVar 3) (eC .non))) (eLst false aNil) (eVar 2)) aNil)))
  (sSet 3 (eC .non))) (sIf (tOf (eBin oEq (eBin oIx (eVar 5) (eC (.int 0))) (eC (.str "thin")))) (sSet 3 (eC .non)) (sIf (tOf (eBin oIsN (eVar 3) (eC .non))) (sExpr (eML mAppend (eVar 1) (aCons (eTup (aCons (eVar 5) (aCons (eVar 6) aNil))) aNil))) (sExpr (eML mAppend (eVar 2) (aCons (eTup (aCons (eVar 5) (aCons (eVar 6) aNil))) aNil))))))))))
  (sRet (eTup (aCons (eFrz 1) (aCons (eVar 3) aNil)))))))))
noncomputable def m_parted : List D → M D := runP 1 7 b_parted

noncomputable def b_settled : SC := (sRet (eBin oIx (eCall m_parted (aCons (eVar 0) aNil)) (eC (.int 0))))
noncomputable def m_settled : List D → M D := runP 1 1 b_settled

noncomputable def b_deal_start : SC := (sRet (eBin oIx (eCall m_parted (aCons (eVar 0) aNil)) (eC (.int 1))))
noncomputable def m_deal_start : List D → M D := runP 1 1 b_deal_start

noncomputable def b_number_in : SC := (sSeq (sSet 2 (eSl false (eVar 0) (oSome (eB1 bLen (aCons (eVar 1) aNil))) oNone))
  (sSeq (sIf (Lt.tOr (Lt.tNot (tTru (eMS mStarts (eVar 0) (aCons (eVar 1) aNil)))) (Lt.tOr (Lt.tNot (tOf (eChain oLe oLe (eC (.int 1)) (eB1 bLen (aCons (eVar 2) aNil)) (eC (.int 9))))) (Lt.tOr (Lt.tNot (tTru (eDigit (eVar 2)))) (tOf (eBin oEq (eBin oIx (eVar 2) (eC (.int 0))) (eC (.str "0"))))))) (sRet (eC .non)) sNop)
  (sRet (eB1 bIntS (aCons (eVar 2) aNil)))))
noncomputable def m_number_in : List D → M D := runP 2 3 b_number_in

noncomputable def b_Store_files : SC := (sSeq (sSet 1 (eLc false [2] (iLst (eMe .disk "names" m_Disk_names (eFld .store "disk" (eVar 0)) aNil)) (Lt.gName 2) Lt.tYes (eCall m_number_in (aCons (eVar 2) (aCons (eC (.str c_LOG)) aNil)))))
  (sRet (eB1 (bSorted false) (aCons (eLc false [3] (iLst (eVar 1)) (Lt.gName 3) (tOf (eBin oNotN (eVar 3) (eC .non))) (eVar 3)) aNil))))
noncomputable def m_Store_files : List D → M D := runP 1 4 b_Store_files

noncomputable def b_Store_first_file : SC := (sSeq (sSet 1 (eC (.int 0)))
  (sSeq (sFor (iLst (eMe .store "files" m_Store_files (eVar 0) aNil)) (Lt.gName 2) (sSeq (sSet 3 (eCall m_row_at (aCons (eMe .disk "piece" m_Disk_piece (eFld .store "disk" (eVar 0)) (aCons (eCall m_log_name (aCons (eVar 2) aNil)) (aCons (eC (.int 0)) (aCons (eC (.int 12)) aNil)))) (aCons (eC (.int 0)) aNil))))
  (sIf (Lt.tAnd (tOf (eBin oNotN (eVar 3) (eC .non))) (tOf (eBin oEq (eBin oIx (eBin oIx (eVar 3) (eC (.int 0))) (eC (.int 0))) (eC (.str "thin"))))) (sSet 1 (eVar 2)) sNop)))
  (sRet (eVar 1))))
noncomputable def m_Store_first_file : List D → M D := runP 1 4 b_Store_first_file

noncomputable def b_Store_take_hint : SC := (sSeq (sSet 3 (eCall m_row_at (aCons (eMe .disk "piece" m_Disk_piece (eFld .store "disk" (eVar 0)) (aCons (eCall m_log_name (aCons (eVar 1) aNil)) (aCons (eC (.int 0)) (aCons (eC (.int 12)) aNil)))) (aCons (eC (.int 0)) aNil))))
  (sSeq (sFldS .store "thinned" (eVar 0) (eBin oIx (eBin oIx (eVar 3) (eC (.int 0))) (eC (.int 1))))
  (sSeq (sFldS .store "last" (eVar 0) (eB1 bMax1 (aCons (eBin (oAdd false) (eLst false (aCons (eFld .store "last" (eVar 0)) (aCons (eFld .store "thinned" (eVar 0)) aNil))) (eLc false [7] (iLst (eVar 2)) (Lt.gName 7) Lt.tYes (eBin oIx (eVar 7) (eC (.int 1))))) aNil)))
  (sFor (iLst (eVar 2)) (Lt.gTup [4, 5, 6]) (sDPutS (eFld .store "table" (eVar 0)) (eVar 4) (eTup (aCons (eVar 5) (aCons (eVar 1) (aCons (eVar 6) aNil)))))))))
noncomputable def m_Store_take_hint : List D → M D := runF 3 8 b_Store_take_hint

noncomputable def b_Store_learn : SC := (sIf (tOf (eBin oEq (eBin oIx (eVar 1) (eC (.int 0))) (eC (.str "put")))) (sDPutS (eFld .store "table" (eVar 0)) (eBin oIx (eVar 1) (eC (.int 2))) (eTup (aCons (eBin oIx (eVar 1) (eC (.int 1))) (aCons (eVar 2) (aCons (eVar 3) aNil))))) (sExpr (eDPop2 (eFld .store "table" (eVar 0)) (eBin oIx (eVar 1) (eC (.int 2))) (eC .non))))
noncomputable def m_Store_learn : List D → M D := runF 4 4 b_Store_learn

noncomputable def b_Store_open_file : SC := (sSeq (sSet 2 (eCall m_log_name (aCons (eVar 1) aNil)))
  (sSeq (sIf (tOf (eBin oIn (eBin (oAdd false) (eC (.str c_HINT)) (eB1 bStr (aCons (eVar 1) aNil))) (eMe .disk "names" m_Disk_names (eFld .store "disk" (eVar 0)) aNil))) (sSeq (sSet 3 (eCall m_read_hint (aCons (eMe .disk "read" m_Disk_read (eFld .store "disk" (eVar 0)) (aCons (eBin (oAdd false) (eC (.str c_HINT)) (eB1 bStr (aCons (eVar 1) aNil))) aNil)) (aCons (eMe .disk "size" m_Disk_size (eFld .store "disk" (eVar 0)) (aCons (eVar 2) aNil)) aNil))))
  (sIf (tOf (eBin oNotN (eVar 3) (eC .non))) (sSeq (sExpr (eMe .store "take_hint" m_Store_take_hint (eVar 0) (aCons (eVar 1) (aCons (eVar 3) aNil))))
  sRetN) sNop)) sNop)
  (sSeq (sUnp (Lt.gTup [4, 5]) (eCall m_read_log (aCons (eMe .disk "read" m_Disk_read (eFld .store "disk" (eVar 0)) (aCons (eVar 2) aNil)) aNil)))
  (sSeq (sIf (tOf (eBin oEq (eVar 1) (eBin oIx (eMe .store "files" m_Store_files (eVar 0) aNil) (eUn oNeg (eC (.int 1)))))) (sSeq (sSet 6 (eCall m_deal_start (aCons (eVar 4) aNil)))
  (sSeq (sWhile (tOf (eBin oNotN (eVar 6) (eC .non))) (sSeq (sSet 5 (eVar 6))
  (sSeq (sSet 4 (eLc false [9] (iLst (eVar 4)) (Lt.gName 9) (tOf (eBin oLt (eBin oIx (eVar 9) (eC (.int 1))) (eVar 5))) (eVar 9)))
  (sSet 6 (eCall m_deal_start (aCons (eVar 4) aNil))))))
  (sIf (tOf (eBin oLt (eVar 5) (eMe .disk "size" m_Disk_size (eFld .store "disk" (eVar 0)) (aCons (eVar 2) aNil)))) (sExpr (eMe .disk "shorten" m_Disk_shorten (eFld .store "disk" (eVar 0)) (aCons (eVar 2) (aCons (eVar 5) aNil)))) sNop))) sNop)
  (sSeq (sFor (iLst (eVar 4)) (Lt.gTup [7, 8]) (sSeq (sFldS .store "last" (eVar 0) (eB1 bMax2 (aCons (eFld .store "last" (eVar 0)) (aCons (eBin oIx (eVar 7) (eC (.int 1))) aNil))))
  (sIf (tOf (eBin oEq (eBin oIx (eVar 7) (eC (.int 0))) (eC (.str "thin")))) (sFldS .store "thinned" (eVar 0) (eBin oIx (eVar 7) (eC (.int 1)))) sNop)))
  (sFor (iLst (eCall m_settled (aCons (eVar 4) aNil))) (Lt.gTup [7, 8]) (sExpr (eMe .store "learn" m_Store_learn (eVar 0) (aCons (eVar 7) (aCons (eVar 1) (aCons (eVar 8) aNil)))))))))))
noncomputable def m_Store_open_file : List D → M D := runF 2 10 b_Store_open_file

noncomputable def b_Store_wake : SC := (sSeq (sFor (iLst (eMe .disk "names" m_Disk_names (eFld .store "disk" (eVar 0)) aNil)) (Lt.gName 1) (sIf (tOf (eBin oNotN (eCall m_number_in (aCons (eVar 1) (aCons (eC (.str c_NEW)) aNil))) (eC .non))) (sExpr (eMe .disk "remove" m_Disk_remove (eFld .store "disk" (eVar 0)) (aCons (eVar 1) aNil))) sNop))
  (sSeq (sSet 2 (eMe .store "first_file" m_Store_first_file (eVar 0) aNil))
  (sSeq (sFor (iLst (eMe .store "files" m_Store_files (eVar 0) aNil)) (Lt.gName 3) (sIf (tOf (eBin oLt (eVar 3) (eVar 2))) (sExpr (eMe .disk "remove" m_Disk_remove (eFld .store "disk" (eVar 0)) (aCons (eCall m_log_name (aCons (eVar 3) aNil)) aNil))) sNop))
  (sSeq (sFor (iLst (eMe .disk "names" m_Disk_names (eFld .store "disk" (eVar 0)) aNil)) (Lt.gName 1) (sIf (Lt.tAnd (tOf (eBin oNotN (eCall m_number_in (aCons (eVar 1) (aCons (eC (.str c_HINT)) aNil))) (eC .non))) (tOf (eBin oNe (eCall m_number_in (aCons (eVar 1) (aCons (eC (.str c_HINT)) aNil))) (eVar 2)))) (sExpr (eMe .disk "remove" m_Disk_remove (eFld .store "disk" (eVar 0)) (aCons (eVar 1) aNil))) sNop))
  (sSeq (sFor (iLst (eMe .store "files" m_Store_files (eVar 0) aNil)) (Lt.gName 3) (sExpr (eMe .store "open_file" m_Store_open_file (eVar 0) (aCons (eVar 3) aNil))))
  (sIf (Lt.tNot (tTru (eMe .store "files" m_Store_files (eVar 0) aNil))) (sExpr (eMe .disk "write" m_Disk_write (eFld .store "disk" (eVar 0)) (aCons (eCall m_log_name (aCons (eC (.int 1)) aNil)) (aCons (eLst false aNil) aNil)))) sNop))))))
noncomputable def m_Store_wake : List D → M D := runF 1 4 b_Store_wake

noncomputable def b_Store___init__ : SC := (sSeq (sIf (tOf (eBin oLt (eVar 2) (eC (.int 64)))) (sRaise .size) sNop)
  (sSeq (sFldS .store "disk" (eVar 0) (eVar 1))
  (sSeq (sFldS .store "most" (eVar 0) (eVar 2))
  (sSeq (sFldS .store "table" (eVar 0) (eDsp [] aNil))
  (sSeq (sFldS .store "last" (eVar 0) (eC (.int 0)))
  (sSeq (sFldS .store "thinned" (eVar 0) (eC (.int 0)))
  (sSeq (sFldS .store "looks" (eVar 0) (eC (.int 0)))
  (sSeq (sFldS .store "thinning" (eVar 0) (eC .non))
  (sExpr (eMe .store "wake" m_Store_wake (eVar 0) aNil))))))))))
noncomputable def m_Store___init__ : List D → M D := runF 3 3 b_Store___init__

noncomputable def b_Store_current : SC := (sRet (eBin oIx (eMe .store "files" m_Store_files (eVar 0) aNil) (eUn oNeg (eC (.int 1)))))
noncomputable def m_Store_current : List D → M D := runP 1 1 b_Store_current

noncomputable def b_Store_make_room : SC := (sSeq (sSet 2 (eCall m_log_name (aCons (eMe .store "current" m_Store_current (eVar 0) aNil) aNil)))
  (sSeq (sSet 3 (eMe .disk "size" m_Disk_size (eFld .store "disk" (eVar 0)) (aCons (eVar 2) aNil)))
  (sIf (Lt.tAnd (tOf (eBin oGt (eVar 3) (eC (.int 0)))) (tOf (eBin oGt (eBin (oAdd false) (eVar 3) (eVar 1)) (eFld .store "most" (eVar 0))))) (sSeq (sExpr (eMe .disk "sync" m_Disk_sync (eFld .store "disk" (eVar 0)) (aCons (eVar 2) aNil)))
  (sExpr (eMe .disk "write" m_Disk_write (eFld .store "disk" (eVar 0)) (aCons (eCall m_log_name (aCons (eBin (oAdd false) (eMe .store "current" m_Store_current (eVar 0) aNil) (eC (.int 1))) aNil)) (aCons (eLst false aNil) aNil))))) sNop)))
noncomputable def m_Store_make_room : List D → M D := runF 2 4 b_Store_make_room

noncomputable def b_Store_append : SC := (sSeq (sSet 2 (eLst false aNil))
  (sSeq (sSet 3 (eLst true aNil))
  (sSeq (sFor (iLst (eVar 1)) (Lt.gName 4) (sSeq (sExpr (eML mAppend (eVar 3) (aCons (eB1 bLen (aCons (eVar 2) aNil)) aNil)))
  (sSet 2 (eBin (oAdd false) (eVar 2) (eCall m_written_row (aCons (eVar 4) aNil))))))
  (sSeq (sExpr (eMe .store "make_room" m_Store_make_room (eVar 0) (aCons (eB1 bLen (aCons (eVar 2) aNil)) aNil)))
  (sSeq (sSet 5 (eMe .store "current" m_Store_current (eVar 0) aNil))
  (sSeq (sSet 6 (eMe .disk "size" m_Disk_size (eFld .store "disk" (eVar 0)) (aCons (eCall m_log_name (aCons (eVar 5) aNil)) aNil)))
  (sSeq (sExpr (eMe .disk "write" m_Disk_write (eFld .store "disk" (eVar 0)) (aCons (eCall m_log_name (aCons (eVar 5) aNil)) (aCons (eVar 2) aNil))))
  (sSeq (sFldS .store "last" (eVar 0) (eBin oIx (eBin oIx (eVar 1) (eUn oNeg (eC (.int 1)))) (eC (.int 1))))
  (sFor (iRng1 (eB1 bLen (aCons (eVar 1) aNil))) (Lt.gName 7) (sIf (tOf (eBin oIn (eBin oIx (eBin oIx (eVar 1) (eVar 7)) (eC (.int 0))) (eTup (aCons (eC (.str "put")) (aCons (eC (.str "drop")) aNil))))) (sExpr (eMe .store "learn" m_Store_learn (eVar 0) (aCons (eBin oIx (eVar 1) (eVar 7)) (aCons (eVar 5) (aCons (eBin (oAdd false) (eVar 6) (eBin oIx (eVar 3) (eVar 7))) aNil))))) sNop))))))))))
noncomputable def m_Store_append : List D → M D := runF 2 8 b_Store_append

noncomputable def b_Store_put : SC := (sSeq (sExpr (eCall m_look_key (aCons (eVar 1) aNil)))
  (sSeq (sExpr (eCall m_look_value (aCons (eVar 2) aNil)))
  (sSeq (sExpr (eMe .store "append" m_Store_append (eVar 0) (aCons (eLst false (aCons (eTup (aCons (eC (.str "put")) (aCons (eBin (oAdd false) (eFld .store "last" (eVar 0)) (eC (.int 1))) (aCons (eVar 1) (aCons (eVar 2) aNil))))) aNil)) aNil)))
  (sRet (eFld .store "last" (eVar 0))))))
noncomputable def m_Store_put : List D → M D := runF 3 3 b_Store_put

noncomputable def b_Store_drop : SC := (sSeq (sExpr (eCall m_look_key (aCons (eVar 1) aNil)))
  (sSeq (sIf (tOf (eBin oNotIn (eVar 1) (eFld .store "table" (eVar 0)))) (sRet (eC .non)) sNop)
  (sSeq (sExpr (eMe .store "append" m_Store_append (eVar 0) (aCons (eLst false (aCons (eTup (aCons (eC (.str "drop")) (aCons (eBin (oAdd false) (eFld .store "last" (eVar 0)) (eC (.int 1))) (aCons (eVar 1) (aCons (eC (.str "")) aNil))))) aNil)) aNil)))
  (sRet (eFld .store "last" (eVar 0))))))
noncomputable def m_Store_drop : List D → M D := runF 2 2 b_Store_drop

noncomputable def b__law_cell : SC := (sSeq (sIf (tTru (eVar 0)) (sRet (eBin oIx (eVar 0) (eBin oMod (eVar 1) (eB1 bLen (aCons (eVar 0) aNil))))) sNop)
  (sRet (eC (.int 0))))
noncomputable def m__law_cell : List D → M D := runP 2 2 b__law_cell

noncomputable def b__law_mix : SC := (sSeq (sSet 2 (eBin oMod (eBin (oAdd false) (eCall m__law_cell (aCons (eVar 0) (aCons (eVar 1) aNil))) (eBin oMul (eC (.int 104729)) (eBin (oAdd false) (eVar 1) (eC (.int 1))))) (eC (.int 4294967291))))
  (sSeq (sSet 2 (eBin oMod (eBin oPow (eVar 2) (eC (.int 5))) (eC (.int 4294967279))))
  (sRet (eBin oMod (eBin (oAdd false) (eBin oMul (eBin oFdiv (eVar 2) (eC (.int 64))) (eC (.int 69621))) (eVar 2)) (eC (.int 4294967231))))))
noncomputable def m__law_mix : List D → M D := runP 2 3 b__law_mix

noncomputable def b__law_draw : SC := (sSeq (sExpr (eML mAppend (eVar 1) (aCons (eC (.int 0)) aNil)))
  (sRet (eBin oMod (eBin oFdiv (eCall m__law_mix (aCons (eVar 0) (aCons (eB1 bLen (aCons (eVar 1) aNil)) aNil))) (eC (.int 8))) (eVar 2))))
noncomputable def m__law_draw : List D → M D := runF 3 3 b__law_draw

noncomputable def b__law_pick : SC := (sRet (eBin oIx (eVar 2) (eCall m__law_draw (aCons (eVar 0) (aCons (eVar 1) (aCons (eB1 bLen (aCons (eVar 2) aNil)) aNil))))))
noncomputable def m__law_pick : List D → M D := runF 3 3 b__law_pick

noncomputable def b__law_refusal : SC := (sSeq (sIf (tOf (eBin oIsN (eVar 0) (eC .non))) (sRet (eTup (aCons (eC (.str "ok")) aNil))) sNop)
  (sSeq (sSet 1 (eLst false (aCons (eIsi (isiE (some .row)) (eVar 0)) (aCons (eIsi (isiE (some .file)) (eVar 0)) (aCons (eIsi (isiE (some .size)) (eVar 0)) aNil)))))
  (sSeq (sSet 1 (eBin (oAdd false) (eVar 1) (eLst false (aCons (eIsi (isiE (some .old)) (eVar 0)) (aCons (eIsi (isiE (some .ended)) (eVar 0)) (aCons (eIsi (isiE (some .stop)) (eVar 0)) aNil))))))
  (sSeq (sIf (Lt.tOr (tOf (eBin oNe (eML mCount (eVar 1) (aCons (eC (.bl true)) aNil)) (eC (.int 1)))) (Lt.tNot (tTru (eIsi (isiE none) (eVar 0))))) (sRet (eTup (aCons (eC (.str "wrong")) aNil))) sNop)
  (sRet (eTup (aCons (eC (.str "refused")) (aCons (eBin oIx (eLst false (aCons (eC (.str "row")) (aCons (eC (.str "file")) (aCons (eC (.str "size")) (aCons (eC (.str "old")) (aCons (eC (.str "ended")) (aCons (eC (.str "stop")) aNil))))))) (eML mIndex (eVar 1) (aCons (eC (.bl true)) aNil))) aNil))))))))
noncomputable def m__law_refusal : List D → M D := runP 1 2 b__law_refusal

noncomputable def b__law_filled : SC := (sSeq (sSet 4 (eDsp [] aNil))
  (sSeq (sFor (iRng1 (eVar 3)) (Lt.gName 5) (sSeq (sSet 6 (eCall m__law_pick (aCons (eVar 0) (aCons (eVar 1) (aCons (eLst false (aCons (eC (.str "a")) (aCons (eC (.str "b")) (aCons (eC (.str "ab")) (aCons (eC (.str "abc")) (aCons (eC (.str "b ")) (aCons (eC (.str "c1")) (aCons (eC (.str "c2")) (aCons (eC (.str "d")) aNil))))))))) aNil)))))
  (sIf (tOf (eBin oGt (eCall m__law_draw (aCons (eVar 0) (aCons (eVar 1) (aCons (eC (.int 5)) aNil)))) (eC (.int 0)))) (sSeq (sDPutS (eVar 4) (eVar 6) (eCall m__law_pick (aCons (eVar 0) (aCons (eVar 1) (aCons (eLst false (aCons (eC (.str "")) (aCons (eC (.str "x")) (aCons (eBin (oAdd false) (eC (.str "value ")) (eB1 bStr (aCons (eVar 5) aNil))) aNil)))) aNil)))))
  (sExpr (eMe .store "put" m_Store_put (eVar 2) (aCons (eVar 6) (aCons (eBin oIx (eVar 4) (eVar 6)) aNil))))) (sSeq (sExpr (eDPop2 (eVar 4) (eVar 6) (eC .non)))
  (sExpr (eMe .store "drop" m_Store_drop (eVar 2) (aCons (eVar 6) aNil)))))))
  (sRet (eVar 4))))
noncomputable def m__law_filled : List D → M D := runF 4 7 b__law_filled

noncomputable def b__law_told : SC := (sSeq (sSet 3 (eC .non))
  (sSeq (sSet 4 (eC .non))
  (sSeq (sTryAs [.row, .file, .size] (fun _ => true) 5 3 (sSet 4 (eIf (tOf (eBin oEq (eVar 0) (eC (.int 0)))) (eCall m_walk (aCons (eVar 1) (aCons (eC .non) (aCons (eC .non) (aCons (eVar 2) (aCons (eC (.bl false)) aNil)))))) (eCall m_pages (aCons (eVar 1) (aCons (eVar 2) aNil))))))
  (sRet (eIf (tOf (eBin oIsN (eVar 3) (eC .non))) (eVar 4) (eCall m__law_refusal (aCons (eVar 3) aNil)))))))
noncomputable def m__law_told : List D → M D := runP 3 6 b__law_told

noncomputable def b_law : SC := (sSeq (sSet 1 (eLst true aNil))
  (sSeq (sSet 2 (eMake .store m_Store___init__ (aCons (eMake .disk m_Disk___init__ (aCons (eC .non) aNil)) (aCons (eBin (oAdd false) (eC (.int 64)) (eCall m__law_draw (aCons (eVar 0) (aCons (eVar 1) (aCons (eC (.int 137)) aNil))))) aNil))))
  (sSeq (sSet 3 (eCall m__law_filled (aCons (eVar 0) (aCons (eVar 1) (aCons (eVar 2) (aCons (eCall m__law_draw (aCons (eVar 0) (aCons (eVar 1) (aCons (eC (.int 20)) aNil)))) aNil))))))
  (sSeq (sSet 4 (eSoK false (eVar 3)))
  (sSeq (sSet 5 (eLst false (aCons (eC .non) (aCons (eC (.str "a")) (aCons (eC (.str "ab")) (aCons (eC (.str "abc")) (aCons (eC (.str "b")) (aCons (eC (.str "b ")) (aCons (eC (.str "c")) (aCons (eC (.str "c1")) (aCons (eC (.str "zz")) (aCons (eC (.str "")) aNil))))))))))))
  (sSeq (sFor (iRng1 (eC (.int 6))) (Lt.gName 6) (sSeq (sSet 7 (eCall m__law_pick (aCons (eVar 0) (aCons (eVar 1) (aCons (eVar 5) aNil)))))
  (sSeq (sSet 8 (eCall m__law_pick (aCons (eVar 0) (aCons (eVar 1) (aCons (eVar 5) aNil)))))
  (sSeq (sSet 9 (eCall m__law_draw (aCons (eVar 0) (aCons (eVar 1) (aCons (eC (.int 10)) aNil)))))
  (sSeq (sSet 10 (eBin oEq (eCall m__law_draw (aCons (eVar 0) (aCons (eVar 1) (aCons (eC (.int 2)) aNil)))) (eC (.int 0))))
  (sSeq (sSet 11 (eLc false [13] (iLst (eVar 4)) (Lt.gName 13) (Lt.tAnd (Lt.tOr (tOf (eBin oIsN (eVar 7) (eC .non))) (tOf (eBin oLe (eVar 7) (eVar 13)))) (Lt.tOr (tOf (eBin oIsN (eVar 8) (eC .non))) (tOf (eBin oLt (eVar 13) (eVar 8))))) (eTup (aCons (eVar 13) (aCons (eBin oIx (eVar 3) (eVar 13)) aNil)))))
  (sSeq (sIf (tTru (eVar 10)) (sSet 11 (eUn (oRev false) (eVar 11))) sNop)
  (sSeq (sIf (tOf (eBin oNe (eCall m_walk (aCons (eVar 2) (aCons (eVar 7) (aCons (eVar 8) (aCons (eVar 9) (aCons (eVar 10) aNil)))))) (eSl false (eVar 11) oNone (oSome (eVar 9))))) (sRet (eC (.bl false))) sNop)
  (sSeq (sSet 12 (eCall m__law_pick (aCons (eVar 0) (aCons (eVar 1) (aCons (eLst false (aCons (eC (.str "")) (aCons (eC (.str "a")) (aCons (eC (.str "ab")) (aCons (eC (.str "b")) (aCons (eC (.str "c")) (aCons (eC (.str "x")) aNil))))))) aNil)))))
  (sSeq (sIf (tOf (eBin oNe (eCall m_beginning (aCons (eVar 2) (aCons (eVar 12) aNil))) (eLc false [13] (iLst (eVar 4)) (Lt.gName 13) (tOf (eBin oEq (eSl false (eVar 13) oNone (oSome (eB1 bLen (aCons (eVar 12) aNil)))) (eVar 12))) (eVar 13)))) (sRet (eC (.bl false))) sNop)
  (sSeq (sSet 13 (eCall m__law_pick (aCons (eVar 0) (aCons (eVar 1) (aCons (eSl false (eVar 5) (oSome (eC (.int 1))) oNone) aNil)))))
  (sSeq (sSet 14 (eLc false [20] (iLst (eVar 4)) (Lt.gName 20) (tOf (eBin oLe (eVar 20) (eVar 13))) (eVar 20)))
  (sSeq (sSet 15 (eLc false [20] (iLst (eVar 4)) (Lt.gName 20) (tOf (eBin oGe (eVar 20) (eVar 13))) (eVar 20)))
  (sIf (tOf (eBin oNe (eCall m_nearest (aCons (eVar 2) (aCons (eVar 13) aNil))) (eTup (aCons (eBin oIx (eBin (oAdd false) (eLst false (aCons (eC .non) aNil)) (eVar 14)) (eUn oNeg (eC (.int 1)))) (aCons (eBin oIx (eBin (oAdd false) (eVar 15) (eLst false (aCons (eC .non) aNil))) (eC (.int 0))) aNil))))) (sRet (eC (.bl false))) sNop))))))))))))))
  (sSeq (sSet 9 (eBin (oAdd false) (eC (.int 1)) (eCall m__law_draw (aCons (eVar 0) (aCons (eVar 1) (aCons (eC (.int 4)) aNil))))))
  (sSeq (sSet 16 (eCall m__law_told (aCons (eC (.int 1)) (aCons (eVar 2) (aCons (eVar 9) aNil)))))
  (sSeq (sSet 17 (eLst false aNil))
  (sSeq (sFor (iLst (eVar 16)) (Lt.gName 18) (sSet 17 (eBin (oAdd false) (eVar 17) (eVar 18))))
  (sSeq (sIf (Lt.tOr (tOf (eBin oNe (eVar 17) (eVar 4))) (Lt.tOr (Lt.tNot (tTru (eB1 bAll (aCons (eLc false [18] (iLst (eSl false (eVar 16) oNone (oSome (eUn oNeg (eC (.int 1)))))) (Lt.gName 18) Lt.tYes (eBin oEq (eB1 bLen (aCons (eVar 18) aNil)) (eVar 9))) aNil)))) (tOf (eBin oInP (eLst false aNil) (eVar 16))))) (sRet (eC (.bl false))) sNop)
  (sSeq (sIf (Lt.tAnd (tOf (eBin oNe (eVar 16) (eLst false aNil))) (tOf (eBin oGt (eB1 bLen (aCons (eBin oIx (eVar 16) (eUn oNeg (eC (.int 1)))) aNil)) (eVar 9)))) (sRet (eC (.bl false))) sNop)
  (sSeq (sSet 19 (eBin oSub (eC (.int 0)) (eCall m__law_draw (aCons (eVar 0) (aCons (eVar 1) (aCons (eC (.int 5)) aNil))))))
  (sRet (eAnd (eBin oEq (eCall m__law_told (aCons (eC (.int 0)) (aCons (eVar 2) (aCons (eBin oSub (eVar 19) (eC (.int 1))) aNil)))) (eTup (aCons (eC (.str "refused")) (aCons (eC (.str "size")) aNil)))) (eBin oEq (eCall m__law_told (aCons (eC (.int 1)) (aCons (eVar 2) (aCons (eVar 19) aNil)))) (eTup (aCons (eC (.str "refused")) (aCons (eC (.str "size")) aNil)))))))))))))))))))
noncomputable def m_law : List D → M D := runF 1 21 b_law
end Lt

set_option Elab.async false
set_option linter.all false
set_option maxRecDepth 100000
set_option maxHeartbeats 4000000
namespace Lt
open PySem PySem.Spec PyProof.Rows L2
/-! ### the text by places -/
def top (i : Nat) : Stmt := PySem.Challenge.pw_logtable_k70_whole_walks.main.body.getD i (.Pass ⟨0, 0, 0, 0⟩)
structure Fx (K : PySem.W.Frag) (mg : Str → Option Value) : Prop where
  x_BadSize : ExG K mg "BadSize" ((cnOf K).eA .size)
  n_range : mg "range" = none
  n_len : mg "len" = none
  c_MOST_NAME : ∃ t, mg "MOST_NAME" = some (.int 20 t)
  c_SMALL : ∃ t, mg "SMALL" = some (.str c_SMALL t)
  n_all : mg "all" = none
  x_BadFile : ExG K mg "BadFile" ((cnOf K).eA .file)
  k_Disk : Cls K ((cnOf K).iA .disk)
  a_Disk_room : NoAttr K ((cnOf K).iA .disk) "room"
  a_Disk_held : NoAttr K ((cnOf K).iA .disk) "held"
  a_Disk_sure : NoAttr K ((cnOf K).iA .disk) "sure"
  n_min : mg "min" = none
  x_Stop : ExG K mg "Stop" ((cnOf K).eA .stop)
  n_sorted : mg "sorted" = none
  n_list : mg "list" = none
  c_WHEEL : ∃ t, mg "WHEEL" = some (.int 65521 t)
  n_ord : mg "ord" = none
  c_MOST_KEY : ∃ t, mg "MOST_KEY" = some (.int 40 t)
  x_BadRow : ExG K mg "BadRow" ((cnOf K).eA .row)
  c_MOST_VALUE : ∃ t, mg "MOST_VALUE" = some (.int 400 t)
  c_KINDS : KLst K mg "KINDS" c_KINDS
  c_MOST_NUMBER : ∃ t, mg "MOST_NUMBER" = some (.int 999999999 t)
  c_SIGNS : ∃ t, mg "SIGNS" = some (.str c_SIGNS t)
  c_HEAD : ∃ t, mg "HEAD" = some (.int 12 t)
  e_BadRow_BadRow : PySem.W.exmOne K (.ref ((cnOf K).eA .row)) (.ref (He.ga K "BadRow")) = some true
  g_BadRow : mg "BadRow" = some (.ref (He.ga K "BadRow"))
  c_ENTRY : ∃ t, mg "ENTRY" = some (.int 9 t)
  c_LOG : ∃ t, mg "LOG" = some (.str c_LOG t)
  n_str : mg "str" = none
  n_int : mg "int" = none
  c_LEAST_FILE : ∃ t, mg "LEAST_FILE" = some (.int 64 t)
  k_Store : Cls K ((cnOf K).iA .store)
  a_Store_disk : NoAttr K ((cnOf K).iA .store) "disk"
  a_Store_most : NoAttr K ((cnOf K).iA .store) "most"
  a_Store_table : NoAttr K ((cnOf K).iA .store) "table"
  a_Store_last : NoAttr K ((cnOf K).iA .store) "last"
  a_Store_thinned : NoAttr K ((cnOf K).iA .store) "thinned"
  a_Store_looks : NoAttr K ((cnOf K).iA .store) "looks"
  a_Store_thinning : NoAttr K ((cnOf K).iA .store) "thinning"
  c_NEW : ∃ t, mg "NEW" = some (.str c_NEW t)
  c_HINT : ∃ t, mg "HINT" = some (.str c_HINT t)
  n_max : mg "max" = none
  n_isinstance : mg "isinstance" = none
  i_BadSize : IsiC K (cnOf K) (.ref (He.ga K "BadSize")) (isiE (some .size))
  g_BadSize : mg "BadSize" = some (.ref (He.ga K "BadSize"))
  i_BadFile : IsiC K (cnOf K) (.ref (He.ga K "BadFile")) (isiE (some .file))
  g_BadFile : mg "BadFile" = some (.ref (He.ga K "BadFile"))
  i_BadRow : IsiC K (cnOf K) (.ref (He.ga K "BadRow")) (isiE (some .row))
  i_Stop : IsiC K (cnOf K) (.ref (He.ga K "Stop")) (isiE (some .stop))
  g_Stop : mg "Stop" = some (.ref (He.ga K "Stop"))
  i_Ended : IsiC K (cnOf K) (.ref (He.ga K "Ended")) (isiE (some .ended))
  g_Ended : mg "Ended" = some (.ref (He.ga K "Ended"))
  i_TooOld : IsiC K (cnOf K) (.ref (He.ga K "TooOld")) (isiE (some .old))
  g_TooOld : mg "TooOld" = some (.ref (He.ga K "TooOld"))
  i_ValueError : IsiC K (cnOf K) (.type "ValueError") (isiE none)
  n_ValueError : mg "ValueError" = none
  e_BadSize_LogError : PySem.W.exmOne K (.ref ((cnOf K).eA .size)) (.ref (He.ga K "LogError")) = some true
  e_BadFile_LogError : PySem.W.exmOne K (.ref ((cnOf K).eA .file)) (.ref (He.ga K "LogError")) = some true
  e_BadRow_LogError : PySem.W.exmOne K (.ref ((cnOf K).eA .row)) (.ref (He.ga K "LogError")) = some true
  g_LogError : mg "LogError" = some (.ref (He.ga K "LogError"))
section
variable {P : Program} {w : World} {K : PySem.W.Frag} {mg : Str → Option Value} {base : Heap}
abbrev s_Store_all_keys : Stmt := inClass (top 53) 16
abbrev N_Store_all_keys : List Str := ["self"]
theorem sc_Store_all_keys : FnScope N_Store_all_keys ["self"] (defScope s_Store_all_keys) := ⟨rfl, rfl, rfl, by decide +kernel, rfl, by decide +kernel, by decide +kernel⟩
theorem ok_Store_all_keys {f : Addr} {fd : FuncData} (T : Fx K mg) (F : FnP K "all_keys" "Store.all_keys" s_Store_all_keys f fd) : FnOk P w K mg base (L2.CX P w) 1 f fd ["self"] (SpM (cnOf K) m_Store_all_keys) :=
  fnOk_pure (fn_okD (k := 0) (b := b_Store_all_keys) (N := N_Store_all_keys) (ps := ["self"]) rfl F sc_Store_all_keys (by decide) fun cdv A outer s H E hr tk nd => by exact
  (css_one (cs_ret (ce_soK false rfl T.n_sorted (ce_fld T.k_Store T.a_Store_table (ce_var 0))))))
abbrev s_between : Stmt := top 10
abbrev N_between : List Str := ["store", "first", "last", "found", "key"]
theorem sc_between : FnScope N_between ["store", "first", "last"] (defScope s_between) := ⟨rfl, rfl, rfl, by decide +kernel, rfl, by decide +kernel, by decide +kernel⟩
theorem ok_between {f : Addr} {fd : FuncData} (T : Fx K mg) (F : FnP K "between" "between" s_between f fd) (g_Store_all_keys : MeG P w K mg base (cnOf K) .store "all_keys" 1 m_Store_all_keys) : FnOk P w K mg base (L2.CX P w) 2 f fd ["store", "first", "last"] (SpM (cnOf K) m_between) :=
  fnOk_pure (fn_okD (k := 1) (b := b_between) (N := N_between) (ps := ["store", "first", "last"]) rfl F sc_between (by decide) fun cdv A outer s H E hr tk nd => by exact
  (css_cons (cs_setLc false 3 rfl nd (sw_true rfl rfl rfl (by decide +kernel)) (ci_lst (ce_meth0 g_Store_all_keys (hr.mono (by decide)) tk (ce_var 0))) (blkOk_by (N := N_between) (sc := defScope s_between) (own := [("key", 4)]) (by decide +kernel)) (fun _ _ _ _ _ => (cgw_name 4 nd (by decide))) (fun _ _ _ _ _ => (cts_one (ct_w (cw_or (ct_isN (ce_var 1) ce_non) (cw_or1 (ct_ge (ce_var 4) (ce_var 1))))))) (fun _ _ _ _ _ => (ce_var 4)))
  (css_one (cs_ret (ce_lc false rfl nd (ci_lst (ce_var 3)) (blkOk_by (N := N_between) (sc := defScope s_between) (own := [("key", 4)]) (by decide +kernel)) (fun _ _ _ _ _ => (cgw_name 4 nd (by decide))) (fun _ _ _ _ _ => (cts_one (ct_w (cw_or (ct_isN (ce_var 2) ce_non) (cw_or1 (ct_lt (ce_var 4) (ce_var 2))))))) (fun _ _ _ _ _ => (ce_var 4)))))))
abbrev s_is_text : Stmt := top 31
abbrev N_is_text : List Str := ["text", "least", "most", "sign"]
theorem sc_is_text : FnScope N_is_text ["text", "least", "most"] (defScope s_is_text) := ⟨rfl, rfl, rfl, by decide +kernel, rfl, by decide +kernel, by decide +kernel⟩
theorem ok_is_text {f : Addr} {fd : FuncData} (T : Fx K mg) (F : FnP K "is_text" "is_text" s_is_text f fd) : FnOk P w K mg base (L2.CX P w) 1 f fd ["text", "least", "most"] (SpM (cnOf K) m_is_text) :=
  fnOk_pure (fn_okD (k := 0) (b := b_is_text) (N := N_is_text) (ps := ["text", "least", "most"]) rfl F sc_is_text (by decide) fun cdv A outer s H E hr tk nd => by exact
  (css_one (cs_ret (ce_and (ce_leLe (ce_var 1) (ce_len T.n_len (ca_cons (ce_var 0) ca_nil)) (ce_var 2)) (ce_one (ce_all rfl T.n_all (ca_cons (ce_lc false rfl nd (ci_str (ce_var 0)) (blkOk_by (N := N_is_text) (sc := defScope s_is_text) (own := [("sign", 3)]) (by decide +kernel)) (fun _ _ _ _ _ => (cgw_name 3 nd (by decide))) (fun _ _ _ _ _ => cts_nil) (fun _ _ _ _ _ => (ce_and (ce_leLt ce_int (ce_ord T.n_ord (ca_cons (ce_var 3) ca_nil)) ce_int) (ce_one (ce_ne hr (ce_ord T.n_ord (ca_cons (ce_var 3) ca_nil)) ce_int))))) ca_nil)))))))
abbrev s_look_key : Stmt := top 32
abbrev N_look_key : List Str := ["key"]
theorem sc_look_key : FnScope N_look_key ["key"] (defScope s_look_key) := ⟨rfl, rfl, rfl, by decide +kernel, rfl, by decide +kernel, by decide +kernel⟩
theorem ok_look_key {f : Addr} {fd : FuncData} (T : Fx K mg) (F : FnP K "look_key" "look_key" s_look_key f fd) (g_is_text : FnG P w K mg base (cnOf K) "is_text" 1 m_is_text) : FnOk P w K mg base (L2.CX P w) 2 f fd ["key"] (SpM (cnOf K) m_look_key) :=
  fnOk_pure (fn_okD (k := 1) (b := b_look_key) (N := N_look_key) (ps := ["key"]) rfl F sc_look_key (by decide) fun cdv A outer s H E hr tk nd => by exact
  (css_one (cs_if (ct_not (ct_tru (ce_call g_is_text (hr.mono (by decide)) tk (ca_cons (ce_var 0) (ca_cons ce_int (ca_cons (ce_gint T.c_MOST_KEY) ca_nil)))))) (css_one (cs_raise rfl tk T.x_BadRow)) css_nil)))
abbrev s_log_name : Stmt := top 51
abbrev N_log_name : List Str := ["number"]
theorem sc_log_name : FnScope N_log_name ["number"] (defScope s_log_name) := ⟨rfl, rfl, rfl, by decide +kernel, rfl, by decide +kernel, by decide +kernel⟩
theorem ok_log_name {f : Addr} {fd : FuncData} (T : Fx K mg) (F : FnP K "log_name" "log_name" s_log_name f fd) : FnOk P w K mg base (L2.CX P w) 1 f fd ["number"] (SpM (cnOf K) m_log_name) :=
  fnOk_pure (fn_okD (k := 0) (b := b_log_name) (N := N_log_name) (ps := ["number"]) rfl F sc_log_name (by decide) fun cdv A outer s H E hr tk nd => by exact
  (css_one (cs_ret (ce_add false (ce_gstr T.c_LOG) (ce_str1 T.n_str (ca_cons (ce_var 0) ca_nil))))))
abbrev s_Disk_look : Stmt := inClass (top 19) 3
abbrev N_Disk_look : List Str := ["self", "name"]
theorem sc_Disk_look : FnScope N_Disk_look ["self", "name"] (defScope s_Disk_look) := ⟨rfl, rfl, rfl, by decide +kernel, rfl, by decide +kernel, by decide +kernel⟩
theorem ok_Disk_look {f : Addr} {fd : FuncData} (T : Fx K mg) (F : FnP K "look" "Disk.look" s_Disk_look f fd) : FnOk P w K mg base (L2.CX P w) 1 f fd ["self", "name"] (SpM (cnOf K) m_Disk_look) :=
  fnOk_pure (fn_okD (k := 0) (b := b_Disk_look) (N := N_Disk_look) (ps := ["self", "name"]) rfl F sc_Disk_look (by decide) fun cdv A outer s H E hr tk nd => by exact
  (css_one (cs_if (ct_notIn hr (ce_var 1) (ce_fld T.k_Disk T.a_Disk_held (ce_var 0))) (css_one (cs_raise rfl tk T.x_BadFile)) css_nil)))
abbrev s_Disk_piece : Stmt := inClass (top 19) 6
abbrev N_Disk_piece : List Str := ["self", "name", "first", "last"]
theorem sc_Disk_piece : FnScope N_Disk_piece ["self", "name", "first", "last"] (defScope s_Disk_piece) := ⟨rfl, rfl, rfl, by decide +kernel, rfl, by decide +kernel, by decide +kernel⟩
theorem ok_Disk_piece {f : Addr} {fd : FuncData} (T : Fx K mg) (F : FnP K "piece" "Disk.piece" s_Disk_piece f fd) (g_Disk_look : MeG P w K mg base (cnOf K) .disk "look" 1 m_Disk_look) : FnOk P w K mg base (L2.CX P w) 2 f fd ["self", "name", "first", "last"] (SpM (cnOf K) m_Disk_piece) :=
  fnOk_pure (fn_okD (k := 1) (b := b_Disk_piece) (N := N_Disk_piece) (ps := ["self", "name", "first", "last"]) rfl F sc_Disk_piece (by decide) fun cdv A outer s H E hr tk nd => by exact
  (css_cons (cs_expr (ce_meth g_Disk_look (hr.mono (by decide)) tk (ce_var 0) (ca_cons (ce_var 1) ca_nil)))
  (css_one (cs_ret (ce_sl false (ce_ixr hr (ce_fld T.k_Disk T.a_Disk_held (ce_var 0)) (ce_var 1)) (co_some (ce_var 2)) (co_some (ce_var 3)))))))
abbrev s_number_of : Stmt := top 30
abbrev N_number_of : List Str := ["some", "found", "byte"]
theorem sc_number_of : FnScope N_number_of ["some"] (defScope s_number_of) := ⟨rfl, rfl, rfl, by decide +kernel, rfl, by decide +kernel, by decide +kernel⟩
theorem ok_number_of {f : Addr} {fd : FuncData} (T : Fx K mg) (F : FnP K "number_of" "number_of" s_number_of f fd) : FnOk P w K mg base (L2.CX P w) 1 f fd ["some"] (SpM (cnOf K) m_number_of) :=
  fnOk_pure (fn_okD (k := 0) (b := b_number_of) (N := N_number_of) (ps := ["some"]) rfl F sc_number_of (by decide) fun cdv A outer s H E hr tk nd => by exact
  (css_cons (cs_set 1 nd ce_int)
  (css_cons (cs_for (passes_of rfl) rfl (ci_lst (ce_var 0)) (cg_name 2 nd) (css_one (cs_set 1 nd (ce_add false (ce_mul ce_int (ce_var 1)) (ce_var 2)))))
  (css_one (cs_ret (ce_var 1))))))
abbrev s_number_bytes : Stmt := top 29
abbrev N_number_bytes : List Str := ["number", "many", "found", "k"]
theorem sc_number_bytes : FnScope N_number_bytes ["number", "many"] (defScope s_number_bytes) := ⟨rfl, rfl, rfl, by decide +kernel, rfl, by decide +kernel, by decide +kernel⟩
theorem ok_number_bytes {f : Addr} {fd : FuncData} (T : Fx K mg) (F : FnP K "number_bytes" "number_bytes" s_number_bytes f fd) : FnOk P w K mg base (L2.CX P w) 1 f fd ["number", "many"] (SpM (cnOf K) m_number_bytes) :=
  fnOk_pure (fn_okD (k := 0) (b := b_number_bytes) (N := N_number_bytes) (ps := ["number", "many"]) rfl F sc_number_bytes (by decide) fun cdv A outer s H E hr tk nd => by exact
  (css_cons (cs_set 2 nd (ce_lst true ca_nil))
  (css_cons (cs_for (passes_of rfl) rfl (ci_rng1 T.n_range (ce_var 1)) (cg_name 3 nd) (css_cons (cs_expr (ce_append (ce_var 2) (ce_mod (ce_var 0) ce_int)))
  (css_one (cs_set 0 nd (ce_fdiv (ce_var 0) ce_int)))))
  (css_one (cs_ret (ce_rev false (ce_var 2)))))))
abbrev s_sums_of : Stmt := top 28
abbrev N_sums_of : List Str := ["some", "one", "other", "byte"]
theorem sc_sums_of : FnScope N_sums_of ["some"] (defScope s_sums_of) := ⟨rfl, rfl, rfl, by decide +kernel, rfl, by decide +kernel, by decide +kernel⟩
theorem ok_sums_of {f : Addr} {fd : FuncData} (T : Fx K mg) (F : FnP K "sums_of" "sums_of" s_sums_of f fd) (g_number_bytes : FnG P w K mg base (cnOf K) "number_bytes" 1 m_number_bytes) : FnOk P w K mg base (L2.CX P w) 2 f fd ["some"] (SpM (cnOf K) m_sums_of) :=
  fnOk_pure (fn_okD (k := 1) (b := b_sums_of) (N := N_sums_of) (ps := ["some"]) rfl F sc_sums_of (by decide) fun cdv A outer s H E hr tk nd => by exact
  (css_cons (cs_set 1 nd ce_int)
  (css_cons (cs_set 2 nd ce_int)
  (css_cons (cs_for (passes_of rfl) rfl (ci_lst (ce_var 0)) (cg_name 3 nd) (css_cons (cs_set 1 nd (ce_mod (ce_add false (ce_var 1) (ce_var 3)) (ce_gint T.c_WHEEL)))
  (css_one (cs_set 2 nd (ce_mod (ce_add false (ce_var 2) (ce_var 1)) (ce_gint T.c_WHEEL))))))
  (css_one (cs_ret (ce_add false (ce_call g_number_bytes (hr.mono (by decide)) tk (ca_cons (ce_var 2) (ca_cons ce_int ca_nil))) (ce_call g_number_bytes (hr.mono (by decide)) tk (ca_cons (ce_var 1) (ca_cons ce_int ca_nil))))))))))
abbrev s_text_of : Stmt := top 36
abbrev N_text_of : List Str := ["some", "byte"]
theorem sc_text_of : FnScope N_text_of ["some"] (defScope s_text_of) := ⟨rfl, rfl, rfl, by decide +kernel, rfl, by decide +kernel, by decide +kernel⟩
theorem ok_text_of {f : Addr} {fd : FuncData} (T : Fx K mg) (F : FnP K "text_of" "text_of" s_text_of f fd) : FnOk P w K mg base (L2.CX P w) 1 f fd ["some"] (SpM (cnOf K) m_text_of) :=
  fnOk_pure (fn_okD (k := 0) (b := b_text_of) (N := N_text_of) (ps := ["some"]) rfl F sc_text_of (by decide) fun cdv A outer s H E hr tk nd => by exact
  (css_cons (cs_if (ct_not (ct_tru (ce_all rfl T.n_all (ca_cons (ce_lc false rfl nd (ci_lst (ce_var 0)) (blkOk_by (N := N_text_of) (sc := defScope s_text_of) (own := [("byte", 1)]) (by decide +kernel)) (fun _ _ _ _ _ => (cgw_name 1 nd (by decide))) (fun _ _ _ _ _ => cts_nil) (fun _ _ _ _ _ => (ce_and (ce_leLt ce_int (ce_var 1) ce_int) (ce_one (ce_ne hr (ce_var 1) ce_int))))) ca_nil)))) (css_one (cs_ret ce_non)) css_nil)
  (css_one (cs_ret (ce_join ce_str (ce_lc false rfl nd (ci_lst (ce_var 0)) (blkOk_by (N := N_text_of) (sc := defScope s_text_of) (own := [("byte", 1)]) (by decide +kernel)) (fun _ _ _ _ _ => (cgw_name 1 nd (by decide))) (fun _ _ _ _ _ => cts_nil) (fun _ _ _ _ _ => (ce_ixr hr (ce_gstr T.c_SIGNS) (ce_sub (ce_var 1) ce_int)))))))))
abbrev s_look_value : Stmt := top 33
abbrev N_look_value : List Str := ["value"]
theorem sc_look_value : FnScope N_look_value ["value"] (defScope s_look_value) := ⟨rfl, rfl, rfl, by decide +kernel, rfl, by decide +kernel, by decide +kernel⟩
theorem ok_look_value {f : Addr} {fd : FuncData} (T : Fx K mg) (F : FnP K "look_value" "look_value" s_look_value f fd) (g_is_text : FnG P w K mg base (cnOf K) "is_text" 1 m_is_text) : FnOk P w K mg base (L2.CX P w) 2 f fd ["value"] (SpM (cnOf K) m_look_value) :=
  fnOk_pure (fn_okD (k := 1) (b := b_look_value) (N := N_look_value) (ps := ["value"]) rfl F sc_look_value (by decide) fun cdv A outer s H E hr tk nd => by exact
  (css_one (cs_if (ct_not (ct_tru (ce_call g_is_text (hr.mono (by decide)) tk (ca_cons (ce_var 0) (ca_cons ce_int (ca_cons (ce_gint T.c_MOST_VALUE) ca_nil)))))) (css_one (cs_raise rfl tk T.x_BadRow)) css_nil)))
abbrev s_look_row : Stmt := top 34
abbrev N_look_row : List Str := ["row"]
theorem sc_look_row : FnScope N_look_row ["row"] (defScope s_look_row) := ⟨rfl, rfl, rfl, by decide +kernel, rfl, by decide +kernel, by decide +kernel⟩
theorem ok_look_row {f : Addr} {fd : FuncData} (T : Fx K mg) (F : FnP K "look_row" "look_row" s_look_row f fd) (g_look_key : FnG P w K mg base (cnOf K) "look_key" 2 m_look_key) (g_look_value : FnG P w K mg base (cnOf K) "look_value" 2 m_look_value) : FnOk P w K mg base (L2.CX P w) 3 f fd ["row"] (SpM (cnOf K) m_look_row) :=
  fnOk_pure (fn_okD (k := 2) (b := b_look_row) (N := N_look_row) (ps := ["row"]) rfl F sc_look_row (by decide) fun cdv A outer s H E hr tk nd => by exact
  (css_cons (cs_if (ct_w (cw_or (ct_ne hr (ce_len T.n_len (ca_cons (ce_var 0) ca_nil)) ce_int) (cw_or (ct_notIn hr (ce_ixr hr (ce_var 0) ce_int) (ce_sl false (ce_glst T.c_KINDS) (co_some ce_int) co_none)) (cw_or1 (ct_not (ct_leLe ce_int (ce_ixr hr (ce_var 0) ce_int) (ce_gint T.c_MOST_NUMBER))))))) (css_one (cs_raise rfl tk T.x_BadRow)) css_nil)
  (css_cons (cs_if (ct_in hr (ce_ixr hr (ce_var 0) ce_int) (ce_tup (ca_cons ce_str (ca_cons ce_str ca_nil)))) (css_one (cs_expr (ce_call g_look_key (hr.mono (by decide)) tk (ca_cons (ce_ixr hr (ce_var 0) ce_int) ca_nil)))) (css_one (cs_if (ct_ne hr (ce_ixr hr (ce_var 0) ce_int) ce_str) (css_one (cs_raise rfl tk T.x_BadRow)) css_nil)))
  (css_one (cs_if (ct_eq hr (ce_ixr hr (ce_var 0) ce_int) ce_str) (css_one (cs_expr (ce_call g_look_value (hr.mono (by decide)) tk (ca_cons (ce_ixr hr (ce_var 0) ce_int) ca_nil)))) (css_one (cs_if (ct_ne hr (ce_ixr hr (ce_var 0) ce_int) ce_str) (css_one (cs_raise rfl tk T.x_BadRow)) css_nil)))))))
abbrev s_row_at : Stmt := top 37
abbrev N_row_at : List Str := ["some", "at", "head", "behind", "end", "row", "good"]
theorem sc_row_at : FnScope N_row_at ["some", "at"] (defScope s_row_at) := ⟨rfl, rfl, rfl, by decide +kernel, rfl, by decide +kernel, by decide +kernel⟩
theorem ok_row_at {f : Addr} {fd : FuncData} (T : Fx K mg) (F : FnP K "row_at" "row_at" s_row_at f fd) (g_number_of : FnG P w K mg base (cnOf K) "number_of" 1 m_number_of) (g_sums_of : FnG P w K mg base (cnOf K) "sums_of" 2 m_sums_of) (g_text_of : FnG P w K mg base (cnOf K) "text_of" 1 m_text_of) (g_look_row : FnG P w K mg base (cnOf K) "look_row" 3 m_look_row) : FnOk P w K mg base (L2.CX P w) 4 f fd ["some", "at"] (SpM (cnOf K) m_row_at) :=
  fnOk_pure (fn_okD (k := 3) (b := b_row_at) (N := N_row_at) (ps := ["some", "at"]) rfl F sc_row_at (by decide) fun cdv A outer s H E hr tk nd => by exact
  (css_cons (cs_set 2 nd (ce_sl false (ce_var 0) (co_some (ce_var 1)) (co_some (ce_add false (ce_var 1) (ce_gint T.c_HEAD)))))
  (css_cons (cs_if (ct_w (cw_or (ct_lt (ce_len T.n_len (ca_cons (ce_var 2) ca_nil)) (ce_gint T.c_HEAD)) (cw_or1 (ct_not (ct_leLt ce_int (ce_ixr hr (ce_var 2) ce_int) (ce_len T.n_len (ca_cons (ce_glst T.c_KINDS) ca_nil))))))) (css_one (cs_ret ce_non)) css_nil)
  (css_cons (cs_set 3 nd (ce_add false (ce_add false (ce_var 1) (ce_gint T.c_HEAD)) (ce_ixr hr (ce_var 2) ce_int)))
  (css_cons (cs_set 4 nd (ce_add false (ce_var 3) (ce_call g_number_of (hr.mono (by decide)) tk (ca_cons (ce_sl false (ce_var 2) (co_some ce_int) (co_some ce_int)) ca_nil))))
  (css_cons (cs_if (ct_w (cw_or (ct_gt (ce_var 4) (ce_len T.n_len (ca_cons (ce_var 0) ca_nil))) (cw_or1 (ct_ne hr (ce_call g_sums_of (hr.mono (by decide)) tk (ca_cons (ce_sl false (ce_var 0) (co_some (ce_add false (ce_var 1) ce_int)) (co_some (ce_var 4))) ca_nil)) (ce_sl false (ce_var 2) co_none (co_some ce_int)))))) (css_one (cs_ret ce_non)) css_nil)
  (css_cons (cs_set 5 nd (ce_tup (ca_cons (ce_ixr hr (ce_glst T.c_KINDS) (ce_ixr hr (ce_var 2) ce_int)) (ca_cons (ce_call g_number_of (hr.mono (by decide)) tk (ca_cons (ce_sl false (ce_var 2) (co_some ce_int) (co_some ce_int)) ca_nil)) (ca_cons (ce_call g_text_of (hr.mono (by decide)) tk (ca_cons (ce_sl false (ce_var 0) (co_some (ce_add false (ce_var 1) (ce_gint T.c_HEAD))) (co_some (ce_var 3))) ca_nil)) (ca_cons (ce_call g_text_of (hr.mono (by decide)) tk (ca_cons (ce_sl false (ce_var 0) (co_some (ce_var 3)) (co_some (ce_var 4))) ca_nil)) ca_nil))))))
  (css_cons (cs_if (ct_w (cw_or (ct_isN (ce_ixr hr (ce_var 5) ce_int) ce_non) (cw_or1 (ct_isN (ce_ixr hr (ce_var 5) ce_int) ce_non)))) (css_one (cs_ret ce_non)) css_nil)
  (css_cons (cs_set 6 nd ce_bl)
  (css_cons (cs_try_only rfl rfl ⟨rfl, by decide, .inl T.g_BadRow⟩ tk (List.forall_mem_cons.mpr ⟨T.e_BadRow_BadRow, (List.forall_mem_nil _)⟩) (fun W pn xe tk hp => (css_one (cs_expr (ce_call g_look_row (hr.mono (by decide)) tk (ca_cons (ce_var 5) ca_nil))))) (fun a oe pn => (css_one (cs_set 6 nd ce_bl))))
  (css_one (cs_ret (ce_if (ct_tru (ce_var 6)) (ce_tup (ca_cons (ce_var 5) (ca_cons (ce_var 4) ca_nil))) ce_non)))))))))))))
abbrev s_read_row : Stmt := top 54
abbrev N_read_row : List Str := ["disk", "number", "place", "name", "head", "many", "both"]
theorem sc_read_row : FnScope N_read_row ["disk", "number", "place"] (defScope s_read_row) := ⟨rfl, rfl, rfl, by decide +kernel, rfl, by decide +kernel, by decide +kernel⟩
theorem ok_read_row {f : Addr} {fd : FuncData} (T : Fx K mg) (F : FnP K "read_row" "read_row" s_read_row f fd) (g_log_name : FnG P w K mg base (cnOf K) "log_name" 1 m_log_name) (g_Disk_piece : MeG P w K mg base (cnOf K) .disk "piece" 2 m_Disk_piece) (g_row_at : FnG P w K mg base (cnOf K) "row_at" 4 m_row_at) : FnOk P w K mg base (L2.CX P w) 5 f fd ["disk", "number", "place"] (SpM (cnOf K) m_read_row) :=
  fnOk_pure (fn_okD (k := 4) (b := b_read_row) (N := N_read_row) (ps := ["disk", "number", "place"]) rfl F sc_read_row (by decide) fun cdv A outer s H E hr tk nd => by exact
  (css_cons (cs_set 3 nd (ce_call g_log_name (hr.mono (by decide)) tk (ca_cons (ce_var 1) ca_nil)))
  (css_cons (cs_set 4 nd (ce_meth g_Disk_piece (hr.mono (by decide)) tk (ce_var 0) (ca_cons (ce_var 3) (ca_cons (ce_var 2) (ca_cons (ce_add false (ce_var 2) (ce_gint T.c_HEAD)) ca_nil)))))
  (css_cons (cs_set 5 nd (ce_if (ct_eq hr (ce_len T.n_len (ca_cons (ce_var 4) ca_nil)) (ce_gint T.c_HEAD)) (ce_add false (ce_add false (ce_add false (ce_gint T.c_HEAD) (ce_ixr hr (ce_var 4) ce_int)) (ce_mul ce_int (ce_ixr hr (ce_var 4) ce_int))) (ce_ixr hr (ce_var 4) ce_int)) ce_int))
  (css_cons (cs_set 6 nd (ce_call g_row_at (hr.mono (by decide)) tk (ca_cons (ce_meth g_Disk_piece (hr.mono (by decide)) tk (ce_var 0) (ca_cons (ce_var 3) (ca_cons (ce_var 2) (ca_cons (ce_add false (ce_var 2) (ce_var 5)) ca_nil)))) (ca_cons ce_int ca_nil))))
  (css_cons (cs_if (ct_isN (ce_var 6) ce_non) (css_one (cs_raise rfl tk T.x_BadFile)) css_nil)
  (css_one (cs_ret (ce_ixr hr (ce_var 6) ce_int)))))))))
abbrev s_Store_row_of : Stmt := inClass (top 53) 14
abbrev N_Store_row_of : List Str := ["self", "key", "number", "file_number", "place"]
theorem sc_Store_row_of : FnScope N_Store_row_of ["self", "key"] (defScope s_Store_row_of) := ⟨rfl, rfl, rfl, by decide +kernel, rfl, by decide +kernel, by decide +kernel⟩
theorem ok_Store_row_of {f : Addr} {fd : FuncData} (T : Fx K mg) (F : FnP K "row_of" "Store.row_of" s_Store_row_of f fd) (g_look_key : FnG P w K mg base (cnOf K) "look_key" 2 m_look_key) (g_read_row : FnG P w K mg base (cnOf K) "read_row" 5 m_read_row) : FnOk P w K mg base (L2.CX P w) 6 f fd ["self", "key"] (SpM (cnOf K) m_Store_row_of) :=
  fnOk_pure (fn_okD (k := 5) (b := b_Store_row_of) (N := N_Store_row_of) (ps := ["self", "key"]) rfl F sc_Store_row_of (by decide) fun cdv A outer s H E hr tk nd => by exact
  (css_cons (cs_expr (ce_call g_look_key (hr.mono (by decide)) tk (ca_cons (ce_var 1) ca_nil)))
  (css_cons (cs_if (ct_notIn hr (ce_var 1) (ce_fld T.k_Store T.a_Store_table (ce_var 0))) (css_one (cs_ret ce_non)) css_nil)
  (css_cons (cs_unp (ce_ixr hr (ce_fld T.k_Store T.a_Store_table (ce_var 0)) (ce_var 1)) (cg_tup rfl (cgs_cons 2 nd (cgs_cons 3 nd (cgs_cons 4 nd cgs_nil)))))
  (css_one (cs_ret (ce_call g_read_row (hr.mono (by decide)) tk (ca_cons (ce_fld T.k_Store T.a_Store_disk (ce_var 0)) (ca_cons (ce_var 3) (ca_cons (ce_var 4) ca_nil))))))))))
abbrev s_Store_get : Stmt := inClass (top 53) 15
abbrev N_Store_get : List Str := ["self", "key", "row"]
theorem sc_Store_get : FnScope N_Store_get ["self", "key"] (defScope s_Store_get) := ⟨rfl, rfl, rfl, by decide +kernel, rfl, by decide +kernel, by decide +kernel⟩
theorem ok_Store_get {f : Addr} {fd : FuncData} (T : Fx K mg) (F : FnP K "get" "Store.get" s_Store_get f fd) (g_Store_row_of : MeG P w K mg base (cnOf K) .store "row_of" 6 m_Store_row_of) : FnOk P w K mg base (L2.CX P w) 7 f fd ["self", "key"] (SpM (cnOf K) m_Store_get) :=
  fnOk_pure (fn_okD (k := 6) (b := b_Store_get) (N := N_Store_get) (ps := ["self", "key"]) rfl F sc_Store_get (by decide) fun cdv A outer s H E hr tk nd => by exact
  (css_cons (cs_set 2 nd (ce_meth g_Store_row_of (hr.mono (by decide)) tk (ce_var 0) (ca_cons (ce_var 1) ca_nil)))
  (css_one (cs_ret (ce_if (ct_isN (ce_var 2) ce_non) ce_non (ce_ixr hr (ce_var 2) ce_int))))))
abbrev s_walk : Stmt := top 11
abbrev N_walk : List Str := ["store", "first", "last", "most", "is_back", "found", "key"]
theorem sc_walk : FnScope N_walk ["store", "first", "last", "most", "is_back"] (defScope s_walk) := ⟨rfl, rfl, rfl, by decide +kernel, rfl, by decide +kernel, by decide +kernel⟩
theorem ok_walk {f : Addr} {fd : FuncData} (T : Fx K mg) (F : FnP K "walk" "walk" s_walk f fd) (g_between : FnG P w K mg base (cnOf K) "between" 2 m_between) (g_Store_get : MeG P w K mg base (cnOf K) .store "get" 7 m_Store_get) : FnOk P w K mg base (L2.CX P w) 8 f fd ["store", "first", "last", "most", "is_back"] (SpM (cnOf K) m_walk) :=
  fnOk_pure (fn_okD (k := 7) (b := b_walk) (N := N_walk) (ps := ["store", "first", "last", "most", "is_back"]) rfl F sc_walk (by decide) fun cdv A outer s H E hr tk nd => by exact
  (css_cons (cs_if (ct_lt (ce_var 3) ce_int) (css_one (cs_raise rfl tk T.x_BadSize)) css_nil)
  (css_cons (cs_set 5 nd (ce_call g_between (hr.mono (by decide)) tk (ca_cons (ce_var 0) (ca_cons (ce_var 1) (ca_cons (ce_var 2) ca_nil)))))
  (css_cons (cs_set 5 nd (ce_if (ct_tru (ce_var 4)) (ce_rev false (ce_var 5)) (ce_var 5)))
  (css_one (cs_ret (ce_lc false rfl nd (ci_lst (ce_sl false (ce_var 5) co_none (co_some (ce_var 3)))) (blkOk_by (N := N_walk) (sc := defScope s_walk) (own := [("key", 6)]) (by decide +kernel)) (fun _ _ _ _ _ => (cgw_name 6 nd (by decide))) (fun _ _ _ _ _ => cts_nil) (fun _ _ _ _ _ => (ce_tup (ca_cons (ce_var 6) (ca_cons (ce_meth g_Store_get (hr.mono (by decide)) takes0 (ce_var 0) (ca_cons (ce_var 6) ca_nil)) ca_nil)))))))))))
abbrev s_beginning : Stmt := top 12
abbrev N_beginning : List Str := ["store", "text", "key"]
theorem sc_beginning : FnScope N_beginning ["store", "text"] (defScope s_beginning) := ⟨rfl, rfl, rfl, by decide +kernel, rfl, by decide +kernel, by decide +kernel⟩
theorem ok_beginning {f : Addr} {fd : FuncData} (T : Fx K mg) (F : FnP K "beginning" "beginning" s_beginning f fd) (g_Store_all_keys : MeG P w K mg base (cnOf K) .store "all_keys" 1 m_Store_all_keys) : FnOk P w K mg base (L2.CX P w) 2 f fd ["store", "text"] (SpM (cnOf K) m_beginning) :=
  fnOk_pure (fn_okD (k := 1) (b := b_beginning) (N := N_beginning) (ps := ["store", "text"]) rfl F sc_beginning (by decide) fun cdv A outer s H E hr tk nd => by exact
  (css_one (cs_ret (ce_lc false rfl nd (ci_lst (ce_meth0 g_Store_all_keys (hr.mono (by decide)) tk (ce_var 0))) (blkOk_by (N := N_beginning) (sc := defScope s_beginning) (own := [("key", 2)]) (by decide +kernel)) (fun _ _ _ _ _ => (cgw_name 2 nd (by decide))) (fun _ _ _ _ _ => (cts_one (ct_tru (ce_starts (ce_var 2) (ce_var 1))))) (fun _ _ _ _ _ => (ce_var 2))))))
abbrev s_pages : Stmt := top 13
abbrev N_pages : List Str := ["store", "most", "every", "at"]
theorem sc_pages : FnScope N_pages ["store", "most"] (defScope s_pages) := ⟨rfl, rfl, rfl, by decide +kernel, rfl, by decide +kernel, by decide +kernel⟩
theorem ok_pages {f : Addr} {fd : FuncData} (T : Fx K mg) (F : FnP K "pages" "pages" s_pages f fd) (g_Store_all_keys : MeG P w K mg base (cnOf K) .store "all_keys" 1 m_Store_all_keys) : FnOk P w K mg base (L2.CX P w) 2 f fd ["store", "most"] (SpM (cnOf K) m_pages) :=
  fnOk_pure (fn_okD (k := 1) (b := b_pages) (N := N_pages) (ps := ["store", "most"]) rfl F sc_pages (by decide) fun cdv A outer s H E hr tk nd => by exact
  (css_cons (cs_if (ct_lt (ce_var 1) ce_int) (css_one (cs_raise rfl tk T.x_BadSize)) css_nil)
  (css_cons (cs_set 2 nd (ce_meth0 g_Store_all_keys (hr.mono (by decide)) tk (ce_var 0)))
  (css_one (cs_ret (ce_lc false rfl nd (ci_rng3 T.n_range (ca_cons ce_int (ca_cons (ce_len T.n_len (ca_cons (ce_var 2) ca_nil)) (ca_cons (ce_var 1) ca_nil)))) (blkOk_by (N := N_pages) (sc := defScope s_pages) (own := [("at", 3)]) (by decide +kernel)) (fun _ _ _ _ _ => (cgw_name 3 nd (by decide))) (fun _ _ _ _ _ => cts_nil) (fun _ _ _ _ _ => (ce_sl false (ce_var 2) (co_some (ce_var 3)) (co_some (ce_add false (ce_var 3) (ce_var 1)))))))))))
abbrev s_nearest : Stmt := top 14
abbrev N_nearest : List Str := ["store", "key", "before", "later", "one"]
theorem sc_nearest : FnScope N_nearest ["store", "key"] (defScope s_nearest) := ⟨rfl, rfl, rfl, by decide +kernel, rfl, by decide +kernel, by decide +kernel⟩
theorem ok_nearest {f : Addr} {fd : FuncData} (T : Fx K mg) (F : FnP K "nearest" "nearest" s_nearest f fd) (g_Store_all_keys : MeG P w K mg base (cnOf K) .store "all_keys" 1 m_Store_all_keys) : FnOk P w K mg base (L2.CX P w) 2 f fd ["store", "key"] (SpM (cnOf K) m_nearest) :=
  fnOk_pure (fn_okD (k := 1) (b := b_nearest) (N := N_nearest) (ps := ["store", "key"]) rfl F sc_nearest (by decide) fun cdv A outer s H E hr tk nd => by exact
  (css_cons (cs_setLc false 2 rfl nd (sw_true rfl rfl rfl (by decide +kernel)) (ci_lst (ce_meth0 g_Store_all_keys (hr.mono (by decide)) tk (ce_var 0))) (blkOk_by (N := N_nearest) (sc := defScope s_nearest) (own := [("one", 4)]) (by decide +kernel)) (fun _ _ _ _ _ => (cgw_name 4 nd (by decide))) (fun _ _ _ _ _ => (cts_one (ct_le (ce_var 4) (ce_var 1)))) (fun _ _ _ _ _ => (ce_var 4)))
  (css_cons (cs_setLc false 3 rfl nd (sw_true rfl rfl rfl (by decide +kernel)) (ci_lst (ce_meth0 g_Store_all_keys (hr.mono (by decide)) tk (ce_var 0))) (blkOk_by (N := N_nearest) (sc := defScope s_nearest) (own := [("one", 4)]) (by decide +kernel)) (fun _ _ _ _ _ => (cgw_name 4 nd (by decide))) (fun _ _ _ _ _ => (cts_one (ct_ge (ce_var 4) (ce_var 1)))) (fun _ _ _ _ _ => (ce_var 4)))
  (css_one (cs_ret (ce_tup (ca_cons (ce_if (ct_tru (ce_var 2)) (ce_ixr hr (ce_var 2) (ce_neg ce_int)) ce_non) (ca_cons (ce_if (ct_tru (ce_var 3)) (ce_ixr hr (ce_var 3) ce_int) ce_non) ca_nil))))))))
abbrev s_look_name : Stmt := top 18
abbrev N_look_name : List Str := ["name", "sign"]
theorem sc_look_name : FnScope N_look_name ["name"] (defScope s_look_name) := ⟨rfl, rfl, rfl, by decide +kernel, rfl, by decide +kernel, by decide +kernel⟩
theorem ok_look_name {f : Addr} {fd : FuncData} (T : Fx K mg) (F : FnP K "look_name" "look_name" s_look_name f fd) : FnOk P w K mg base (L2.CX P w) 1 f fd ["name"] (SpM (cnOf K) m_look_name) :=
  fnOk_pure (fn_okD (k := 0) (b := b_look_name) (N := N_look_name) (ps := ["name"]) rfl F sc_look_name (by decide) fun cdv A outer s H E hr tk nd => by exact
  (css_one (cs_if (ct_w (cw_or (ct_not (ct_leLe ce_int (ce_len T.n_len (ca_cons (ce_var 0) ca_nil)) (ce_gint T.c_MOST_NAME))) (cw_or1 (ct_not (ct_tru (ce_all rfl T.n_all (ca_cons (ce_lc false rfl nd (ci_str (ce_var 0)) (blkOk_by (N := N_look_name) (sc := defScope s_look_name) (own := [("sign", 1)]) (by decide +kernel)) (fun _ _ _ _ _ => (cgw_name 1 nd (by decide))) (fun _ _ _ _ _ => cts_nil) (fun _ _ _ _ _ => (ce_in hr (ce_var 1) (ce_gstr T.c_SMALL)))) ca_nil))))))) (css_one (cs_raise rfl tk T.x_BadFile)) css_nil)))
abbrev s_Disk___init__ : Stmt := inClass (top 19) 0
abbrev N_Disk___init__ : List Str := ["self", "room"]
theorem sc_Disk___init__ : FnScope N_Disk___init__ ["self", "room"] (defScope s_Disk___init__) := ⟨rfl, rfl, rfl, by decide +kernel, rfl, by decide +kernel, by decide +kernel⟩
theorem ok_Disk___init__ {f : Addr} {fd : FuncData} (T : Fx K mg) (F : FnP K "__init__" "Disk.__init__" s_Disk___init__ f fd) : FnOk P w K mg base (L2.CX P w) 1 f fd ["self", "room"] (SpM (cnOf K) m_Disk___init__) :=
  (fn_okD (k := 0) (b := b_Disk___init__) (N := N_Disk___init__) (ps := ["self", "room"]) rfl F sc_Disk___init__ (by decide) fun cdv A outer s H E hr tk nd => by exact
  (css_cons (cs_if (ct_w (cw_and (ct_notN (ce_var 1) ce_non) (cw_and1 (ct_lt (ce_var 1) ce_int)))) (css_one (cs_raise rfl tk T.x_BadSize)) css_nil)
  (css_cons (cs_fld T.k_Disk T.a_Disk_room (ce_var 0) (ce_var 1))
  (css_cons (cs_fld T.k_Disk T.a_Disk_held (ce_var 0) ce_dnew)
  (css_one (cs_fld T.k_Disk T.a_Disk_sure (ce_var 0) ce_dnew))))))
abbrev s_Disk_use : Stmt := inClass (top 19) 1
abbrev N_Disk_use : List Str := ["self", "many", "found"]
theorem sc_Disk_use : FnScope N_Disk_use ["self", "many"] (defScope s_Disk_use) := ⟨rfl, rfl, rfl, by decide +kernel, rfl, by decide +kernel, by decide +kernel⟩
theorem ok_Disk_use {f : Addr} {fd : FuncData} (T : Fx K mg) (F : FnP K "use" "Disk.use" s_Disk_use f fd) : FnOk P w K mg base (L2.CX P w) 1 f fd ["self", "many"] (SpM (cnOf K) m_Disk_use) :=
  (fn_okD (k := 0) (b := b_Disk_use) (N := N_Disk_use) (ps := ["self", "many"]) rfl F sc_Disk_use (by decide) fun cdv A outer s H E hr tk nd => by exact
  (css_cons (cs_if (ct_isN (ce_fld T.k_Disk T.a_Disk_room (ce_var 0)) ce_non) (css_one (cs_ret (ce_var 1))) css_nil)
  (css_cons (cs_set 2 nd (ce_min2 rfl T.n_min (ca_cons (ce_var 1) (ca_cons (ce_fld T.k_Disk T.a_Disk_room (ce_var 0)) ca_nil))))
  (css_cons (cs_fld T.k_Disk T.a_Disk_room (ce_var 0) (ce_sub (ce_fld T.k_Disk T.a_Disk_room (ce_var 0)) (ce_var 2)))
  (css_one (cs_ret (ce_var 2)))))))
abbrev s_Disk_need : Stmt := inClass (top 19) 2
abbrev N_Disk_need : List Str := ["self"]
theorem sc_Disk_need : FnScope N_Disk_need ["self"] (defScope s_Disk_need) := ⟨rfl, rfl, rfl, by decide +kernel, rfl, by decide +kernel, by decide +kernel⟩
theorem ok_Disk_need {f : Addr} {fd : FuncData} (T : Fx K mg) (F : FnP K "need" "Disk.need" s_Disk_need f fd) (g_Disk_use : MeG P w K mg base (cnOf K) .disk "use" 1 m_Disk_use) : FnOk P w K mg base (L2.CX P w) 2 f fd ["self"] (SpM (cnOf K) m_Disk_need) :=
  (fn_okD (k := 1) (b := b_Disk_need) (N := N_Disk_need) (ps := ["self"]) rfl F sc_Disk_need (by decide) fun cdv A outer s H E hr tk nd => by exact
  (css_one (cs_if (ct_eq hr (ce_meth g_Disk_use (hr.mono (by decide)) tk (ce_var 0) (ca_cons ce_int ca_nil)) ce_int) (css_one (cs_raise rfl tk T.x_Stop)) css_nil)))
abbrev s_Disk_names : Stmt := inClass (top 19) 4
abbrev N_Disk_names : List Str := ["self"]
theorem sc_Disk_names : FnScope N_Disk_names ["self"] (defScope s_Disk_names) := ⟨rfl, rfl, rfl, by decide +kernel, rfl, by decide +kernel, by decide +kernel⟩
theorem ok_Disk_names {f : Addr} {fd : FuncData} (T : Fx K mg) (F : FnP K "names" "Disk.names" s_Disk_names f fd) : FnOk P w K mg base (L2.CX P w) 1 f fd ["self"] (SpM (cnOf K) m_Disk_names) :=
  fnOk_pure (fn_okD (k := 0) (b := b_Disk_names) (N := N_Disk_names) (ps := ["self"]) rfl F sc_Disk_names (by decide) fun cdv A outer s H E hr tk nd => by exact
  (css_one (cs_ret (ce_soK false rfl T.n_sorted (ce_fld T.k_Disk T.a_Disk_held (ce_var 0))))))
abbrev s_Disk_read : Stmt := inClass (top 19) 5
abbrev N_Disk_read : List Str := ["self", "name"]
theorem sc_Disk_read : FnScope N_Disk_read ["self", "name"] (defScope s_Disk_read) := ⟨rfl, rfl, rfl, by decide +kernel, rfl, by decide +kernel, by decide +kernel⟩
theorem ok_Disk_read {f : Addr} {fd : FuncData} (T : Fx K mg) (F : FnP K "read" "Disk.read" s_Disk_read f fd) (g_Disk_look : MeG P w K mg base (cnOf K) .disk "look" 1 m_Disk_look) : FnOk P w K mg base (L2.CX P w) 2 f fd ["self", "name"] (SpM (cnOf K) m_Disk_read) :=
  fnOk_pure (fn_okD (k := 1) (b := b_Disk_read) (N := N_Disk_read) (ps := ["self", "name"]) rfl F sc_Disk_read (by decide) fun cdv A outer s H E hr tk nd => by exact
  (css_cons (cs_expr (ce_meth g_Disk_look (hr.mono (by decide)) tk (ce_var 0) (ca_cons (ce_var 1) ca_nil)))
  (css_one (cs_ret (ce_list false T.n_list (ca_cons (ce_ixr hr (ce_fld T.k_Disk T.a_Disk_held (ce_var 0)) (ce_var 1)) ca_nil))))))
abbrev s_Disk_size : Stmt := inClass (top 19) 7
abbrev N_Disk_size : List Str := ["self", "name"]
theorem sc_Disk_size : FnScope N_Disk_size ["self", "name"] (defScope s_Disk_size) := ⟨rfl, rfl, rfl, by decide +kernel, rfl, by decide +kernel, by decide +kernel⟩
theorem ok_Disk_size {f : Addr} {fd : FuncData} (T : Fx K mg) (F : FnP K "size" "Disk.size" s_Disk_size f fd) (g_Disk_look : MeG P w K mg base (cnOf K) .disk "look" 1 m_Disk_look) : FnOk P w K mg base (L2.CX P w) 2 f fd ["self", "name"] (SpM (cnOf K) m_Disk_size) :=
  fnOk_pure (fn_okD (k := 1) (b := b_Disk_size) (N := N_Disk_size) (ps := ["self", "name"]) rfl F sc_Disk_size (by decide) fun cdv A outer s H E hr tk nd => by exact
  (css_cons (cs_expr (ce_meth g_Disk_look (hr.mono (by decide)) tk (ce_var 0) (ca_cons (ce_var 1) ca_nil)))
  (css_one (cs_ret (ce_len T.n_len (ca_cons (ce_ixr hr (ce_fld T.k_Disk T.a_Disk_held (ce_var 0)) (ce_var 1)) ca_nil))))))
abbrev s_Disk_write : Stmt := inClass (top 19) 8
abbrev N_Disk_write : List Str := ["self", "name", "some", "many"]
theorem sc_Disk_write : FnScope N_Disk_write ["self", "name", "some"] (defScope s_Disk_write) := ⟨rfl, rfl, rfl, by decide +kernel, rfl, by decide +kernel, by decide +kernel⟩
theorem ok_Disk_write {f : Addr} {fd : FuncData} (T : Fx K mg) (F : FnP K "write" "Disk.write" s_Disk_write f fd) (g_look_name : FnG P w K mg base (cnOf K) "look_name" 1 m_look_name) (g_Disk_need : MeG P w K mg base (cnOf K) .disk "need" 2 m_Disk_need) (g_Disk_use : MeG P w K mg base (cnOf K) .disk "use" 1 m_Disk_use) : FnOk P w K mg base (L2.CX P w) 3 f fd ["self", "name", "some"] (SpM (cnOf K) m_Disk_write) :=
  (fn_okD (k := 2) (b := b_Disk_write) (N := N_Disk_write) (ps := ["self", "name", "some"]) rfl F sc_Disk_write (by decide) fun cdv A outer s H E hr tk nd => by exact
  (css_cons (cs_expr (ce_call g_look_name (hr.mono (by decide)) tk (ca_cons (ce_var 1) ca_nil)))
  (css_cons (cs_expr (ce_meth0 g_Disk_need (hr.mono (by decide)) tk (ce_var 0)))
  (css_cons (cs_if (ct_notIn hr (ce_var 1) (ce_fld T.k_Disk T.a_Disk_held (ce_var 0))) (css_cons (cs_dput hr (ce_fld T.k_Disk T.a_Disk_held (ce_var 0)) (ce_var 1) (ce_lst false ca_nil))
  (css_one (cs_dput hr (ce_fld T.k_Disk T.a_Disk_sure (ce_var 0)) (ce_var 1) ce_int))) css_nil)
  (css_cons (cs_set 3 nd (ce_meth g_Disk_use (hr.mono (by decide)) tk (ce_var 0) (ca_cons (ce_len T.n_len (ca_cons (ce_var 2) ca_nil)) ca_nil)))
  (css_cons (cs_dput hr (ce_fld T.k_Disk T.a_Disk_held (ce_var 0)) (ce_var 1) (ce_add false (ce_ixr hr (ce_fld T.k_Disk T.a_Disk_held (ce_var 0)) (ce_var 1)) (ce_list false T.n_list (ca_cons (ce_sl false (ce_var 2) co_none (co_some (ce_var 3))) ca_nil))))
  (css_one (cs_if (ct_lt (ce_var 3) (ce_len T.n_len (ca_cons (ce_var 2) ca_nil))) (css_one (cs_raise rfl tk T.x_Stop)) css_nil))))))))
abbrev s_Disk_sync : Stmt := inClass (top 19) 9
abbrev N_Disk_sync : List Str := ["self", "name"]
theorem sc_Disk_sync : FnScope N_Disk_sync ["self", "name"] (defScope s_Disk_sync) := ⟨rfl, rfl, rfl, by decide +kernel, rfl, by decide +kernel, by decide +kernel⟩
theorem ok_Disk_sync {f : Addr} {fd : FuncData} (T : Fx K mg) (F : FnP K "sync" "Disk.sync" s_Disk_sync f fd) (g_Disk_look : MeG P w K mg base (cnOf K) .disk "look" 1 m_Disk_look) (g_Disk_need : MeG P w K mg base (cnOf K) .disk "need" 2 m_Disk_need) : FnOk P w K mg base (L2.CX P w) 3 f fd ["self", "name"] (SpM (cnOf K) m_Disk_sync) :=
  (fn_okD (k := 2) (b := b_Disk_sync) (N := N_Disk_sync) (ps := ["self", "name"]) rfl F sc_Disk_sync (by decide) fun cdv A outer s H E hr tk nd => by exact
  (css_cons (cs_expr (ce_meth g_Disk_look (hr.mono (by decide)) tk (ce_var 0) (ca_cons (ce_var 1) ca_nil)))
  (css_cons (cs_expr (ce_meth0 g_Disk_need (hr.mono (by decide)) tk (ce_var 0)))
  (css_one (cs_dput hr (ce_fld T.k_Disk T.a_Disk_sure (ce_var 0)) (ce_var 1) (ce_len T.n_len (ca_cons (ce_ixr hr (ce_fld T.k_Disk T.a_Disk_held (ce_var 0)) (ce_var 1)) ca_nil)))))))
abbrev s_Disk_shorten : Stmt := inClass (top 19) 10
abbrev N_Disk_shorten : List Str := ["self", "name", "size"]
theorem sc_Disk_shorten : FnScope N_Disk_shorten ["self", "name", "size"] (defScope s_Disk_shorten) := ⟨rfl, rfl, rfl, by decide +kernel, rfl, by decide +kernel, by decide +kernel⟩
theorem ok_Disk_shorten {f : Addr} {fd : FuncData} (T : Fx K mg) (F : FnP K "shorten" "Disk.shorten" s_Disk_shorten f fd) (g_Disk_look : MeG P w K mg base (cnOf K) .disk "look" 1 m_Disk_look) (g_Disk_need : MeG P w K mg base (cnOf K) .disk "need" 2 m_Disk_need) : FnOk P w K mg base (L2.CX P w) 3 f fd ["self", "name", "size"] (SpM (cnOf K) m_Disk_shorten) :=
  (fn_okD (k := 2) (b := b_Disk_shorten) (N := N_Disk_shorten) (ps := ["self", "name", "size"]) rfl F sc_Disk_shorten (by decide) fun cdv A outer s H E hr tk nd => by exact
  (css_cons (cs_expr (ce_meth g_Disk_look (hr.mono (by decide)) tk (ce_var 0) (ca_cons (ce_var 1) ca_nil)))
  (css_cons (cs_if (ct_not (ct_leLe ce_int (ce_var 2) (ce_len T.n_len (ca_cons (ce_ixr hr (ce_fld T.k_Disk T.a_Disk_held (ce_var 0)) (ce_var 1)) ca_nil)))) (css_one (cs_raise rfl tk T.x_BadSize)) css_nil)
  (css_cons (cs_expr (ce_meth0 g_Disk_need (hr.mono (by decide)) tk (ce_var 0)))
  (css_cons (cs_dput hr (ce_fld T.k_Disk T.a_Disk_held (ce_var 0)) (ce_var 1) (ce_sl false (ce_ixr hr (ce_fld T.k_Disk T.a_Disk_held (ce_var 0)) (ce_var 1)) co_none (co_some (ce_var 2))))
  (css_one (cs_dput hr (ce_fld T.k_Disk T.a_Disk_sure (ce_var 0)) (ce_var 1) (ce_var 2))))))))
abbrev s_Disk_remove : Stmt := inClass (top 19) 12
abbrev N_Disk_remove : List Str := ["self", "name"]
theorem sc_Disk_remove : FnScope N_Disk_remove ["self", "name"] (defScope s_Disk_remove) := ⟨rfl, rfl, rfl, by decide +kernel, rfl, by decide +kernel, by decide +kernel⟩
theorem ok_Disk_remove {f : Addr} {fd : FuncData} (T : Fx K mg) (F : FnP K "remove" "Disk.remove" s_Disk_remove f fd) (g_Disk_look : MeG P w K mg base (cnOf K) .disk "look" 1 m_Disk_look) (g_Disk_need : MeG P w K mg base (cnOf K) .disk "need" 2 m_Disk_need) : FnOk P w K mg base (L2.CX P w) 3 f fd ["self", "name"] (SpM (cnOf K) m_Disk_remove) :=
  (fn_okD (k := 2) (b := b_Disk_remove) (N := N_Disk_remove) (ps := ["self", "name"]) rfl F sc_Disk_remove (by decide) fun cdv A outer s H E hr tk nd => by exact
  (css_cons (cs_expr (ce_meth g_Disk_look (hr.mono (by decide)) tk (ce_var 0) (ca_cons (ce_var 1) ca_nil)))
  (css_cons (cs_expr (ce_meth0 g_Disk_need (hr.mono (by decide)) tk (ce_var 0)))
  (css_cons (cs_expr (ce_dpop1 (ce_fld T.k_Disk T.a_Disk_held (ce_var 0)) (ce_var 1)))
  (css_one (cs_expr (ce_dpop1 (ce_fld T.k_Disk T.a_Disk_sure (ce_var 0)) (ce_var 1))))))))
abbrev s_written_row : Stmt := top 35
abbrev N_written_row : List Str := ["row", "kind", "number", "key", "value", "rest", "sign"]
theorem sc_written_row : FnScope N_written_row ["row"] (defScope s_written_row) := ⟨rfl, rfl, rfl, by decide +kernel, rfl, by decide +kernel, by decide +kernel⟩
theorem ok_written_row {f : Addr} {fd : FuncData} (T : Fx K mg) (F : FnP K "written_row" "written_row" s_written_row f fd) (g_look_row : FnG P w K mg base (cnOf K) "look_row" 3 m_look_row) (g_number_bytes : FnG P w K mg base (cnOf K) "number_bytes" 1 m_number_bytes) (g_sums_of : FnG P w K mg base (cnOf K) "sums_of" 2 m_sums_of) : FnOk P w K mg base (L2.CX P w) 4 f fd ["row"] (SpM (cnOf K) m_written_row) :=
  fnOk_pure (fn_okD (k := 3) (b := b_written_row) (N := N_written_row) (ps := ["row"]) rfl F sc_written_row (by decide) fun cdv A outer s H E hr tk nd => by exact
  (css_cons (cs_expr (ce_call g_look_row (hr.mono (by decide)) tk (ca_cons (ce_var 0) ca_nil)))
  (css_cons (cs_unp (ce_var 0) (cg_tup rfl (cgs_cons 1 nd (cgs_cons 2 nd (cgs_cons 3 nd (cgs_cons 4 nd cgs_nil))))))
  (css_cons (cs_set 5 nd (ce_add false (ce_add false (ce_add false (ce_lst false (ca_cons (ce_index (ce_glst T.c_KINDS) (ce_var 1)) ca_nil)) (ce_call g_number_bytes (hr.mono (by decide)) tk (ca_cons (ce_var 2) (ca_cons ce_int ca_nil)))) (ce_lst false (ca_cons (ce_len T.n_len (ca_cons (ce_var 3) ca_nil)) ca_nil))) (ce_call g_number_bytes (hr.mono (by decide)) tk (ca_cons (ce_len T.n_len (ca_cons (ce_var 4) ca_nil)) (ca_cons ce_int ca_nil)))))
  (css_cons (cs_set 5 nd (ce_add false (ce_var 5) (ce_lc false rfl nd (ci_str (ce_add false (ce_var 3) (ce_var 4))) (blkOk_by (N := N_written_row) (sc := defScope s_written_row) (own := [("sign", 6)]) (by decide +kernel)) (fun _ _ _ _ _ => (cgw_name 6 nd (by decide))) (fun _ _ _ _ _ => cts_nil) (fun _ _ _ _ _ => (ce_ord T.n_ord (ca_cons (ce_var 6) ca_nil))))))
  (css_one (cs_ret (ce_add false (ce_call g_sums_of (hr.mono (by decide)) tk (ca_cons (ce_var 5) ca_nil)) (ce_var 5)))))))))
abbrev s_read_hint : Stmt := top 40
abbrev N_read_hint : List Str := ["some", "size", "found", "at", "end", "key", "number", "place"]
theorem sc_read_hint : FnScope N_read_hint ["some", "size"] (defScope s_read_hint) := ⟨rfl, rfl, rfl, by decide +kernel, rfl, by decide +kernel, by decide +kernel⟩
theorem ok_read_hint {f : Addr} {fd : FuncData} (T : Fx K mg) (F : FnP K "read_hint" "read_hint" s_read_hint f fd) (g_sums_of : FnG P w K mg base (cnOf K) "sums_of" 2 m_sums_of) (g_number_of : FnG P w K mg base (cnOf K) "number_of" 1 m_number_of) (g_text_of : FnG P w K mg base (cnOf K) "text_of" 1 m_text_of) (g_is_text : FnG P w K mg base (cnOf K) "is_text" 1 m_is_text) : FnOk P w K mg base (L2.CX P w) 3 f fd ["some", "size"] (SpM (cnOf K) m_read_hint) :=
  fnOk_pure (fn_okD (k := 2) (b := b_read_hint) (N := N_read_hint) (ps := ["some", "size"]) rfl F sc_read_hint (by decide) fun cdv A outer s H E hr tk nd => by exact
  (css_cons (cs_if (ct_w (cw_or (ct_lt (ce_len T.n_len (ca_cons (ce_var 0) ca_nil)) ce_int) (cw_or (ct_ne hr (ce_call g_sums_of (hr.mono (by decide)) tk (ca_cons (ce_sl false (ce_var 0) (co_some ce_int) co_none) ca_nil)) (ce_sl false (ce_var 0) co_none (co_some ce_int))) (cw_or1 (ct_ne hr (ce_call g_number_of (hr.mono (by decide)) tk (ca_cons (ce_sl false (ce_var 0) (co_some ce_int) (co_some ce_int)) ca_nil)) (ce_var 1)))))) (css_one (cs_ret ce_non)) css_nil)
  (css_cons (cs_set 2 nd (ce_lst true ca_nil))
  (css_cons (cs_set 3 nd ce_int)
  (css_cons (cs_while (passes_of rfl) (ct_lt (ce_var 3) (ce_len T.n_len (ca_cons (ce_var 0) ca_nil))) (css_cons (cs_set 4 nd (ce_add false (ce_add false (ce_var 3) (ce_gint T.c_ENTRY)) (ce_if (ct_lt (ce_add false (ce_var 3) ce_int) (ce_len T.n_len (ca_cons (ce_var 0) ca_nil))) (ce_ixr hr (ce_var 0) (ce_add false (ce_var 3) ce_int)) ce_int)))
  (css_cons (cs_set 5 nd (ce_call g_text_of (hr.mono (by decide)) tk (ca_cons (ce_sl false (ce_var 0) (co_some (ce_add false (ce_var 3) (ce_gint T.c_ENTRY))) (co_some (ce_var 4))) ca_nil)))
  (css_cons (cs_if (ct_w (cw_or (ct_gt (ce_add false (ce_var 3) (ce_gint T.c_ENTRY)) (ce_len T.n_len (ca_cons (ce_var 0) ca_nil))) (cw_or (ct_gt (ce_var 4) (ce_len T.n_len (ca_cons (ce_var 0) ca_nil))) (cw_or (ct_isN (ce_var 5) ce_non) (cw_or1 (ct_not (ct_tru (ce_call g_is_text (hr.mono (by decide)) tk (ca_cons (ce_var 5) (ca_cons ce_int (ca_cons ce_int ca_nil))))))))))) (css_one (cs_ret ce_non)) css_nil)
  (css_cons (cs_expr (ce_append (ce_var 2) (ce_tup (ca_cons (ce_var 5) (ca_cons (ce_call g_number_of (hr.mono (by decide)) tk (ca_cons (ce_sl false (ce_var 0) (co_some (ce_var 3)) (co_some (ce_add false (ce_var 3) ce_int))) ca_nil)) (ca_cons (ce_call g_number_of (hr.mono (by decide)) tk (ca_cons (ce_sl false (ce_var 0) (co_some (ce_add false (ce_var 3) ce_int)) (co_some (ce_add false (ce_var 3) ce_int))) ca_nil)) ca_nil))))))
  (css_one (cs_set 3 nd (ce_var 4))))))))
  (css_one (cs_ret (ce_if (ct_tru (ce_all rfl T.n_all (ca_cons (ce_lc false rfl nd (ci_lst (ce_var 2)) (blkOk_by (N := N_read_hint) (sc := defScope s_read_hint) (own := [("key", 5), ("number", 6), ("place", 7)]) (by decide +kernel)) (fun _ _ _ _ _ => (cgw_tup rfl (cgs_cons 5 nd (cgs_cons 6 nd (cgs_cons 7 nd cgs_nil))) (by decide))) (fun _ _ _ _ _ => cts_nil) (fun _ _ _ _ _ => (ce_ge (ce_var 7) (ce_gint T.c_HEAD)))) ca_nil))) (ce_frz 2) ce_non))))))))
abbrev s_read_log : Stmt := top 42
abbrev N_read_log : List Str := ["some", "found", "at", "both"]
theorem sc_read_log : FnScope N_read_log ["some"] (defScope s_read_log) := ⟨rfl, rfl, rfl, by decide +kernel, rfl, by decide +kernel, by decide +kernel⟩
theorem ok_read_log {f : Addr} {fd : FuncData} (T : Fx K mg) (F : FnP K "read_log" "read_log" s_read_log f fd) (g_row_at : FnG P w K mg base (cnOf K) "row_at" 4 m_row_at) : FnOk P w K mg base (L2.CX P w) 5 f fd ["some"] (SpM (cnOf K) m_read_log) :=
  fnOk_pure (fn_okD (k := 4) (b := b_read_log) (N := N_read_log) (ps := ["some"]) rfl F sc_read_log (by decide) fun cdv A outer s H E hr tk nd => by exact
  (css_cons (cs_set 1 nd (ce_lst true ca_nil))
  (css_cons (cs_set 2 nd ce_int)
  (css_one (cs_while (passes_of rfl) (ct_tru ce_bl) (css_cons (cs_set 3 nd (ce_call g_row_at (hr.mono (by decide)) tk (ca_cons (ce_var 0) (ca_cons (ce_var 2) ca_nil))))
  (css_cons (cs_if (ct_isN (ce_var 3) ce_non) (css_one (cs_ret (ce_tup (ca_cons (ce_frz 1) (ca_cons (ce_var 2) ca_nil))))) css_nil)
  (css_cons (cs_expr (ce_append (ce_var 1) (ce_tup (ca_cons (ce_ixr hr (ce_var 3) ce_int) (ca_cons (ce_var 2) ca_nil)))))
  (css_one (cs_set 2 nd (ce_ixr hr (ce_var 3) ce_int)))))))))))
abbrev s_parted : Stmt := top 43
abbrev N_parted : List Str := ["rows", "found", "held", "start", "last", "row", "at"]
theorem sc_parted : FnScope N_parted ["rows"] (defScope s_parted) := ⟨rfl, rfl, rfl, by decide +kernel, rfl, by decide +kernel, by decide +kernel⟩
theorem ok_parted {f : Addr} {fd : FuncData} (T : Fx K mg) (F : FnP K "parted" "parted" s_parted f fd) : FnOk P w K mg base (L2.CX P w) 1 f fd ["rows"] (SpM (cnOf K) m_parted) :=
  fnOk_pure (fn_okD (k := 0) (b := b_parted) (N := N_parted) (ps := ["rows"]) rfl F sc_parted (by decide) fun cdv A outer s H E hr tk nd => by exact
  (css_cons (cs_set 1 nd (ce_lst true ca_nil))
  (css_cons (cs_set 2 nd (ce_lst true ca_nil))
  (css_cons (cs_set 3 nd ce_non)
  (css_cons (cs_set 4 nd ce_int)
  (css_cons (cs_for (passes_of rfl) rfl (ci_lst (ce_var 0)) (cg_tup rfl (cgs_cons 5 nd (cgs_cons 6 nd cgs_nil))) (css_cons (cs_if (ct_w (cw_and (ct_notN (ce_var 3) ce_non) (cw_and1 (ct_ne hr (ce_ixr hr (ce_var 5) ce_int) (ce_add false (ce_var 4) ce_int))))) (css_one (cs_set 3 nd ce_non)) css_nil)
  (css_cons (cs_set 4 nd (ce_ixr hr (ce_var 5) ce_int))
  (css_one (cs_if (ct_eq hr (ce_ixr hr (ce_var 5) ce_int) ce_str) (css_cons (cs_set 2 nd (ce_lst true ca_nil))
  (css_one (cs_set 3 nd (ce_var 6)))) (css_one (cs_if (ct_eq hr (ce_ixr hr (ce_var 5) ce_int) ce_str) (css_cons (cs_expr (ce_extend (ce_var 1) (ce_if (ct_isN (ce_var 3) ce_non) (ce_lst false ca_nil) (ce_var 2))))
  (css_one (cs_set 3 nd ce_non))) (css_one (cs_if (ct_eq hr (ce_ixr hr (ce_var 5) ce_int) ce_str) (css_one (cs_set 3 nd ce_non)) (css_one (cs_if (ct_isN (ce_var 3) ce_non) (css_one (cs_expr (ce_append (ce_var 1) (ce_tup (ca_cons (ce_var 5) (ca_cons (ce_var 6) ca_nil)))))) (css_one (cs_expr (ce_append (ce_var 2) (ce_tup (ca_cons (ce_var 5) (ca_cons (ce_var 6) ca_nil)))))))))))))))))
  (css_one (cs_ret (ce_tup (ca_cons (ce_frz 1) (ca_cons (ce_var 3) ca_nil)))))))))))
abbrev s_settled : Stmt := top 44
abbrev N_settled : List Str := ["rows"]
theorem sc_settled : FnScope N_settled ["rows"] (defScope s_settled) := ⟨rfl, rfl, rfl, by decide +kernel, rfl, by decide +kernel, by decide +kernel⟩
theorem ok_settled {f : Addr} {fd : FuncData} (T : Fx K mg) (F : FnP K "settled" "settled" s_settled f fd) (g_parted : FnG P w K mg base (cnOf K) "parted" 1 m_parted) : FnOk P w K mg base (L2.CX P w) 2 f fd ["rows"] (SpM (cnOf K) m_settled) :=
  fnOk_pure (fn_okD (k := 1) (b := b_settled) (N := N_settled) (ps := ["rows"]) rfl F sc_settled (by decide) fun cdv A outer s H E hr tk nd => by exact
  (css_one (cs_ret (ce_ixr hr (ce_call g_parted (hr.mono (by decide)) tk (ca_cons (ce_var 0) ca_nil)) ce_int))))
abbrev s_deal_start : Stmt := top 45
abbrev N_deal_start : List Str := ["rows"]
theorem sc_deal_start : FnScope N_deal_start ["rows"] (defScope s_deal_start) := ⟨rfl, rfl, rfl, by decide +kernel, rfl, by decide +kernel, by decide +kernel⟩
theorem ok_deal_start {f : Addr} {fd : FuncData} (T : Fx K mg) (F : FnP K "deal_start" "deal_start" s_deal_start f fd) (g_parted : FnG P w K mg base (cnOf K) "parted" 1 m_parted) : FnOk P w K mg base (L2.CX P w) 2 f fd ["rows"] (SpM (cnOf K) m_deal_start) :=
  fnOk_pure (fn_okD (k := 1) (b := b_deal_start) (N := N_deal_start) (ps := ["rows"]) rfl F sc_deal_start (by decide) fun cdv A outer s H E hr tk nd => by exact
  (css_one (cs_ret (ce_ixr hr (ce_call g_parted (hr.mono (by decide)) tk (ca_cons (ce_var 0) ca_nil)) ce_int))))
abbrev s_number_in : Stmt := top 52
abbrev N_number_in : List Str := ["name", "head", "word"]
theorem sc_number_in : FnScope N_number_in ["name", "head"] (defScope s_number_in) := ⟨rfl, rfl, rfl, by decide +kernel, rfl, by decide +kernel, by decide +kernel⟩
theorem ok_number_in {f : Addr} {fd : FuncData} (T : Fx K mg) (F : FnP K "number_in" "number_in" s_number_in f fd) : FnOk P w K mg base (L2.CX P w) 1 f fd ["name", "head"] (SpM (cnOf K) m_number_in) :=
  fnOk_pure (fn_okD (k := 0) (b := b_number_in) (N := N_number_in) (ps := ["name", "head"]) rfl F sc_number_in (by decide) fun cdv A outer s H E hr tk nd => by exact
  (css_cons (cs_set 2 nd (ce_sl false (ce_var 0) (co_some (ce_len T.n_len (ca_cons (ce_var 1) ca_nil))) co_none))
  (css_cons (cs_if (ct_w (cw_or (ct_not (ct_tru (ce_starts (ce_var 0) (ce_var 1)))) (cw_or (ct_not (ct_leLe ce_int (ce_len T.n_len (ca_cons (ce_var 2) ca_nil)) ce_int)) (cw_or (ct_not (ct_tru (ce_digit (ce_var 2)))) (cw_or1 (ct_eq hr (ce_ixr hr (ce_var 2) ce_int) ce_str)))))) (css_one (cs_ret ce_non)) css_nil)
  (css_one (cs_ret (ce_intS T.n_int (ca_cons (ce_var 2) ca_nil)))))))
abbrev s_Store_files : Stmt := inClass (top 53) 1
abbrev N_Store_files : List Str := ["self", "some", "name", "number"]
theorem sc_Store_files : FnScope N_Store_files ["self"] (defScope s_Store_files) := ⟨rfl, rfl, rfl, by decide +kernel, rfl, by decide +kernel, by decide +kernel⟩
theorem ok_Store_files {f : Addr} {fd : FuncData} (T : Fx K mg) (F : FnP K "files" "Store.files" s_Store_files f fd) (g_Disk_names : MeG P w K mg base (cnOf K) .disk "names" 1 m_Disk_names) (g_number_in : FnG P w K mg base (cnOf K) "number_in" 1 m_number_in) : FnOk P w K mg base (L2.CX P w) 2 f fd ["self"] (SpM (cnOf K) m_Store_files) :=
  fnOk_pure (fn_okD (k := 1) (b := b_Store_files) (N := N_Store_files) (ps := ["self"]) rfl F sc_Store_files (by decide) fun cdv A outer s H E hr tk nd => by exact
  (css_cons (cs_setLc false 1 rfl nd (sw_true rfl rfl rfl (by decide +kernel)) (ci_lst (ce_meth0 g_Disk_names (hr.mono (by decide)) tk (ce_fld T.k_Store T.a_Store_disk (ce_var 0)))) (blkOk_by (N := N_Store_files) (sc := defScope s_Store_files) (own := [("name", 2)]) (by decide +kernel)) (fun _ _ _ _ _ => (cgw_name 2 nd (by decide))) (fun _ _ _ _ _ => cts_nil) (fun _ _ _ _ _ => (ce_call g_number_in (hr.mono (by decide)) takes0 (ca_cons (ce_var 2) (ca_cons (ce_gstr T.c_LOG) ca_nil)))))
  (css_one (cs_ret (ce_sorted false T.n_sorted (ca_cons (ce_lc false rfl nd (ci_lst (ce_var 1)) (blkOk_by (N := N_Store_files) (sc := defScope s_Store_files) (own := [("number", 3)]) (by decide +kernel)) (fun _ _ _ _ _ => (cgw_name 3 nd (by decide))) (fun _ _ _ _ _ => (cts_one (ct_notN (ce_var 3) ce_non))) (fun _ _ _ _ _ => (ce_var 3))) ca_nil))))))
abbrev s_Store_first_file : Stmt := inClass (top 53) 3
abbrev N_Store_first_file : List Str := ["self", "found", "number", "both"]
theorem sc_Store_first_file : FnScope N_Store_first_file ["self"] (defScope s_Store_first_file) := ⟨rfl, rfl, rfl, by decide +kernel, rfl, by decide +kernel, by decide +kernel⟩
theorem ok_Store_first_file {f : Addr} {fd : FuncData} (T : Fx K mg) (F : FnP K "first_file" "Store.first_file" s_Store_first_file f fd) (g_Store_files : MeG P w K mg base (cnOf K) .store "files" 2 m_Store_files) (g_Disk_piece : MeG P w K mg base (cnOf K) .disk "piece" 2 m_Disk_piece) (g_log_name : FnG P w K mg base (cnOf K) "log_name" 1 m_log_name) (g_row_at : FnG P w K mg base (cnOf K) "row_at" 4 m_row_at) : FnOk P w K mg base (L2.CX P w) 5 f fd ["self"] (SpM (cnOf K) m_Store_first_file) :=
  fnOk_pure (fn_okD (k := 4) (b := b_Store_first_file) (N := N_Store_first_file) (ps := ["self"]) rfl F sc_Store_first_file (by decide) fun cdv A outer s H E hr tk nd => by exact
  (css_cons (cs_set 1 nd ce_int)
  (css_cons (cs_for (passes_of rfl) rfl (ci_lst (ce_meth0 g_Store_files (hr.mono (by decide)) tk (ce_var 0))) (cg_name 2 nd) (css_cons (cs_set 3 nd (ce_call g_row_at (hr.mono (by decide)) tk (ca_cons (ce_meth g_Disk_piece (hr.mono (by decide)) tk (ce_fld T.k_Store T.a_Store_disk (ce_var 0)) (ca_cons (ce_call g_log_name (hr.mono (by decide)) tk (ca_cons (ce_var 2) ca_nil)) (ca_cons ce_int (ca_cons (ce_gint T.c_HEAD) ca_nil)))) (ca_cons ce_int ca_nil))))
  (css_one (cs_if (ct_w (cw_and (ct_notN (ce_var 3) ce_non) (cw_and1 (ct_eq hr (ce_ixr hr (ce_ixr hr (ce_var 3) ce_int) ce_int) ce_str)))) (css_one (cs_set 1 nd (ce_var 2))) css_nil))))
  (css_one (cs_ret (ce_var 1))))))
abbrev s_Store_take_hint : Stmt := inClass (top 53) 5
abbrev N_Store_take_hint : List Str := ["self", "number", "entries", "both", "key", "row_number", "place", "one"]
theorem sc_Store_take_hint : FnScope N_Store_take_hint ["self", "number", "entries"] (defScope s_Store_take_hint) := ⟨rfl, rfl, rfl, by decide +kernel, rfl, by decide +kernel, by decide +kernel⟩
theorem ok_Store_take_hint {f : Addr} {fd : FuncData} (T : Fx K mg) (F : FnP K "take_hint" "Store.take_hint" s_Store_take_hint f fd) (g_Disk_piece : MeG P w K mg base (cnOf K) .disk "piece" 2 m_Disk_piece) (g_log_name : FnG P w K mg base (cnOf K) "log_name" 1 m_log_name) (g_row_at : FnG P w K mg base (cnOf K) "row_at" 4 m_row_at) : FnOk P w K mg base (L2.CX P w) 5 f fd ["self", "number", "entries"] (SpM (cnOf K) m_Store_take_hint) :=
  (fn_okD (k := 4) (b := b_Store_take_hint) (N := N_Store_take_hint) (ps := ["self", "number", "entries"]) rfl F sc_Store_take_hint (by decide) fun cdv A outer s H E hr tk nd => by exact
  (css_cons (cs_set 3 nd (ce_call g_row_at (hr.mono (by decide)) tk (ca_cons (ce_meth g_Disk_piece (hr.mono (by decide)) tk (ce_fld T.k_Store T.a_Store_disk (ce_var 0)) (ca_cons (ce_call g_log_name (hr.mono (by decide)) tk (ca_cons (ce_var 1) ca_nil)) (ca_cons ce_int (ca_cons (ce_gint T.c_HEAD) ca_nil)))) (ca_cons ce_int ca_nil))))
  (css_cons (cs_fld T.k_Store T.a_Store_thinned (ce_var 0) (ce_ixr hr (ce_ixr hr (ce_var 3) ce_int) ce_int))
  (css_cons (cs_fld T.k_Store T.a_Store_last (ce_var 0) (ce_max1 rfl T.n_max (ca_cons (ce_add false (ce_lst false (ca_cons (ce_fld T.k_Store T.a_Store_last (ce_var 0)) (ca_cons (ce_fld T.k_Store T.a_Store_thinned (ce_var 0)) ca_nil))) (ce_lc false rfl nd (ci_lst (ce_var 2)) (blkOk_by (N := N_Store_take_hint) (sc := defScope s_Store_take_hint) (own := [("one", 7)]) (by decide +kernel)) (fun _ _ _ _ _ => (cgw_name 7 nd (by decide))) (fun _ _ _ _ _ => cts_nil) (fun _ _ _ _ _ => (ce_ixr hr (ce_var 7) ce_int)))) ca_nil)))
  (css_one (cs_for (passes_of rfl) rfl (ci_lst (ce_var 2)) (cg_tup rfl (cgs_cons 4 nd (cgs_cons 5 nd (cgs_cons 6 nd cgs_nil)))) (css_one (cs_dput hr (ce_fld T.k_Store T.a_Store_table (ce_var 0)) (ce_var 4) (ce_tup (ca_cons (ce_var 5) (ca_cons (ce_var 1) (ca_cons (ce_var 6) ca_nil))))))))))))
abbrev s_Store_learn : Stmt := inClass (top 53) 6
abbrev N_Store_learn : List Str := ["self", "row", "number", "at"]
theorem sc_Store_learn : FnScope N_Store_learn ["self", "row", "number", "at"] (defScope s_Store_learn) := ⟨rfl, rfl, rfl, by decide +kernel, rfl, by decide +kernel, by decide +kernel⟩
theorem ok_Store_learn {f : Addr} {fd : FuncData} (T : Fx K mg) (F : FnP K "learn" "Store.learn" s_Store_learn f fd) : FnOk P w K mg base (L2.CX P w) 1 f fd ["self", "row", "number", "at"] (SpM (cnOf K) m_Store_learn) :=
  (fn_okD (k := 0) (b := b_Store_learn) (N := N_Store_learn) (ps := ["self", "row", "number", "at"]) rfl F sc_Store_learn (by decide) fun cdv A outer s H E hr tk nd => by exact
  (css_one (cs_if (ct_eq hr (ce_ixr hr (ce_var 1) ce_int) ce_str) (css_one (cs_dput hr (ce_fld T.k_Store T.a_Store_table (ce_var 0)) (ce_ixr hr (ce_var 1) ce_int) (ce_tup (ca_cons (ce_ixr hr (ce_var 1) ce_int) (ca_cons (ce_var 2) (ca_cons (ce_var 3) ca_nil)))))) (css_one (cs_expr (ce_dpop2 (ce_fld T.k_Store T.a_Store_table (ce_var 0)) (ce_ixr hr (ce_var 1) ce_int) ce_non))))))
abbrev s_Store_open_file : Stmt := inClass (top 53) 4
abbrev N_Store_open_file : List Str := ["self", "number", "name", "entries", "rows", "good", "start", "row", "at", "one"]
theorem sc_Store_open_file : FnScope N_Store_open_file ["self", "number"] (defScope s_Store_open_file) := ⟨rfl, rfl, rfl, by decide +kernel, rfl, by decide +kernel, by decide +kernel⟩
theorem ok_Store_open_file {f : Addr} {fd : FuncData} (T : Fx K mg) (F : FnP K "open_file" "Store.open_file" s_Store_open_file f fd) (g_log_name : FnG P w K mg base (cnOf K) "log_name" 1 m_log_name) (g_Disk_names : MeG P w K mg base (cnOf K) .disk "names" 1 m_Disk_names) (g_Disk_size : MeG P w K mg base (cnOf K) .disk "size" 2 m_Disk_size) (g_Disk_read : MeG P w K mg base (cnOf K) .disk "read" 2 m_Disk_read) (g_read_hint : FnG P w K mg base (cnOf K) "read_hint" 3 m_read_hint) (g_Store_take_hint : MeG P w K mg base (cnOf K) .store "take_hint" 5 m_Store_take_hint) (g_read_log : FnG P w K mg base (cnOf K) "read_log" 5 m_read_log) (g_Store_files : MeG P w K mg base (cnOf K) .store "files" 2 m_Store_files) (g_deal_start : FnG P w K mg base (cnOf K) "deal_start" 2 m_deal_start) (g_Disk_shorten : MeG P w K mg base (cnOf K) .disk "shorten" 3 m_Disk_shorten) (g_settled : FnG P w K mg base (cnOf K) "settled" 2 m_settled) (g_Store_learn : MeG P w K mg base (cnOf K) .store "learn" 1 m_Store_learn) : FnOk P w K mg base (L2.CX P w) 6 f fd ["self", "number"] (SpM (cnOf K) m_Store_open_file) :=
  (fn_okD (k := 5) (b := b_Store_open_file) (N := N_Store_open_file) (ps := ["self", "number"]) rfl F sc_Store_open_file (by decide) fun cdv A outer s H E hr tk nd => by exact
  (css_cons (cs_set 2 nd (ce_call g_log_name (hr.mono (by decide)) tk (ca_cons (ce_var 1) ca_nil)))
  (css_cons (cs_if (ct_in hr (ce_add false (ce_gstr T.c_HINT) (ce_str1 T.n_str (ca_cons (ce_var 1) ca_nil))) (ce_meth0 g_Disk_names (hr.mono (by decide)) tk (ce_fld T.k_Store T.a_Store_disk (ce_var 0)))) (css_cons (cs_set 3 nd (ce_call g_read_hint (hr.mono (by decide)) tk (ca_cons (ce_meth g_Disk_read (hr.mono (by decide)) tk (ce_fld T.k_Store T.a_Store_disk (ce_var 0)) (ca_cons (ce_add false (ce_gstr T.c_HINT) (ce_str1 T.n_str (ca_cons (ce_var 1) ca_nil))) ca_nil)) (ca_cons (ce_meth g_Disk_size (hr.mono (by decide)) tk (ce_fld T.k_Store T.a_Store_disk (ce_var 0)) (ca_cons (ce_var 2) ca_nil)) ca_nil))))
  (css_one (cs_if (ct_notN (ce_var 3) ce_non) (css_cons (cs_expr (ce_meth g_Store_take_hint (hr.mono (by decide)) tk (ce_var 0) (ca_cons (ce_var 1) (ca_cons (ce_var 3) ca_nil))))
  (css_one cs_retN)) css_nil))) css_nil)
  (css_cons (cs_unp (ce_call g_read_log (hr.mono (by decide)) tk (ca_cons (ce_meth g_Disk_read (hr.mono (by decide)) tk (ce_fld T.k_Store T.a_Store_disk (ce_var 0)) (ca_cons (ce_var 2) ca_nil)) ca_nil)) (cg_tup rfl (cgs_cons 4 nd (cgs_cons 5 nd cgs_nil))))
  (css_cons (cs_if (ct_eq hr (ce_var 1) (ce_ixr hr (ce_meth0 g_Store_files (hr.mono (by decide)) tk (ce_var 0)) (ce_neg ce_int))) (css_cons (cs_set 6 nd (ce_call g_deal_start (hr.mono (by decide)) tk (ca_cons (ce_var 4) ca_nil)))
  (css_cons (cs_while (passes_of rfl) (ct_notN (ce_var 6) ce_non) (css_cons (cs_set 5 nd (ce_var 6))
  (css_cons (cs_setLc false 4 rfl nd (sw_true rfl rfl rfl (by decide +kernel)) (ci_lst (ce_var 4)) (blkOk_by (N := N_Store_open_file) (sc := defScope s_Store_open_file) (own := [("one", 9)]) (by decide +kernel)) (fun _ _ _ _ _ => (cgw_name 9 nd (by decide))) (fun _ _ _ _ _ => (cts_one (ct_lt (ce_ixr hr (ce_var 9) ce_int) (ce_var 5)))) (fun _ _ _ _ _ => (ce_var 9)))
  (css_one (cs_set 6 nd (ce_call g_deal_start (hr.mono (by decide)) tk (ca_cons (ce_var 4) ca_nil)))))))
  (css_one (cs_if (ct_lt (ce_var 5) (ce_meth g_Disk_size (hr.mono (by decide)) tk (ce_fld T.k_Store T.a_Store_disk (ce_var 0)) (ca_cons (ce_var 2) ca_nil))) (css_one (cs_expr (ce_meth g_Disk_shorten (hr.mono (by decide)) tk (ce_fld T.k_Store T.a_Store_disk (ce_var 0)) (ca_cons (ce_var 2) (ca_cons (ce_var 5) ca_nil))))) css_nil)))) css_nil)
  (css_cons (cs_for (passes_of rfl) rfl (ci_lst (ce_var 4)) (cg_tup rfl (cgs_cons 7 nd (cgs_cons 8 nd cgs_nil))) (css_cons (cs_fld T.k_Store T.a_Store_last (ce_var 0) (ce_max2 rfl T.n_max (ca_cons (ce_fld T.k_Store T.a_Store_last (ce_var 0)) (ca_cons (ce_ixr hr (ce_var 7) ce_int) ca_nil))))
  (css_one (cs_if (ct_eq hr (ce_ixr hr (ce_var 7) ce_int) ce_str) (css_one (cs_fld T.k_Store T.a_Store_thinned (ce_var 0) (ce_ixr hr (ce_var 7) ce_int))) css_nil))))
  (css_one (cs_for (passes_of rfl) rfl (ci_lst (ce_call g_settled (hr.mono (by decide)) tk (ca_cons (ce_var 4) ca_nil))) (cg_tup rfl (cgs_cons 7 nd (cgs_cons 8 nd cgs_nil))) (css_one (cs_expr (ce_meth g_Store_learn (hr.mono (by decide)) tk (ce_var 0) (ca_cons (ce_var 7) (ca_cons (ce_var 1) (ca_cons (ce_var 8) ca_nil))))))))))))))
abbrev s_Store_wake : Stmt := inClass (top 53) 2
abbrev N_Store_wake : List Str := ["self", "name", "first", "number"]
theorem sc_Store_wake : FnScope N_Store_wake ["self"] (defScope s_Store_wake) := ⟨rfl, rfl, rfl, by decide +kernel, rfl, by decide +kernel, by decide +kernel⟩
theorem ok_Store_wake {f : Addr} {fd : FuncData} (T : Fx K mg) (F : FnP K "wake" "Store.wake" s_Store_wake f fd) (g_Disk_names : MeG P w K mg base (cnOf K) .disk "names" 1 m_Disk_names) (g_number_in : FnG P w K mg base (cnOf K) "number_in" 1 m_number_in) (g_Disk_remove : MeG P w K mg base (cnOf K) .disk "remove" 3 m_Disk_remove) (g_Store_first_file : MeG P w K mg base (cnOf K) .store "first_file" 5 m_Store_first_file) (g_Store_files : MeG P w K mg base (cnOf K) .store "files" 2 m_Store_files) (g_log_name : FnG P w K mg base (cnOf K) "log_name" 1 m_log_name) (g_Store_open_file : MeG P w K mg base (cnOf K) .store "open_file" 6 m_Store_open_file) (g_Disk_write : MeG P w K mg base (cnOf K) .disk "write" 3 m_Disk_write) : FnOk P w K mg base (L2.CX P w) 7 f fd ["self"] (SpM (cnOf K) m_Store_wake) :=
  (fn_okD (k := 6) (b := b_Store_wake) (N := N_Store_wake) (ps := ["self"]) rfl F sc_Store_wake (by decide) fun cdv A outer s H E hr tk nd => by exact
  (css_cons (cs_for (passes_of rfl) rfl (ci_lst (ce_meth0 g_Disk_names (hr.mono (by decide)) tk (ce_fld T.k_Store T.a_Store_disk (ce_var 0)))) (cg_name 1 nd) (css_one (cs_if (ct_notN (ce_call g_number_in (hr.mono (by decide)) tk (ca_cons (ce_var 1) (ca_cons (ce_gstr T.c_NEW) ca_nil))) ce_non) (css_one (cs_expr (ce_meth g_Disk_remove (hr.mono (by decide)) tk (ce_fld T.k_Store T.a_Store_disk (ce_var 0)) (ca_cons (ce_var 1) ca_nil)))) css_nil)))
  (css_cons (cs_set 2 nd (ce_meth0 g_Store_first_file (hr.mono (by decide)) tk (ce_var 0)))
  (css_cons (cs_for (passes_of rfl) rfl (ci_lst (ce_meth0 g_Store_files (hr.mono (by decide)) tk (ce_var 0))) (cg_name 3 nd) (css_one (cs_if (ct_lt (ce_var 3) (ce_var 2)) (css_one (cs_expr (ce_meth g_Disk_remove (hr.mono (by decide)) tk (ce_fld T.k_Store T.a_Store_disk (ce_var 0)) (ca_cons (ce_call g_log_name (hr.mono (by decide)) tk (ca_cons (ce_var 3) ca_nil)) ca_nil)))) css_nil)))
  (css_cons (cs_for (passes_of rfl) rfl (ci_lst (ce_meth0 g_Disk_names (hr.mono (by decide)) tk (ce_fld T.k_Store T.a_Store_disk (ce_var 0)))) (cg_name 1 nd) (css_one (cs_if (ct_w (cw_and (ct_notN (ce_call g_number_in (hr.mono (by decide)) tk (ca_cons (ce_var 1) (ca_cons (ce_gstr T.c_HINT) ca_nil))) ce_non) (cw_and1 (ct_ne hr (ce_call g_number_in (hr.mono (by decide)) tk (ca_cons (ce_var 1) (ca_cons (ce_gstr T.c_HINT) ca_nil))) (ce_var 2))))) (css_one (cs_expr (ce_meth g_Disk_remove (hr.mono (by decide)) tk (ce_fld T.k_Store T.a_Store_disk (ce_var 0)) (ca_cons (ce_var 1) ca_nil)))) css_nil)))
  (css_cons (cs_for (passes_of rfl) rfl (ci_lst (ce_meth0 g_Store_files (hr.mono (by decide)) tk (ce_var 0))) (cg_name 3 nd) (css_one (cs_expr (ce_meth g_Store_open_file (hr.mono (by decide)) tk (ce_var 0) (ca_cons (ce_var 3) ca_nil)))))
  (css_one (cs_if (ct_not (ct_tru (ce_meth0 g_Store_files (hr.mono (by decide)) tk (ce_var 0)))) (css_one (cs_expr (ce_meth g_Disk_write (hr.mono (by decide)) tk (ce_fld T.k_Store T.a_Store_disk (ce_var 0)) (ca_cons (ce_call g_log_name (hr.mono (by decide)) tk (ca_cons ce_int ca_nil)) (ca_cons (ce_lst false ca_nil) ca_nil))))) css_nil))))))))
abbrev s_Store___init__ : Stmt := inClass (top 53) 0
abbrev N_Store___init__ : List Str := ["self", "disk", "most"]
theorem sc_Store___init__ : FnScope N_Store___init__ ["self", "disk", "most"] (defScope s_Store___init__) := ⟨rfl, rfl, rfl, by decide +kernel, rfl, by decide +kernel, by decide +kernel⟩
theorem ok_Store___init__ {f : Addr} {fd : FuncData} (T : Fx K mg) (F : FnP K "__init__" "Store.__init__" s_Store___init__ f fd) (g_Store_wake : MeG P w K mg base (cnOf K) .store "wake" 7 m_Store_wake) : FnOk P w K mg base (L2.CX P w) 8 f fd ["self", "disk", "most"] (SpM (cnOf K) m_Store___init__) :=
  (fn_okD (k := 7) (b := b_Store___init__) (N := N_Store___init__) (ps := ["self", "disk", "most"]) rfl F sc_Store___init__ (by decide) fun cdv A outer s H E hr tk nd => by exact
  (css_cons (cs_if (ct_lt (ce_var 2) (ce_gint T.c_LEAST_FILE)) (css_one (cs_raise rfl tk T.x_BadSize)) css_nil)
  (css_cons (cs_fld T.k_Store T.a_Store_disk (ce_var 0) (ce_var 1))
  (css_cons (cs_fld T.k_Store T.a_Store_most (ce_var 0) (ce_var 2))
  (css_cons (cs_fld T.k_Store T.a_Store_table (ce_var 0) ce_dnew)
  (css_cons (cs_fld T.k_Store T.a_Store_last (ce_var 0) ce_int)
  (css_cons (cs_fld T.k_Store T.a_Store_thinned (ce_var 0) ce_int)
  (css_cons (cs_fld T.k_Store T.a_Store_looks (ce_var 0) ce_int)
  (css_cons (cs_fld T.k_Store T.a_Store_thinning (ce_var 0) ce_non)
  (css_one (cs_expr (ce_meth0 g_Store_wake (hr.mono (by decide)) tk (ce_var 0)))))))))))))
abbrev s_Store_current : Stmt := inClass (top 53) 7
abbrev N_Store_current : List Str := ["self"]
theorem sc_Store_current : FnScope N_Store_current ["self"] (defScope s_Store_current) := ⟨rfl, rfl, rfl, by decide +kernel, rfl, by decide +kernel, by decide +kernel⟩
theorem ok_Store_current {f : Addr} {fd : FuncData} (T : Fx K mg) (F : FnP K "current" "Store.current" s_Store_current f fd) (g_Store_files : MeG P w K mg base (cnOf K) .store "files" 2 m_Store_files) : FnOk P w K mg base (L2.CX P w) 3 f fd ["self"] (SpM (cnOf K) m_Store_current) :=
  fnOk_pure (fn_okD (k := 2) (b := b_Store_current) (N := N_Store_current) (ps := ["self"]) rfl F sc_Store_current (by decide) fun cdv A outer s H E hr tk nd => by exact
  (css_one (cs_ret (ce_ixr hr (ce_meth0 g_Store_files (hr.mono (by decide)) tk (ce_var 0)) (ce_neg ce_int)))))
abbrev s_Store_make_room : Stmt := inClass (top 53) 8
abbrev N_Store_make_room : List Str := ["self", "many", "name", "size"]
theorem sc_Store_make_room : FnScope N_Store_make_room ["self", "many"] (defScope s_Store_make_room) := ⟨rfl, rfl, rfl, by decide +kernel, rfl, by decide +kernel, by decide +kernel⟩
theorem ok_Store_make_room {f : Addr} {fd : FuncData} (T : Fx K mg) (F : FnP K "make_room" "Store.make_room" s_Store_make_room f fd) (g_Store_current : MeG P w K mg base (cnOf K) .store "current" 3 m_Store_current) (g_log_name : FnG P w K mg base (cnOf K) "log_name" 1 m_log_name) (g_Disk_size : MeG P w K mg base (cnOf K) .disk "size" 2 m_Disk_size) (g_Disk_sync : MeG P w K mg base (cnOf K) .disk "sync" 3 m_Disk_sync) (g_Disk_write : MeG P w K mg base (cnOf K) .disk "write" 3 m_Disk_write) : FnOk P w K mg base (L2.CX P w) 4 f fd ["self", "many"] (SpM (cnOf K) m_Store_make_room) :=
  (fn_okD (k := 3) (b := b_Store_make_room) (N := N_Store_make_room) (ps := ["self", "many"]) rfl F sc_Store_make_room (by decide) fun cdv A outer s H E hr tk nd => by exact
  (css_cons (cs_set 2 nd (ce_call g_log_name (hr.mono (by decide)) tk (ca_cons (ce_meth0 g_Store_current (hr.mono (by decide)) tk (ce_var 0)) ca_nil)))
  (css_cons (cs_set 3 nd (ce_meth g_Disk_size (hr.mono (by decide)) tk (ce_fld T.k_Store T.a_Store_disk (ce_var 0)) (ca_cons (ce_var 2) ca_nil)))
  (css_one (cs_if (ct_w (cw_and (ct_gt (ce_var 3) ce_int) (cw_and1 (ct_gt (ce_add false (ce_var 3) (ce_var 1)) (ce_fld T.k_Store T.a_Store_most (ce_var 0)))))) (css_cons (cs_expr (ce_meth g_Disk_sync (hr.mono (by decide)) tk (ce_fld T.k_Store T.a_Store_disk (ce_var 0)) (ca_cons (ce_var 2) ca_nil)))
  (css_one (cs_expr (ce_meth g_Disk_write (hr.mono (by decide)) tk (ce_fld T.k_Store T.a_Store_disk (ce_var 0)) (ca_cons (ce_call g_log_name (hr.mono (by decide)) tk (ca_cons (ce_add false (ce_meth0 g_Store_current (hr.mono (by decide)) tk (ce_var 0)) ce_int) ca_nil)) (ca_cons (ce_lst false ca_nil) ca_nil)))))) css_nil)))))
abbrev s_Store_append : Stmt := inClass (top 53) 9
abbrev N_Store_append : List Str := ["self", "rows", "some", "places", "row", "number", "before", "k"]
theorem sc_Store_append : FnScope N_Store_append ["self", "rows"] (defScope s_Store_append) := ⟨rfl, rfl, rfl, by decide +kernel, rfl, by decide +kernel, by decide +kernel⟩
theorem ok_Store_append {f : Addr} {fd : FuncData} (T : Fx K mg) (F : FnP K "append" "Store.append" s_Store_append f fd) (g_written_row : FnG P w K mg base (cnOf K) "written_row" 4 m_written_row) (g_Store_make_room : MeG P w K mg base (cnOf K) .store "make_room" 4 m_Store_make_room) (g_Store_current : MeG P w K mg base (cnOf K) .store "current" 3 m_Store_current) (g_Disk_size : MeG P w K mg base (cnOf K) .disk "size" 2 m_Disk_size) (g_log_name : FnG P w K mg base (cnOf K) "log_name" 1 m_log_name) (g_Disk_write : MeG P w K mg base (cnOf K) .disk "write" 3 m_Disk_write) (g_Store_learn : MeG P w K mg base (cnOf K) .store "learn" 1 m_Store_learn) : FnOk P w K mg base (L2.CX P w) 5 f fd ["self", "rows"] (SpM (cnOf K) m_Store_append) :=
  (fn_okD (k := 4) (b := b_Store_append) (N := N_Store_append) (ps := ["self", "rows"]) rfl F sc_Store_append (by decide) fun cdv A outer s H E hr tk nd => by exact
  (css_cons (cs_set 2 nd (ce_lst false ca_nil))
  (css_cons (cs_set 3 nd (ce_lst true ca_nil))
  (css_cons (cs_for (passes_of rfl) rfl (ci_lst (ce_var 1)) (cg_name 4 nd) (css_cons (cs_expr (ce_append (ce_var 3) (ce_len T.n_len (ca_cons (ce_var 2) ca_nil))))
  (css_one (cs_set 2 nd (ce_add false (ce_var 2) (ce_call g_written_row (hr.mono (by decide)) tk (ca_cons (ce_var 4) ca_nil)))))))
  (css_cons (cs_expr (ce_meth g_Store_make_room (hr.mono (by decide)) tk (ce_var 0) (ca_cons (ce_len T.n_len (ca_cons (ce_var 2) ca_nil)) ca_nil)))
  (css_cons (cs_set 5 nd (ce_meth0 g_Store_current (hr.mono (by decide)) tk (ce_var 0)))
  (css_cons (cs_set 6 nd (ce_meth g_Disk_size (hr.mono (by decide)) tk (ce_fld T.k_Store T.a_Store_disk (ce_var 0)) (ca_cons (ce_call g_log_name (hr.mono (by decide)) tk (ca_cons (ce_var 5) ca_nil)) ca_nil)))
  (css_cons (cs_expr (ce_meth g_Disk_write (hr.mono (by decide)) tk (ce_fld T.k_Store T.a_Store_disk (ce_var 0)) (ca_cons (ce_call g_log_name (hr.mono (by decide)) tk (ca_cons (ce_var 5) ca_nil)) (ca_cons (ce_var 2) ca_nil))))
  (css_cons (cs_fld T.k_Store T.a_Store_last (ce_var 0) (ce_ixr hr (ce_ixr hr (ce_var 1) (ce_neg ce_int)) ce_int))
  (css_one (cs_for (passes_of rfl) rfl (ci_rng1 T.n_range (ce_len T.n_len (ca_cons (ce_var 1) ca_nil))) (cg_name 7 nd) (css_one (cs_if (ct_in hr (ce_ixr hr (ce_ixr hr (ce_var 1) (ce_var 7)) ce_int) (ce_tup (ca_cons ce_str (ca_cons ce_str ca_nil)))) (css_one (cs_expr (ce_meth g_Store_learn (hr.mono (by decide)) tk (ce_var 0) (ca_cons (ce_ixr hr (ce_var 1) (ce_var 7)) (ca_cons (ce_var 5) (ca_cons (ce_add false (ce_var 6) (ce_ixr hr (ce_var 3) (ce_var 7))) ca_nil)))))) css_nil)))))))))))))
abbrev s_Store_put : Stmt := inClass (top 53) 10
abbrev N_Store_put : List Str := ["self", "key", "value"]
theorem sc_Store_put : FnScope N_Store_put ["self", "key", "value"] (defScope s_Store_put) := ⟨rfl, rfl, rfl, by decide +kernel, rfl, by decide +kernel, by decide +kernel⟩
theorem ok_Store_put {f : Addr} {fd : FuncData} (T : Fx K mg) (F : FnP K "put" "Store.put" s_Store_put f fd) (g_look_key : FnG P w K mg base (cnOf K) "look_key" 2 m_look_key) (g_look_value : FnG P w K mg base (cnOf K) "look_value" 2 m_look_value) (g_Store_append : MeG P w K mg base (cnOf K) .store "append" 5 m_Store_append) : FnOk P w K mg base (L2.CX P w) 6 f fd ["self", "key", "value"] (SpM (cnOf K) m_Store_put) :=
  (fn_okD (k := 5) (b := b_Store_put) (N := N_Store_put) (ps := ["self", "key", "value"]) rfl F sc_Store_put (by decide) fun cdv A outer s H E hr tk nd => by exact
  (css_cons (cs_expr (ce_call g_look_key (hr.mono (by decide)) tk (ca_cons (ce_var 1) ca_nil)))
  (css_cons (cs_expr (ce_call g_look_value (hr.mono (by decide)) tk (ca_cons (ce_var 2) ca_nil)))
  (css_cons (cs_expr (ce_meth g_Store_append (hr.mono (by decide)) tk (ce_var 0) (ca_cons (ce_lst false (ca_cons (ce_tup (ca_cons ce_str (ca_cons (ce_add false (ce_fld T.k_Store T.a_Store_last (ce_var 0)) ce_int) (ca_cons (ce_var 1) (ca_cons (ce_var 2) ca_nil))))) ca_nil)) ca_nil)))
  (css_one (cs_ret (ce_fld T.k_Store T.a_Store_last (ce_var 0))))))))
abbrev s_Store_drop : Stmt := inClass (top 53) 11
abbrev N_Store_drop : List Str := ["self", "key"]
theorem sc_Store_drop : FnScope N_Store_drop ["self", "key"] (defScope s_Store_drop) := ⟨rfl, rfl, rfl, by decide +kernel, rfl, by decide +kernel, by decide +kernel⟩
theorem ok_Store_drop {f : Addr} {fd : FuncData} (T : Fx K mg) (F : FnP K "drop" "Store.drop" s_Store_drop f fd) (g_look_key : FnG P w K mg base (cnOf K) "look_key" 2 m_look_key) (g_Store_append : MeG P w K mg base (cnOf K) .store "append" 5 m_Store_append) : FnOk P w K mg base (L2.CX P w) 6 f fd ["self", "key"] (SpM (cnOf K) m_Store_drop) :=
  (fn_okD (k := 5) (b := b_Store_drop) (N := N_Store_drop) (ps := ["self", "key"]) rfl F sc_Store_drop (by decide) fun cdv A outer s H E hr tk nd => by exact
  (css_cons (cs_expr (ce_call g_look_key (hr.mono (by decide)) tk (ca_cons (ce_var 1) ca_nil)))
  (css_cons (cs_if (ct_notIn hr (ce_var 1) (ce_fld T.k_Store T.a_Store_table (ce_var 0))) (css_one (cs_ret ce_non)) css_nil)
  (css_cons (cs_expr (ce_meth g_Store_append (hr.mono (by decide)) tk (ce_var 0) (ca_cons (ce_lst false (ca_cons (ce_tup (ca_cons ce_str (ca_cons (ce_add false (ce_fld T.k_Store T.a_Store_last (ce_var 0)) ce_int) (ca_cons (ce_var 1) (ca_cons ce_str ca_nil))))) ca_nil)) ca_nil)))
  (css_one (cs_ret (ce_fld T.k_Store T.a_Store_last (ce_var 0))))))))
abbrev s__law_cell : Stmt := top 56
abbrev N__law_cell : List Str := ["_law_script", "_law_k"]
theorem sc__law_cell : FnScope N__law_cell ["_law_script", "_law_k"] (defScope s__law_cell) := ⟨rfl, rfl, rfl, by decide +kernel, rfl, by decide +kernel, by decide +kernel⟩
theorem ok__law_cell {f : Addr} {fd : FuncData} (T : Fx K mg) (F : FnP K "_law_cell" "_law_cell" s__law_cell f fd) : FnOk P w K mg base (L2.CX P w) 1 f fd ["_law_script", "_law_k"] (SpM (cnOf K) m__law_cell) :=
  fnOk_pure (fn_okD (k := 0) (b := b__law_cell) (N := N__law_cell) (ps := ["_law_script", "_law_k"]) rfl F sc__law_cell (by decide) fun cdv A outer s H E hr tk nd => by exact
  (css_cons (cs_if (ct_tru (ce_var 0)) (css_one (cs_ret (ce_ixr hr (ce_var 0) (ce_mod (ce_var 1) (ce_len T.n_len (ca_cons (ce_var 0) ca_nil)))))) css_nil)
  (css_one (cs_ret ce_int))))
abbrev s__law_mix : Stmt := top 57
abbrev N__law_mix : List Str := ["_law_script", "_law_k", "_law_number"]
theorem sc__law_mix : FnScope N__law_mix ["_law_script", "_law_k"] (defScope s__law_mix) := ⟨rfl, rfl, rfl, by decide +kernel, rfl, by decide +kernel, by decide +kernel⟩
theorem ok__law_mix {f : Addr} {fd : FuncData} (T : Fx K mg) (F : FnP K "_law_mix" "_law_mix" s__law_mix f fd) (g__law_cell : FnG P w K mg base (cnOf K) "_law_cell" 1 m__law_cell) : FnOk P w K mg base (L2.CX P w) 2 f fd ["_law_script", "_law_k"] (SpM (cnOf K) m__law_mix) :=
  fnOk_pure (fn_okD (k := 1) (b := b__law_mix) (N := N__law_mix) (ps := ["_law_script", "_law_k"]) rfl F sc__law_mix (by decide) fun cdv A outer s H E hr tk nd => by exact
  (css_cons (cs_set 2 nd (ce_mod (ce_add false (ce_call g__law_cell (hr.mono (by decide)) tk (ca_cons (ce_var 0) (ca_cons (ce_var 1) ca_nil))) (ce_mul ce_int (ce_add false (ce_var 1) ce_int))) ce_int))
  (css_cons (cs_set 2 nd (ce_mod (ce_pow (ce_var 2) ce_int) ce_int))
  (css_one (cs_ret (ce_mod (ce_add false (ce_mul (ce_fdiv (ce_var 2) ce_int) ce_int) (ce_var 2)) ce_int))))))
abbrev s__law_draw : Stmt := top 58
abbrev N__law_draw : List Str := ["_law_script", "_law_town", "_law_many"]
theorem sc__law_draw : FnScope N__law_draw ["_law_script", "_law_town", "_law_many"] (defScope s__law_draw) := ⟨rfl, rfl, rfl, by decide +kernel, rfl, by decide +kernel, by decide +kernel⟩
theorem ok__law_draw {f : Addr} {fd : FuncData} (T : Fx K mg) (F : FnP K "_law_draw" "_law_draw" s__law_draw f fd) (g__law_mix : FnG P w K mg base (cnOf K) "_law_mix" 2 m__law_mix) : FnOk P w K mg base (L2.CX P w) 3 f fd ["_law_script", "_law_town", "_law_many"] (SpM (cnOf K) m__law_draw) :=
  (fn_okD (k := 2) (b := b__law_draw) (N := N__law_draw) (ps := ["_law_script", "_law_town", "_law_many"]) rfl F sc__law_draw (by decide) fun cdv A outer s H E hr tk nd => by exact
  (css_cons (cs_expr (ce_append (ce_var 1) ce_int))
  (css_one (cs_ret (ce_mod (ce_fdiv (ce_call g__law_mix (hr.mono (by decide)) tk (ca_cons (ce_var 0) (ca_cons (ce_len T.n_len (ca_cons (ce_var 1) ca_nil)) ca_nil))) ce_int) (ce_var 2))))))
abbrev s__law_pick : Stmt := top 59
abbrev N__law_pick : List Str := ["_law_script", "_law_town", "_law_some"]
theorem sc__law_pick : FnScope N__law_pick ["_law_script", "_law_town", "_law_some"] (defScope s__law_pick) := ⟨rfl, rfl, rfl, by decide +kernel, rfl, by decide +kernel, by decide +kernel⟩
theorem ok__law_pick {f : Addr} {fd : FuncData} (T : Fx K mg) (F : FnP K "_law_pick" "_law_pick" s__law_pick f fd) (g__law_draw : FnG P w K mg base (cnOf K) "_law_draw" 3 m__law_draw) : FnOk P w K mg base (L2.CX P w) 4 f fd ["_law_script", "_law_town", "_law_some"] (SpM (cnOf K) m__law_pick) :=
  (fn_okD (k := 3) (b := b__law_pick) (N := N__law_pick) (ps := ["_law_script", "_law_town", "_law_some"]) rfl F sc__law_pick (by decide) fun cdv A outer s H E hr tk nd => by exact
  (css_one (cs_ret (ce_ixr hr (ce_var 2) (ce_call g__law_draw (hr.mono (by decide)) tk (ca_cons (ce_var 0) (ca_cons (ce_var 1) (ca_cons (ce_len T.n_len (ca_cons (ce_var 2) ca_nil)) ca_nil))))))))
abbrev s__law_refusal : Stmt := top 60
abbrev N__law_refusal : List Str := ["_law_held", "_law_kinds"]
theorem sc__law_refusal : FnScope N__law_refusal ["_law_held"] (defScope s__law_refusal) := ⟨rfl, rfl, rfl, by decide +kernel, rfl, by decide +kernel, by decide +kernel⟩
theorem ok__law_refusal {f : Addr} {fd : FuncData} (T : Fx K mg) (F : FnP K "_law_refusal" "_law_refusal" s__law_refusal f fd) : FnOk P w K mg base (L2.CX P w) 1 f fd ["_law_held"] (SpM (cnOf K) m__law_refusal) :=
  fnOk_pure (fn_okD (k := 0) (b := b__law_refusal) (N := N__law_refusal) (ps := ["_law_held"]) rfl F sc__law_refusal (by decide) fun cdv A outer s H E hr tk nd => by exact
  (css_cons (cs_if (ct_isN (ce_var 0) ce_non) (css_one (cs_ret (ce_tup (ca_cons ce_str ca_nil)))) css_nil)
  (css_cons (cs_set 1 nd (ce_lst false (ca_cons (ce_isiO T.i_BadRow T.n_isinstance T.g_BadRow (ce_var 0)) (ca_cons (ce_isiO T.i_BadFile T.n_isinstance T.g_BadFile (ce_var 0)) (ca_cons (ce_isiO T.i_BadSize T.n_isinstance T.g_BadSize (ce_var 0)) ca_nil)))))
  (css_cons (cs_set 1 nd (ce_add false (ce_var 1) (ce_lst false (ca_cons (ce_isiO T.i_TooOld T.n_isinstance T.g_TooOld (ce_var 0)) (ca_cons (ce_isiO T.i_Ended T.n_isinstance T.g_Ended (ce_var 0)) (ca_cons (ce_isiO T.i_Stop T.n_isinstance T.g_Stop (ce_var 0)) ca_nil))))))
  (css_cons (cs_if (ct_w (cw_or (ct_ne hr (ce_count (ce_var 1) ce_bl) ce_int) (cw_or1 (ct_not (ct_tru (ce_isiV T.i_ValueError T.n_isinstance T.n_ValueError (ce_var 0))))))) (css_one (cs_ret (ce_tup (ca_cons ce_str ca_nil)))) css_nil)
  (css_one (cs_ret (ce_tup (ca_cons ce_str (ca_cons (ce_ixr hr (ce_lst false (ca_cons ce_str (ca_cons ce_str (ca_cons ce_str (ca_cons ce_str (ca_cons ce_str (ca_cons ce_str ca_nil))))))) (ce_index (ce_var 1) ce_bl)) ca_nil))))))))))
abbrev s__law_filled : Stmt := top 61
abbrev N__law_filled : List Str := ["_law_script", "_law_town", "_law_store", "_law_many", "_law_state", "_law_k", "_law_key"]
theorem sc__law_filled : FnScope N__law_filled ["_law_script", "_law_town", "_law_store", "_law_many"] (defScope s__law_filled) := ⟨rfl, rfl, rfl, by decide +kernel, rfl, by decide +kernel, by decide +kernel⟩
theorem ok__law_filled {f : Addr} {fd : FuncData} (T : Fx K mg) (F : FnP K "_law_filled" "_law_filled" s__law_filled f fd) (g__law_pick : FnG P w K mg base (cnOf K) "_law_pick" 4 m__law_pick) (g__law_draw : FnG P w K mg base (cnOf K) "_law_draw" 3 m__law_draw) (g_Store_put : MeG P w K mg base (cnOf K) .store "put" 6 m_Store_put) (g_Store_drop : MeG P w K mg base (cnOf K) .store "drop" 6 m_Store_drop) : FnOk P w K mg base (L2.CX P w) 7 f fd ["_law_script", "_law_town", "_law_store", "_law_many"] (SpM (cnOf K) m__law_filled) :=
  (fn_okD (k := 6) (b := b__law_filled) (N := N__law_filled) (ps := ["_law_script", "_law_town", "_law_store", "_law_many"]) rfl F sc__law_filled (by decide) fun cdv A outer s H E hr tk nd => by exact
  (css_cons (cs_set 4 nd ce_dnew)
  (css_cons (cs_for (passes_of rfl) rfl (ci_rng1 T.n_range (ce_var 3)) (cg_name 5 nd) (css_cons (cs_set 6 nd (ce_call g__law_pick (hr.mono (by decide)) tk (ca_cons (ce_var 0) (ca_cons (ce_var 1) (ca_cons (ce_lst false (ca_cons ce_str (ca_cons ce_str (ca_cons ce_str (ca_cons ce_str (ca_cons ce_str (ca_cons ce_str (ca_cons ce_str (ca_cons ce_str ca_nil))))))))) ca_nil)))))
  (css_one (cs_if (ct_gt (ce_call g__law_draw (hr.mono (by decide)) tk (ca_cons (ce_var 0) (ca_cons (ce_var 1) (ca_cons ce_int ca_nil)))) ce_int) (css_cons (cs_dput hr (ce_var 4) (ce_var 6) (ce_call g__law_pick (hr.mono (by decide)) tk (ca_cons (ce_var 0) (ca_cons (ce_var 1) (ca_cons (ce_lst false (ca_cons ce_str (ca_cons ce_str (ca_cons (ce_add false ce_str (ce_str1 T.n_str (ca_cons (ce_var 5) ca_nil))) ca_nil)))) ca_nil)))))
  (css_one (cs_expr (ce_meth g_Store_put (hr.mono (by decide)) tk (ce_var 2) (ca_cons (ce_var 6) (ca_cons (ce_ixr hr (ce_var 4) (ce_var 6)) ca_nil)))))) (css_cons (cs_expr (ce_dpop2 (ce_var 4) (ce_var 6) ce_non))
  (css_one (cs_expr (ce_meth g_Store_drop (hr.mono (by decide)) tk (ce_var 2) (ca_cons (ce_var 6) ca_nil)))))))))
  (css_one (cs_ret (ce_var 4))))))
abbrev s__law_told : Stmt := top 62
abbrev N__law_told : List Str := ["_law_way", "_law_store", "_law_many", "_law_held", "_law_found", "e"]
theorem sc__law_told : FnScope N__law_told ["_law_way", "_law_store", "_law_many"] (defScope s__law_told) := ⟨rfl, rfl, rfl, by decide +kernel, rfl, by decide +kernel, by decide +kernel⟩
theorem ok__law_told {f : Addr} {fd : FuncData} (T : Fx K mg) (F : FnP K "_law_told" "_law_told" s__law_told f fd) (g_walk : FnG P w K mg base (cnOf K) "walk" 8 m_walk) (g_pages : FnG P w K mg base (cnOf K) "pages" 2 m_pages) (g__law_refusal : FnG P w K mg base (cnOf K) "_law_refusal" 1 m__law_refusal) : FnOk P w K mg base (L2.CX P w) 9 f fd ["_law_way", "_law_store", "_law_many"] (SpM (cnOf K) m__law_told) :=
  fnOk_pure (fn_okD (k := 8) (b := b__law_told) (N := N__law_told) (ps := ["_law_way", "_law_store", "_law_many"]) rfl F sc__law_told (by decide) fun cdv A outer s H E hr tk nd => by exact
  (css_cons (cs_set 3 nd ce_non)
  (css_cons (cs_set 4 nd ce_non)
  (css_cons (cs_try_as 5 3 rfl rfl rfl nd ⟨rfl, by decide, .inl T.g_LogError⟩ tk (List.forall_mem_cons.mpr ⟨T.e_BadRow_LogError, (List.forall_mem_cons.mpr ⟨T.e_BadFile_LogError, (List.forall_mem_cons.mpr ⟨T.e_BadSize_LogError, (List.forall_mem_nil _)⟩)⟩)⟩) (fun W pn xe tk hp => (css_one (cs_set 4 nd (ce_if (ct_eq hr (ce_var 0) ce_int) (ce_call g_walk (hr.mono (by decide)) tk (ca_cons (ce_var 1) (ca_cons ce_non (ca_cons ce_non (ca_cons (ce_var 2) (ca_cons ce_bl ca_nil)))))) (ce_call g_pages (hr.mono (by decide)) tk (ca_cons (ce_var 1) (ca_cons (ce_var 2) ca_nil))))))))
  (css_one (cs_ret (ce_if (ct_isN (ce_var 3) ce_non) (ce_var 4) (ce_call g__law_refusal (hr.mono (by decide)) tk (ca_cons (ce_var 3) ca_nil)))))))))
abbrev s_law : Stmt := top 63
abbrev N_law : List Str := ["_law_script", "_law_town", "_law_store", "_law_state", "_law_keys", "_law_ends", "_law_k", "_law_first", "_law_last", "_law_most", "_law_is_back", "_law_due", "_law_text", "_law_key", "_law_before", "_law_later", "_law_some", "_law_whole", "_law_page", "_law_bad", "_law_one"]
theorem sc_law : FnScope N_law ["_law_script"] (defScope s_law) := ⟨rfl, rfl, rfl, by decide +kernel, rfl, by decide +kernel, by decide +kernel⟩
theorem ok_law {f : Addr} {fd : FuncData} (T : Fx K mg) (F : FnP K "law" "law" s_law f fd) (g__law_draw : FnG P w K mg base (cnOf K) "_law_draw" 3 m__law_draw) (g_Disk___init__ : MkG P w K mg base (cnOf K) .disk "Disk" 1 m_Disk___init__) (g_Store___init__ : MkG P w K mg base (cnOf K) .store "Store" 8 m_Store___init__) (g__law_filled : FnG P w K mg base (cnOf K) "_law_filled" 7 m__law_filled) (g__law_pick : FnG P w K mg base (cnOf K) "_law_pick" 4 m__law_pick) (g_walk : FnG P w K mg base (cnOf K) "walk" 8 m_walk) (g_beginning : FnG P w K mg base (cnOf K) "beginning" 2 m_beginning) (g_nearest : FnG P w K mg base (cnOf K) "nearest" 2 m_nearest) (g__law_told : FnG P w K mg base (cnOf K) "_law_told" 9 m__law_told) : FnOk P w K mg base (L2.CX P w) 10 f fd ["_law_script"] (SpM (cnOf K) m_law) :=
  (fn_okD (k := 9) (b := b_law) (N := N_law) (ps := ["_law_script"]) rfl F sc_law (by decide) fun cdv A outer s H E hr tk nd => by exact
  (css_cons (cs_set 1 nd (ce_lst true ca_nil))
  (css_cons (cs_set 2 nd (ce_make g_Store___init__ (hr.mono (by decide)) tk (ca_cons (ce_make g_Disk___init__ (hr.mono (by decide)) tk (ca_cons ce_non ca_nil)) (ca_cons (ce_add false ce_int (ce_call g__law_draw (hr.mono (by decide)) tk (ca_cons (ce_var 0) (ca_cons (ce_var 1) (ca_cons ce_int ca_nil))))) ca_nil))))
  (css_cons (cs_set 3 nd (ce_call g__law_filled (hr.mono (by decide)) tk (ca_cons (ce_var 0) (ca_cons (ce_var 1) (ca_cons (ce_var 2) (ca_cons (ce_call g__law_draw (hr.mono (by decide)) tk (ca_cons (ce_var 0) (ca_cons (ce_var 1) (ca_cons ce_int ca_nil)))) ca_nil))))))
  (css_cons (cs_set 4 nd (ce_soK false rfl T.n_sorted (ce_var 3)))
  (css_cons (cs_set 5 nd (ce_lst false (ca_cons ce_non (ca_cons ce_str (ca_cons ce_str (ca_cons ce_str (ca_cons ce_str (ca_cons ce_str (ca_cons ce_str (ca_cons ce_str (ca_cons ce_str (ca_cons ce_str ca_nil))))))))))))
  (css_cons (cs_for (passes_of rfl) rfl (ci_rng1 T.n_range ce_int) (cg_name 6 nd) (css_cons (cs_set 7 nd (ce_call g__law_pick (hr.mono (by decide)) tk (ca_cons (ce_var 0) (ca_cons (ce_var 1) (ca_cons (ce_var 5) ca_nil)))))
  (css_cons (cs_set 8 nd (ce_call g__law_pick (hr.mono (by decide)) tk (ca_cons (ce_var 0) (ca_cons (ce_var 1) (ca_cons (ce_var 5) ca_nil)))))
  (css_cons (cs_set 9 nd (ce_call g__law_draw (hr.mono (by decide)) tk (ca_cons (ce_var 0) (ca_cons (ce_var 1) (ca_cons ce_int ca_nil)))))
  (css_cons (cs_set 10 nd (ce_eq hr (ce_call g__law_draw (hr.mono (by decide)) tk (ca_cons (ce_var 0) (ca_cons (ce_var 1) (ca_cons ce_int ca_nil)))) ce_int))
  (css_cons (cs_setLc false 11 rfl nd (sw_true rfl rfl rfl (by decide +kernel)) (ci_lst (ce_var 4)) (blkOk_by (N := N_law) (sc := defScope s_law) (own := [("_law_key", 13)]) (by decide +kernel)) (fun _ _ _ _ _ => (cgw_name 13 nd (by decide))) (fun _ _ _ _ _ => (cts_one (ct_w (cw_and (ct_w (cw_or (ct_isN (ce_var 7) ce_non) (cw_or1 (ct_le (ce_var 7) (ce_var 13))))) (cw_and1 (ct_w (cw_or (ct_isN (ce_var 8) ce_non) (cw_or1 (ct_lt (ce_var 13) (ce_var 8)))))))))) (fun _ _ _ _ _ => (ce_tup (ca_cons (ce_var 13) (ca_cons (ce_ixr hr (ce_var 3) (ce_var 13)) ca_nil)))))
  (css_cons (cs_if (ct_tru (ce_var 10)) (css_one (cs_set 11 nd (ce_rev false (ce_var 11)))) css_nil)
  (css_cons (cs_if (ct_ne hr (ce_call g_walk (hr.mono (by decide)) tk (ca_cons (ce_var 2) (ca_cons (ce_var 7) (ca_cons (ce_var 8) (ca_cons (ce_var 9) (ca_cons (ce_var 10) ca_nil)))))) (ce_sl false (ce_var 11) co_none (co_some (ce_var 9)))) (css_one (cs_ret ce_bl)) css_nil)
  (css_cons (cs_set 12 nd (ce_call g__law_pick (hr.mono (by decide)) tk (ca_cons (ce_var 0) (ca_cons (ce_var 1) (ca_cons (ce_lst false (ca_cons ce_str (ca_cons ce_str (ca_cons ce_str (ca_cons ce_str (ca_cons ce_str (ca_cons ce_str ca_nil))))))) ca_nil)))))
  (css_cons (cs_if (ct_ne hr (ce_call g_beginning (hr.mono (by decide)) tk (ca_cons (ce_var 2) (ca_cons (ce_var 12) ca_nil))) (ce_lc false rfl nd (ci_lst (ce_var 4)) (blkOk_by (N := N_law) (sc := defScope s_law) (own := [("_law_key", 13)]) (by decide +kernel)) (fun _ _ _ _ _ => (cgw_name 13 nd (by decide))) (fun _ _ _ _ _ => (cts_one (ct_eq hr (ce_sl false (ce_var 13) co_none (co_some (ce_len T.n_len (ca_cons (ce_var 12) ca_nil)))) (ce_var 12)))) (fun _ _ _ _ _ => (ce_var 13)))) (css_one (cs_ret ce_bl)) css_nil)
  (css_cons (cs_set 13 nd (ce_call g__law_pick (hr.mono (by decide)) tk (ca_cons (ce_var 0) (ca_cons (ce_var 1) (ca_cons (ce_sl false (ce_var 5) (co_some ce_int) co_none) ca_nil)))))
  (css_cons (cs_setLc false 14 rfl nd (sw_true rfl rfl rfl (by decide +kernel)) (ci_lst (ce_var 4)) (blkOk_by (N := N_law) (sc := defScope s_law) (own := [("_law_one", 20)]) (by decide +kernel)) (fun _ _ _ _ _ => (cgw_name 20 nd (by decide))) (fun _ _ _ _ _ => (cts_one (ct_le (ce_var 20) (ce_var 13)))) (fun _ _ _ _ _ => (ce_var 20)))
  (css_cons (cs_setLc false 15 rfl nd (sw_true rfl rfl rfl (by decide +kernel)) (ci_lst (ce_var 4)) (blkOk_by (N := N_law) (sc := defScope s_law) (own := [("_law_one", 20)]) (by decide +kernel)) (fun _ _ _ _ _ => (cgw_name 20 nd (by decide))) (fun _ _ _ _ _ => (cts_one (ct_ge (ce_var 20) (ce_var 13)))) (fun _ _ _ _ _ => (ce_var 20)))
  (css_one (cs_if (ct_ne hr (ce_call g_nearest (hr.mono (by decide)) tk (ca_cons (ce_var 2) (ca_cons (ce_var 13) ca_nil))) (ce_tup (ca_cons (ce_ixr hr (ce_add false (ce_lst false (ca_cons ce_non ca_nil)) (ce_var 14)) (ce_neg ce_int)) (ca_cons (ce_ixr hr (ce_add false (ce_var 15) (ce_lst false (ca_cons ce_non ca_nil))) ce_int) ca_nil)))) (css_one (cs_ret ce_bl)) css_nil)))))))))))))))
  (css_cons (cs_set 9 nd (ce_add false ce_int (ce_call g__law_draw (hr.mono (by decide)) tk (ca_cons (ce_var 0) (ca_cons (ce_var 1) (ca_cons ce_int ca_nil))))))
  (css_cons (cs_set 16 nd (ce_call g__law_told (hr.mono (by decide)) tk (ca_cons ce_int (ca_cons (ce_var 2) (ca_cons (ce_var 9) ca_nil)))))
  (css_cons (cs_set 17 nd (ce_lst false ca_nil))
  (css_cons (cs_for (passes_of rfl) rfl (ci_lst (ce_var 16)) (cg_name 18 nd) (css_one (cs_set 17 nd (ce_add false (ce_var 17) (ce_var 18)))))
  (css_cons (cs_if (ct_w (cw_or (ct_ne hr (ce_var 17) (ce_var 4)) (cw_or (ct_not (ct_tru (ce_all rfl T.n_all (ca_cons (ce_lc false rfl nd (ci_lst (ce_sl false (ce_var 16) co_none (co_some (ce_neg ce_int)))) (blkOk_by (N := N_law) (sc := defScope s_law) (own := [("_law_page", 18)]) (by decide +kernel)) (fun _ _ _ _ _ => (cgw_name 18 nd (by decide))) (fun _ _ _ _ _ => cts_nil) (fun _ _ _ _ _ => (ce_eq hr (ce_len T.n_len (ca_cons (ce_var 18) ca_nil)) (ce_var 9)))) ca_nil)))) (cw_or1 (ct_inP hr (ce_lst false ca_nil) (ce_var 16)))))) (css_one (cs_ret ce_bl)) css_nil)
  (css_cons (cs_if (ct_w (cw_and (ct_ne hr (ce_var 16) (ce_lst false ca_nil)) (cw_and1 (ct_gt (ce_len T.n_len (ca_cons (ce_ixr hr (ce_var 16) (ce_neg ce_int)) ca_nil)) (ce_var 9))))) (css_one (cs_ret ce_bl)) css_nil)
  (css_cons (cs_set 19 nd (ce_sub ce_int (ce_call g__law_draw (hr.mono (by decide)) tk (ca_cons (ce_var 0) (ca_cons (ce_var 1) (ca_cons ce_int ca_nil))))))
  (css_one (cs_ret (ce_and (ce_eq hr (ce_call g__law_told (hr.mono (by decide)) tk (ca_cons ce_int (ca_cons (ce_var 2) (ca_cons (ce_sub (ce_var 19) ce_int) ca_nil)))) (ce_tup (ca_cons ce_str (ca_cons ce_str ca_nil)))) (ce_one (ce_eq hr (ce_call g__law_told (hr.mono (by decide)) tk (ca_cons ce_int (ca_cons (ce_var 2) (ca_cons (ce_var 19) ca_nil)))) (ce_tup (ca_cons ce_str (ca_cons ce_str ca_nil))))))))))))))))))))))
end
/-! ### the head -/
def hFn : List He.DefD := [⟨("Store", some "all_keys"), "all_keys", "Store.all_keys", defArgs s_Store_all_keys, defBody s_Store_all_keys, defScope s_Store_all_keys, [], []⟩,
  ⟨("between", none), "between", "between", defArgs s_between, defBody s_between, defScope s_between, [], []⟩,
  ⟨("is_text", none), "is_text", "is_text", defArgs s_is_text, defBody s_is_text, defScope s_is_text, [], []⟩,
  ⟨("look_key", none), "look_key", "look_key", defArgs s_look_key, defBody s_look_key, defScope s_look_key, [], []⟩,
  ⟨("log_name", none), "log_name", "log_name", defArgs s_log_name, defBody s_log_name, defScope s_log_name, [], []⟩,
  ⟨("Disk", some "look"), "look", "Disk.look", defArgs s_Disk_look, defBody s_Disk_look, defScope s_Disk_look, [], []⟩,
  ⟨("Disk", some "piece"), "piece", "Disk.piece", defArgs s_Disk_piece, defBody s_Disk_piece, defScope s_Disk_piece, [], []⟩,
  ⟨("number_of", none), "number_of", "number_of", defArgs s_number_of, defBody s_number_of, defScope s_number_of, [], []⟩,
  ⟨("number_bytes", none), "number_bytes", "number_bytes", defArgs s_number_bytes, defBody s_number_bytes, defScope s_number_bytes, [], []⟩,
  ⟨("sums_of", none), "sums_of", "sums_of", defArgs s_sums_of, defBody s_sums_of, defScope s_sums_of, [], []⟩,
  ⟨("text_of", none), "text_of", "text_of", defArgs s_text_of, defBody s_text_of, defScope s_text_of, [], []⟩,
  ⟨("look_value", none), "look_value", "look_value", defArgs s_look_value, defBody s_look_value, defScope s_look_value, [], []⟩,
  ⟨("look_row", none), "look_row", "look_row", defArgs s_look_row, defBody s_look_row, defScope s_look_row, [], []⟩,
  ⟨("row_at", none), "row_at", "row_at", defArgs s_row_at, defBody s_row_at, defScope s_row_at, [], []⟩,
  ⟨("read_row", none), "read_row", "read_row", defArgs s_read_row, defBody s_read_row, defScope s_read_row, [], []⟩,
  ⟨("Store", some "row_of"), "row_of", "Store.row_of", defArgs s_Store_row_of, defBody s_Store_row_of, defScope s_Store_row_of, [], []⟩,
  ⟨("Store", some "get"), "get", "Store.get", defArgs s_Store_get, defBody s_Store_get, defScope s_Store_get, [], []⟩,
  ⟨("walk", none), "walk", "walk", defArgs s_walk, defBody s_walk, defScope s_walk, [], []⟩,
  ⟨("beginning", none), "beginning", "beginning", defArgs s_beginning, defBody s_beginning, defScope s_beginning, [], []⟩,
  ⟨("pages", none), "pages", "pages", defArgs s_pages, defBody s_pages, defScope s_pages, [], []⟩,
  ⟨("nearest", none), "nearest", "nearest", defArgs s_nearest, defBody s_nearest, defScope s_nearest, [], []⟩,
  ⟨("look_name", none), "look_name", "look_name", defArgs s_look_name, defBody s_look_name, defScope s_look_name, [], []⟩,
  ⟨("Disk", some "__init__"), "__init__", "Disk.__init__", defArgs s_Disk___init__, defBody s_Disk___init__, defScope s_Disk___init__, [], []⟩,
  ⟨("Disk", some "use"), "use", "Disk.use", defArgs s_Disk_use, defBody s_Disk_use, defScope s_Disk_use, [], []⟩,
  ⟨("Disk", some "need"), "need", "Disk.need", defArgs s_Disk_need, defBody s_Disk_need, defScope s_Disk_need, [], []⟩,
  ⟨("Disk", some "names"), "names", "Disk.names", defArgs s_Disk_names, defBody s_Disk_names, defScope s_Disk_names, [], []⟩,
  ⟨("Disk", some "read"), "read", "Disk.read", defArgs s_Disk_read, defBody s_Disk_read, defScope s_Disk_read, [], []⟩,
  ⟨("Disk", some "size"), "size", "Disk.size", defArgs s_Disk_size, defBody s_Disk_size, defScope s_Disk_size, [], []⟩,
  ⟨("Disk", some "write"), "write", "Disk.write", defArgs s_Disk_write, defBody s_Disk_write, defScope s_Disk_write, [], []⟩,
  ⟨("Disk", some "sync"), "sync", "Disk.sync", defArgs s_Disk_sync, defBody s_Disk_sync, defScope s_Disk_sync, [], []⟩,
  ⟨("Disk", some "shorten"), "shorten", "Disk.shorten", defArgs s_Disk_shorten, defBody s_Disk_shorten, defScope s_Disk_shorten, [], []⟩,
  ⟨("Disk", some "remove"), "remove", "Disk.remove", defArgs s_Disk_remove, defBody s_Disk_remove, defScope s_Disk_remove, [], []⟩,
  ⟨("written_row", none), "written_row", "written_row", defArgs s_written_row, defBody s_written_row, defScope s_written_row, [], []⟩,
  ⟨("read_hint", none), "read_hint", "read_hint", defArgs s_read_hint, defBody s_read_hint, defScope s_read_hint, [], []⟩,
  ⟨("read_log", none), "read_log", "read_log", defArgs s_read_log, defBody s_read_log, defScope s_read_log, [], []⟩,
  ⟨("parted", none), "parted", "parted", defArgs s_parted, defBody s_parted, defScope s_parted, [], []⟩,
  ⟨("settled", none), "settled", "settled", defArgs s_settled, defBody s_settled, defScope s_settled, [], []⟩,
  ⟨("deal_start", none), "deal_start", "deal_start", defArgs s_deal_start, defBody s_deal_start, defScope s_deal_start, [], []⟩,
  ⟨("number_in", none), "number_in", "number_in", defArgs s_number_in, defBody s_number_in, defScope s_number_in, [], []⟩,
  ⟨("Store", some "files"), "files", "Store.files", defArgs s_Store_files, defBody s_Store_files, defScope s_Store_files, [], []⟩,
  ⟨("Store", some "first_file"), "first_file", "Store.first_file", defArgs s_Store_first_file, defBody s_Store_first_file, defScope s_Store_first_file, [], []⟩,
  ⟨("Store", some "take_hint"), "take_hint", "Store.take_hint", defArgs s_Store_take_hint, defBody s_Store_take_hint, defScope s_Store_take_hint, [], []⟩,
  ⟨("Store", some "learn"), "learn", "Store.learn", defArgs s_Store_learn, defBody s_Store_learn, defScope s_Store_learn, [], []⟩,
  ⟨("Store", some "open_file"), "open_file", "Store.open_file", defArgs s_Store_open_file, defBody s_Store_open_file, defScope s_Store_open_file, [], []⟩,
  ⟨("Store", some "wake"), "wake", "Store.wake", defArgs s_Store_wake, defBody s_Store_wake, defScope s_Store_wake, [], []⟩,
  ⟨("Store", some "__init__"), "__init__", "Store.__init__", defArgs s_Store___init__, defBody s_Store___init__, defScope s_Store___init__, [], []⟩,
  ⟨("Store", some "current"), "current", "Store.current", defArgs s_Store_current, defBody s_Store_current, defScope s_Store_current, [], []⟩,
  ⟨("Store", some "make_room"), "make_room", "Store.make_room", defArgs s_Store_make_room, defBody s_Store_make_room, defScope s_Store_make_room, [], []⟩,
  ⟨("Store", some "append"), "append", "Store.append", defArgs s_Store_append, defBody s_Store_append, defScope s_Store_append, [], []⟩,
  ⟨("Store", some "put"), "put", "Store.put", defArgs s_Store_put, defBody s_Store_put, defScope s_Store_put, [], []⟩,
  ⟨("Store", some "drop"), "drop", "Store.drop", defArgs s_Store_drop, defBody s_Store_drop, defScope s_Store_drop, [], []⟩,
  ⟨("_law_cell", none), "_law_cell", "_law_cell", defArgs s__law_cell, defBody s__law_cell, defScope s__law_cell, [], []⟩,
  ⟨("_law_mix", none), "_law_mix", "_law_mix", defArgs s__law_mix, defBody s__law_mix, defScope s__law_mix, [], []⟩,
  ⟨("_law_draw", none), "_law_draw", "_law_draw", defArgs s__law_draw, defBody s__law_draw, defScope s__law_draw, [], []⟩,
  ⟨("_law_pick", none), "_law_pick", "_law_pick", defArgs s__law_pick, defBody s__law_pick, defScope s__law_pick, [], []⟩,
  ⟨("_law_refusal", none), "_law_refusal", "_law_refusal", defArgs s__law_refusal, defBody s__law_refusal, defScope s__law_refusal, [], []⟩,
  ⟨("_law_filled", none), "_law_filled", "_law_filled", defArgs s__law_filled, defBody s__law_filled, defScope s__law_filled, [], []⟩,
  ⟨("_law_told", none), "_law_told", "_law_told", defArgs s__law_told, defBody s__law_told, defScope s__law_told, [], []⟩,
  ⟨("law", none), "law", "law", defArgs s_law, defBody s_law, defScope s_law, [], []⟩]
def hFa : List He.Fa := [.glo "BadSize", .exc "BadSize", .free "range", .free "len", .int "MOST_NAME" 20, .str "SMALL" c_SMALL, .free "all", .glo "BadFile", .exc "BadFile", .cls "Disk", .noat "Disk" "room", .noat "Disk" "held", .noat "Disk" "sure", .free "min", .glo "Stop", .exc "Stop", .free "sorted", .free "list", .int "WHEEL" 65521, .free "ord", .int "MOST_KEY" 40, .glo "BadRow", .exc "BadRow", .int "MOST_VALUE" 400, .glo "KINDS", .int "MOST_NUMBER" 999999999, .str "SIGNS" c_SIGNS, .int "HEAD" 12, .exm "BadRow" "BadRow" true, .int "ENTRY" 9, .str "LOG" c_LOG, .free "str", .free "int", .int "LEAST_FILE" 64, .cls "Store", .noat "Store" "disk", .noat "Store" "most", .noat "Store" "table", .noat "Store" "last", .noat "Store" "thinned", .noat "Store" "looks", .noat "Store" "thinning", .str "NEW" c_NEW, .str "HINT" c_HINT, .free "max", .free "isinstance", .glo "Ended", .glo "TooOld", .free "ValueError", .exm "BadSize" "LogError" true, .exm "BadFile" "LogError" true, .exm "BadRow" "LogError" true, .glo "LogError", .glo "between", .glo "walk", .glo "beginning", .glo "pages", .glo "nearest", .glo "look_name", .glo "Disk", .mkr "Disk", .meth "Disk" "use", .meth "Disk" "need", .meth "Disk" "look", .meth "Disk" "names", .meth "Disk" "read", .meth "Disk" "piece", .meth "Disk" "size", .meth "Disk" "write", .meth "Disk" "sync", .meth "Disk" "shorten", .meth "Disk" "remove", .glo "sums_of", .glo "number_bytes", .glo "number_of", .glo "is_text", .glo "look_key", .glo "look_value", .glo "look_row", .glo "written_row", .glo "text_of", .glo "row_at", .glo "read_hint", .glo "read_log", .glo "parted", .glo "settled", .glo "deal_start", .glo "log_name", .glo "number_in", .glo "Store", .mkr "Store", .meth "Store" "files", .meth "Store" "wake", .meth "Store" "first_file", .meth "Store" "open_file", .meth "Store" "take_hint", .meth "Store" "learn", .meth "Store" "current", .meth "Store" "make_room", .meth "Store" "append", .meth "Store" "put", .meth "Store" "drop", .meth "Store" "row_of", .meth "Store" "get", .meth "Store" "all_keys", .glo "read_row", .glo "_law_cell", .glo "_law_mix", .glo "_law_draw", .glo "_law_pick", .glo "_law_refusal", .glo "_law_filled", .glo "_law_told", .glo "law"]
def hTb : List (Str × List He.Dv) := [("KINDS", c_KINDS.map He.Dv.str)]
def hEx (K : PySem.W.Frag) : Bool := (hTb.all fun q => He.lstB K q.1 q.2) && isiB K
theorem fx_of {K : PySem.W.Frag} {h : Heap} {mg : Str → Option Value} (X : K.In h) (G : h.Ns mainGlobals mg) (tb : hEx K = true) (c : He.SaysD hFa hFn K) : Fx K mg where
    x_BadSize := exg_of (He.glo_ok X G (c.fact 0 rfl)) (He.exc_ok (c.fact 1 rfl))
    n_range := He.free_ok X G (c.fact 2 rfl)
    n_len := He.free_ok X G (c.fact 3 rfl)
    c_MOST_NAME := He.int_ok X G (c.fact 4 rfl)
    c_SMALL := He.str_ok X G (c.fact 5 rfl)
    n_all := He.free_ok X G (c.fact 6 rfl)
    x_BadFile := exg_of (He.glo_ok X G (c.fact 7 rfl)) (He.exc_ok (c.fact 8 rfl))
    k_Disk := He.cls_ok (c.fact 9 rfl)
    a_Disk_room := He.noat_ok (c.fact 10 rfl)
    a_Disk_held := He.noat_ok (c.fact 11 rfl)
    a_Disk_sure := He.noat_ok (c.fact 12 rfl)
    n_min := He.free_ok X G (c.fact 13 rfl)
    x_Stop := exg_of (He.glo_ok X G (c.fact 14 rfl)) (He.exc_ok (c.fact 15 rfl))
    n_sorted := He.free_ok X G (c.fact 16 rfl)
    n_list := He.free_ok X G (c.fact 17 rfl)
    c_WHEEL := He.int_ok X G (c.fact 18 rfl)
    n_ord := He.free_ok X G (c.fact 19 rfl)
    c_MOST_KEY := He.int_ok X G (c.fact 20 rfl)
    x_BadRow := exg_of (He.glo_ok X G (c.fact 21 rfl)) (He.exc_ok (c.fact 22 rfl))
    c_MOST_VALUE := He.int_ok X G (c.fact 23 rfl)
    c_KINDS := klst_of (He.glo_ok X G (c.fact 24 rfl)) (tabs_ok 0 (He.ba tb).1)
    c_MOST_NUMBER := He.int_ok X G (c.fact 25 rfl)
    c_SIGNS := He.str_ok X G (c.fact 26 rfl)
    c_HEAD := He.int_ok X G (c.fact 27 rfl)
    e_BadRow_BadRow := He.exm_ok (c.fact 28 rfl)
    g_BadRow := He.glo_ok X G (c.fact 21 rfl)
    c_ENTRY := He.int_ok X G (c.fact 29 rfl)
    c_LOG := He.str_ok X G (c.fact 30 rfl)
    n_str := He.free_ok X G (c.fact 31 rfl)
    n_int := He.free_ok X G (c.fact 32 rfl)
    c_LEAST_FILE := He.int_ok X G (c.fact 33 rfl)
    k_Store := He.cls_ok (c.fact 34 rfl)
    a_Store_disk := He.noat_ok (c.fact 35 rfl)
    a_Store_most := He.noat_ok (c.fact 36 rfl)
    a_Store_table := He.noat_ok (c.fact 37 rfl)
    a_Store_last := He.noat_ok (c.fact 38 rfl)
    a_Store_thinned := He.noat_ok (c.fact 39 rfl)
    a_Store_looks := He.noat_ok (c.fact 40 rfl)
    a_Store_thinning := He.noat_ok (c.fact 41 rfl)
    c_NEW := He.str_ok X G (c.fact 42 rfl)
    c_HINT := He.str_ok X G (c.fact 43 rfl)
    n_max := He.free_ok X G (c.fact 44 rfl)
    n_isinstance := He.free_ok X G (c.fact 45 rfl)
    i_BadSize := isi_own (He.ba tb).2 .size
    g_BadSize := He.glo_ok X G (c.fact 0 rfl)
    i_BadFile := isi_own (He.ba tb).2 .file
    g_BadFile := He.glo_ok X G (c.fact 7 rfl)
    i_BadRow := isi_own (He.ba tb).2 .row
    i_Stop := isi_own (He.ba tb).2 .stop
    g_Stop := He.glo_ok X G (c.fact 14 rfl)
    i_Ended := isi_own (He.ba tb).2 .ended
    g_Ended := He.glo_ok X G (c.fact 46 rfl)
    i_TooOld := isi_own (He.ba tb).2 .old
    g_TooOld := He.glo_ok X G (c.fact 47 rfl)
    i_ValueError := isi_val (He.ba tb).2
    n_ValueError := He.free_ok X G (c.fact 48 rfl)
    e_BadSize_LogError := He.exm_ok (c.fact 49 rfl)
    e_BadFile_LogError := He.exm_ok (c.fact 50 rfl)
    e_BadRow_LogError := He.exm_ok (c.fact 51 rfl)
    g_LogError := He.glo_ok X G (c.fact 52 rfl)
theorem law_of {P : Program} {w : World} {K : PySem.W.Frag} {h : Heap} {mg : Str → Option Value} {fa : Addr} (X : K.In h) (G : h.Ns mainGlobals mg) (hfa : mg "law" = some (.ref fa)) (tb : hEx K = true) (c : He.SaysD hFa hFn K) :
    ∃ fd : FuncData, (∀ (s : Shared) (v : Value), BindsTo s fd ⟨[v], []⟩ [("_law_script", v)]) ∧ ∀ base : Heap, K.In base → base.Ns mainGlobals mg → FnOk P w K mg base CX0 10 fa fd ["_law_script"] (spL (cnOf K) m_law) := by
  have T := fx_of X G tb c
  obtain ⟨fd_Store_all_keys, F_Store_all_keys⟩ := c.def_ 0 rfl
  obtain ⟨fd_between, F_between⟩ := c.def_ 1 rfl
  obtain ⟨fd_is_text, F_is_text⟩ := c.def_ 2 rfl
  obtain ⟨fd_look_key, F_look_key⟩ := c.def_ 3 rfl
  obtain ⟨fd_log_name, F_log_name⟩ := c.def_ 4 rfl
  obtain ⟨fd_Disk_look, F_Disk_look⟩ := c.def_ 5 rfl
  obtain ⟨fd_Disk_piece, F_Disk_piece⟩ := c.def_ 6 rfl
  obtain ⟨fd_number_of, F_number_of⟩ := c.def_ 7 rfl
  obtain ⟨fd_number_bytes, F_number_bytes⟩ := c.def_ 8 rfl
  obtain ⟨fd_sums_of, F_sums_of⟩ := c.def_ 9 rfl
  obtain ⟨fd_text_of, F_text_of⟩ := c.def_ 10 rfl
  obtain ⟨fd_look_value, F_look_value⟩ := c.def_ 11 rfl
  obtain ⟨fd_look_row, F_look_row⟩ := c.def_ 12 rfl
  obtain ⟨fd_row_at, F_row_at⟩ := c.def_ 13 rfl
  obtain ⟨fd_read_row, F_read_row⟩ := c.def_ 14 rfl
  obtain ⟨fd_Store_row_of, F_Store_row_of⟩ := c.def_ 15 rfl
  obtain ⟨fd_Store_get, F_Store_get⟩ := c.def_ 16 rfl
  obtain ⟨fd_walk, F_walk⟩ := c.def_ 17 rfl
  obtain ⟨fd_beginning, F_beginning⟩ := c.def_ 18 rfl
  obtain ⟨fd_pages, F_pages⟩ := c.def_ 19 rfl
  obtain ⟨fd_nearest, F_nearest⟩ := c.def_ 20 rfl
  obtain ⟨fd_look_name, F_look_name⟩ := c.def_ 21 rfl
  obtain ⟨fd_Disk___init__, F_Disk___init__⟩ := c.def_ 22 rfl
  obtain ⟨fd_Disk_use, F_Disk_use⟩ := c.def_ 23 rfl
  obtain ⟨fd_Disk_need, F_Disk_need⟩ := c.def_ 24 rfl
  obtain ⟨fd_Disk_names, F_Disk_names⟩ := c.def_ 25 rfl
  obtain ⟨fd_Disk_read, F_Disk_read⟩ := c.def_ 26 rfl
  obtain ⟨fd_Disk_size, F_Disk_size⟩ := c.def_ 27 rfl
  obtain ⟨fd_Disk_write, F_Disk_write⟩ := c.def_ 28 rfl
  obtain ⟨fd_Disk_sync, F_Disk_sync⟩ := c.def_ 29 rfl
  obtain ⟨fd_Disk_shorten, F_Disk_shorten⟩ := c.def_ 30 rfl
  obtain ⟨fd_Disk_remove, F_Disk_remove⟩ := c.def_ 31 rfl
  obtain ⟨fd_written_row, F_written_row⟩ := c.def_ 32 rfl
  obtain ⟨fd_read_hint, F_read_hint⟩ := c.def_ 33 rfl
  obtain ⟨fd_read_log, F_read_log⟩ := c.def_ 34 rfl
  obtain ⟨fd_parted, F_parted⟩ := c.def_ 35 rfl
  obtain ⟨fd_settled, F_settled⟩ := c.def_ 36 rfl
  obtain ⟨fd_deal_start, F_deal_start⟩ := c.def_ 37 rfl
  obtain ⟨fd_number_in, F_number_in⟩ := c.def_ 38 rfl
  obtain ⟨fd_Store_files, F_Store_files⟩ := c.def_ 39 rfl
  obtain ⟨fd_Store_first_file, F_Store_first_file⟩ := c.def_ 40 rfl
  obtain ⟨fd_Store_take_hint, F_Store_take_hint⟩ := c.def_ 41 rfl
  obtain ⟨fd_Store_learn, F_Store_learn⟩ := c.def_ 42 rfl
  obtain ⟨fd_Store_open_file, F_Store_open_file⟩ := c.def_ 43 rfl
  obtain ⟨fd_Store_wake, F_Store_wake⟩ := c.def_ 44 rfl
  obtain ⟨fd_Store___init__, F_Store___init__⟩ := c.def_ 45 rfl
  obtain ⟨fd_Store_current, F_Store_current⟩ := c.def_ 46 rfl
  obtain ⟨fd_Store_make_room, F_Store_make_room⟩ := c.def_ 47 rfl
  obtain ⟨fd_Store_append, F_Store_append⟩ := c.def_ 48 rfl
  obtain ⟨fd_Store_put, F_Store_put⟩ := c.def_ 49 rfl
  obtain ⟨fd_Store_drop, F_Store_drop⟩ := c.def_ 50 rfl
  obtain ⟨fd__law_cell, F__law_cell⟩ := c.def_ 51 rfl
  obtain ⟨fd__law_mix, F__law_mix⟩ := c.def_ 52 rfl
  obtain ⟨fd__law_draw, F__law_draw⟩ := c.def_ 53 rfl
  obtain ⟨fd__law_pick, F__law_pick⟩ := c.def_ 54 rfl
  obtain ⟨fd__law_refusal, F__law_refusal⟩ := c.def_ 55 rfl
  obtain ⟨fd__law_filled, F__law_filled⟩ := c.def_ 56 rfl
  obtain ⟨fd__law_told, F__law_told⟩ := c.def_ 57 rfl
  obtain ⟨fd_law, F_law⟩ := c.def_ 58 rfl
  cases (Option.some.inj (hfa.symm.trans (He.glo_ok X G (c.fact 113 rfl))) : _)
  refine ⟨fd_law, fun s v => F_law.bindsA (ps := ["_law_script"]) (fun _ _ _ _ _ _ us hl => match us, hl with | [_], _ => rfl) s [v] rfl, fun base _ _ => ?_⟩
  have g_Store_all_keys : MeG P w K mg base (cnOf K) .store "all_keys" 1 m_Store_all_keys := me_g (st := s_Store_all_keys) (ps := ["self"]) F_Store_all_keys (He.meth_ok (c.fact 104 rfl)) (He.cls_ok (c.fact 34 rfl)) (fun _ _ _ _ _ _ us hl => match us, hl with | [_], _ => rfl) (ok_Store_all_keys T F_Store_all_keys)
  have g_between : FnG P w K mg base (cnOf K) "between" 2 m_between := fn_g (st := s_between) (ps := ["store", "first", "last"]) F_between (He.glo_ok X G (c.fact 53 rfl)) (fun _ _ _ _ _ _ us hl => match us, hl with | [_, _, _], _ => rfl) (ok_between T F_between g_Store_all_keys)
  have g_is_text : FnG P w K mg base (cnOf K) "is_text" 1 m_is_text := fn_g (st := s_is_text) (ps := ["text", "least", "most"]) F_is_text (He.glo_ok X G (c.fact 75 rfl)) (fun _ _ _ _ _ _ us hl => match us, hl with | [_, _, _], _ => rfl) (ok_is_text T F_is_text)
  have g_look_key : FnG P w K mg base (cnOf K) "look_key" 2 m_look_key := fn_g (st := s_look_key) (ps := ["key"]) F_look_key (He.glo_ok X G (c.fact 76 rfl)) (fun _ _ _ _ _ _ us hl => match us, hl with | [_], _ => rfl) (ok_look_key T F_look_key g_is_text)
  have g_log_name : FnG P w K mg base (cnOf K) "log_name" 1 m_log_name := fn_g (st := s_log_name) (ps := ["number"]) F_log_name (He.glo_ok X G (c.fact 87 rfl)) (fun _ _ _ _ _ _ us hl => match us, hl with | [_], _ => rfl) (ok_log_name T F_log_name)
  have g_Disk_look : MeG P w K mg base (cnOf K) .disk "look" 1 m_Disk_look := me_g (st := s_Disk_look) (ps := ["self", "name"]) F_Disk_look (He.meth_ok (c.fact 63 rfl)) (He.cls_ok (c.fact 9 rfl)) (fun _ _ _ _ _ _ us hl => match us, hl with | [_, _], _ => rfl) (ok_Disk_look T F_Disk_look)
  have g_Disk_piece : MeG P w K mg base (cnOf K) .disk "piece" 2 m_Disk_piece := me_g (st := s_Disk_piece) (ps := ["self", "name", "first", "last"]) F_Disk_piece (He.meth_ok (c.fact 66 rfl)) (He.cls_ok (c.fact 9 rfl)) (fun _ _ _ _ _ _ us hl => match us, hl with | [_, _, _, _], _ => rfl) (ok_Disk_piece T F_Disk_piece g_Disk_look)
  have g_number_of : FnG P w K mg base (cnOf K) "number_of" 1 m_number_of := fn_g (st := s_number_of) (ps := ["some"]) F_number_of (He.glo_ok X G (c.fact 74 rfl)) (fun _ _ _ _ _ _ us hl => match us, hl with | [_], _ => rfl) (ok_number_of T F_number_of)
  have g_number_bytes : FnG P w K mg base (cnOf K) "number_bytes" 1 m_number_bytes := fn_g (st := s_number_bytes) (ps := ["number", "many"]) F_number_bytes (He.glo_ok X G (c.fact 73 rfl)) (fun _ _ _ _ _ _ us hl => match us, hl with | [_, _], _ => rfl) (ok_number_bytes T F_number_bytes)
  have g_sums_of : FnG P w K mg base (cnOf K) "sums_of" 2 m_sums_of := fn_g (st := s_sums_of) (ps := ["some"]) F_sums_of (He.glo_ok X G (c.fact 72 rfl)) (fun _ _ _ _ _ _ us hl => match us, hl with | [_], _ => rfl) (ok_sums_of T F_sums_of g_number_bytes)
  have g_text_of : FnG P w K mg base (cnOf K) "text_of" 1 m_text_of := fn_g (st := s_text_of) (ps := ["some"]) F_text_of (He.glo_ok X G (c.fact 80 rfl)) (fun _ _ _ _ _ _ us hl => match us, hl with | [_], _ => rfl) (ok_text_of T F_text_of)
  have g_look_value : FnG P w K mg base (cnOf K) "look_value" 2 m_look_value := fn_g (st := s_look_value) (ps := ["value"]) F_look_value (He.glo_ok X G (c.fact 77 rfl)) (fun _ _ _ _ _ _ us hl => match us, hl with | [_], _ => rfl) (ok_look_value T F_look_value g_is_text)
  have g_look_row : FnG P w K mg base (cnOf K) "look_row" 3 m_look_row := fn_g (st := s_look_row) (ps := ["row"]) F_look_row (He.glo_ok X G (c.fact 78 rfl)) (fun _ _ _ _ _ _ us hl => match us, hl with | [_], _ => rfl) (ok_look_row T F_look_row g_look_key g_look_value)
  have g_row_at : FnG P w K mg base (cnOf K) "row_at" 4 m_row_at := fn_g (st := s_row_at) (ps := ["some", "at"]) F_row_at (He.glo_ok X G (c.fact 81 rfl)) (fun _ _ _ _ _ _ us hl => match us, hl with | [_, _], _ => rfl) (ok_row_at T F_row_at g_number_of g_sums_of g_text_of g_look_row)
  have g_read_row : FnG P w K mg base (cnOf K) "read_row" 5 m_read_row := fn_g (st := s_read_row) (ps := ["disk", "number", "place"]) F_read_row (He.glo_ok X G (c.fact 105 rfl)) (fun _ _ _ _ _ _ us hl => match us, hl with | [_, _, _], _ => rfl) (ok_read_row T F_read_row g_log_name g_Disk_piece g_row_at)
  have g_Store_row_of : MeG P w K mg base (cnOf K) .store "row_of" 6 m_Store_row_of := me_g (st := s_Store_row_of) (ps := ["self", "key"]) F_Store_row_of (He.meth_ok (c.fact 102 rfl)) (He.cls_ok (c.fact 34 rfl)) (fun _ _ _ _ _ _ us hl => match us, hl with | [_, _], _ => rfl) (ok_Store_row_of T F_Store_row_of g_look_key g_read_row)
  have g_Store_get : MeG P w K mg base (cnOf K) .store "get" 7 m_Store_get := me_g (st := s_Store_get) (ps := ["self", "key"]) F_Store_get (He.meth_ok (c.fact 103 rfl)) (He.cls_ok (c.fact 34 rfl)) (fun _ _ _ _ _ _ us hl => match us, hl with | [_, _], _ => rfl) (ok_Store_get T F_Store_get g_Store_row_of)
  have g_walk : FnG P w K mg base (cnOf K) "walk" 8 m_walk := fn_g (st := s_walk) (ps := ["store", "first", "last", "most", "is_back"]) F_walk (He.glo_ok X G (c.fact 54 rfl)) (fun _ _ _ _ _ _ us hl => match us, hl with | [_, _, _, _, _], _ => rfl) (ok_walk T F_walk g_between g_Store_get)
  have g_beginning : FnG P w K mg base (cnOf K) "beginning" 2 m_beginning := fn_g (st := s_beginning) (ps := ["store", "text"]) F_beginning (He.glo_ok X G (c.fact 55 rfl)) (fun _ _ _ _ _ _ us hl => match us, hl with | [_, _], _ => rfl) (ok_beginning T F_beginning g_Store_all_keys)
  have g_pages : FnG P w K mg base (cnOf K) "pages" 2 m_pages := fn_g (st := s_pages) (ps := ["store", "most"]) F_pages (He.glo_ok X G (c.fact 56 rfl)) (fun _ _ _ _ _ _ us hl => match us, hl with | [_, _], _ => rfl) (ok_pages T F_pages g_Store_all_keys)
  have g_nearest : FnG P w K mg base (cnOf K) "nearest" 2 m_nearest := fn_g (st := s_nearest) (ps := ["store", "key"]) F_nearest (He.glo_ok X G (c.fact 57 rfl)) (fun _ _ _ _ _ _ us hl => match us, hl with | [_, _], _ => rfl) (ok_nearest T F_nearest g_Store_all_keys)
  have g_look_name : FnG P w K mg base (cnOf K) "look_name" 1 m_look_name := fn_g (st := s_look_name) (ps := ["name"]) F_look_name (He.glo_ok X G (c.fact 58 rfl)) (fun _ _ _ _ _ _ us hl => match us, hl with | [_], _ => rfl) (ok_look_name T F_look_name)
  have g_Disk___init__ : MkG P w K mg base (cnOf K) .disk "Disk" 1 m_Disk___init__ := mk_g (st := s_Disk___init__) (ps := ["self", "room"]) F_Disk___init__ (He.mkr_ok (c.fact 60 rfl)) (He.glo_ok X G (c.fact 59 rfl)) (fun _ _ _ _ _ _ us hl => match us, hl with | [_, _], _ => rfl) (ok_Disk___init__ T F_Disk___init__)
  have g_Disk_use : MeG P w K mg base (cnOf K) .disk "use" 1 m_Disk_use := me_g (st := s_Disk_use) (ps := ["self", "many"]) F_Disk_use (He.meth_ok (c.fact 61 rfl)) (He.cls_ok (c.fact 9 rfl)) (fun _ _ _ _ _ _ us hl => match us, hl with | [_, _], _ => rfl) (ok_Disk_use T F_Disk_use)
  have g_Disk_need : MeG P w K mg base (cnOf K) .disk "need" 2 m_Disk_need := me_g (st := s_Disk_need) (ps := ["self"]) F_Disk_need (He.meth_ok (c.fact 62 rfl)) (He.cls_ok (c.fact 9 rfl)) (fun _ _ _ _ _ _ us hl => match us, hl with | [_], _ => rfl) (ok_Disk_need T F_Disk_need g_Disk_use)
  have g_Disk_names : MeG P w K mg base (cnOf K) .disk "names" 1 m_Disk_names := me_g (st := s_Disk_names) (ps := ["self"]) F_Disk_names (He.meth_ok (c.fact 64 rfl)) (He.cls_ok (c.fact 9 rfl)) (fun _ _ _ _ _ _ us hl => match us, hl with | [_], _ => rfl) (ok_Disk_names T F_Disk_names)
  have g_Disk_read : MeG P w K mg base (cnOf K) .disk "read" 2 m_Disk_read := me_g (st := s_Disk_read) (ps := ["self", "name"]) F_Disk_read (He.meth_ok (c.fact 65 rfl)) (He.cls_ok (c.fact 9 rfl)) (fun _ _ _ _ _ _ us hl => match us, hl with | [_, _], _ => rfl) (ok_Disk_read T F_Disk_read g_Disk_look)
  have g_Disk_size : MeG P w K mg base (cnOf K) .disk "size" 2 m_Disk_size := me_g (st := s_Disk_size) (ps := ["self", "name"]) F_Disk_size (He.meth_ok (c.fact 67 rfl)) (He.cls_ok (c.fact 9 rfl)) (fun _ _ _ _ _ _ us hl => match us, hl with | [_, _], _ => rfl) (ok_Disk_size T F_Disk_size g_Disk_look)
  have g_Disk_write : MeG P w K mg base (cnOf K) .disk "write" 3 m_Disk_write := me_g (st := s_Disk_write) (ps := ["self", "name", "some"]) F_Disk_write (He.meth_ok (c.fact 68 rfl)) (He.cls_ok (c.fact 9 rfl)) (fun _ _ _ _ _ _ us hl => match us, hl with | [_, _, _], _ => rfl) (ok_Disk_write T F_Disk_write g_look_name g_Disk_need g_Disk_use)
  have g_Disk_sync : MeG P w K mg base (cnOf K) .disk "sync" 3 m_Disk_sync := me_g (st := s_Disk_sync) (ps := ["self", "name"]) F_Disk_sync (He.meth_ok (c.fact 69 rfl)) (He.cls_ok (c.fact 9 rfl)) (fun _ _ _ _ _ _ us hl => match us, hl with | [_, _], _ => rfl) (ok_Disk_sync T F_Disk_sync g_Disk_look g_Disk_need)
  have g_Disk_shorten : MeG P w K mg base (cnOf K) .disk "shorten" 3 m_Disk_shorten := me_g (st := s_Disk_shorten) (ps := ["self", "name", "size"]) F_Disk_shorten (He.meth_ok (c.fact 70 rfl)) (He.cls_ok (c.fact 9 rfl)) (fun _ _ _ _ _ _ us hl => match us, hl with | [_, _, _], _ => rfl) (ok_Disk_shorten T F_Disk_shorten g_Disk_look g_Disk_need)
  have g_Disk_remove : MeG P w K mg base (cnOf K) .disk "remove" 3 m_Disk_remove := me_g (st := s_Disk_remove) (ps := ["self", "name"]) F_Disk_remove (He.meth_ok (c.fact 71 rfl)) (He.cls_ok (c.fact 9 rfl)) (fun _ _ _ _ _ _ us hl => match us, hl with | [_, _], _ => rfl) (ok_Disk_remove T F_Disk_remove g_Disk_look g_Disk_need)
  have g_written_row : FnG P w K mg base (cnOf K) "written_row" 4 m_written_row := fn_g (st := s_written_row) (ps := ["row"]) F_written_row (He.glo_ok X G (c.fact 79 rfl)) (fun _ _ _ _ _ _ us hl => match us, hl with | [_], _ => rfl) (ok_written_row T F_written_row g_look_row g_number_bytes g_sums_of)
  have g_read_hint : FnG P w K mg base (cnOf K) "read_hint" 3 m_read_hint := fn_g (st := s_read_hint) (ps := ["some", "size"]) F_read_hint (He.glo_ok X G (c.fact 82 rfl)) (fun _ _ _ _ _ _ us hl => match us, hl with | [_, _], _ => rfl) (ok_read_hint T F_read_hint g_sums_of g_number_of g_text_of g_is_text)
  have g_read_log : FnG P w K mg base (cnOf K) "read_log" 5 m_read_log := fn_g (st := s_read_log) (ps := ["some"]) F_read_log (He.glo_ok X G (c.fact 83 rfl)) (fun _ _ _ _ _ _ us hl => match us, hl with | [_], _ => rfl) (ok_read_log T F_read_log g_row_at)
  have g_parted : FnG P w K mg base (cnOf K) "parted" 1 m_parted := fn_g (st := s_parted) (ps := ["rows"]) F_parted (He.glo_ok X G (c.fact 84 rfl)) (fun _ _ _ _ _ _ us hl => match us, hl with | [_], _ => rfl) (ok_parted T F_parted)
  have g_settled : FnG P w K mg base (cnOf K) "settled" 2 m_settled := fn_g (st := s_settled) (ps := ["rows"]) F_settled (He.glo_ok X G (c.fact 85 rfl)) (fun _ _ _ _ _ _ us hl => match us, hl with | [_], _ => rfl) (ok_settled T F_settled g_parted)
  have g_deal_start : FnG P w K mg base (cnOf K) "deal_start" 2 m_deal_start := fn_g (st := s_deal_start) (ps := ["rows"]) F_deal_start (He.glo_ok X G (c.fact 86 rfl)) (fun _ _ _ _ _ _ us hl => match us, hl with | [_], _ => rfl) (ok_deal_start T F_deal_start g_parted)
  have g_number_in : FnG P w K mg base (cnOf K) "number_in" 1 m_number_in := fn_g (st := s_number_in) (ps := ["name", "head"]) F_number_in (He.glo_ok X G (c.fact 88 rfl)) (fun _ _ _ _ _ _ us hl => match us, hl with | [_, _], _ => rfl) (ok_number_in T F_number_in)
  have g_Store_files : MeG P w K mg base (cnOf K) .store "files" 2 m_Store_files := me_g (st := s_Store_files) (ps := ["self"]) F_Store_files (He.meth_ok (c.fact 91 rfl)) (He.cls_ok (c.fact 34 rfl)) (fun _ _ _ _ _ _ us hl => match us, hl with | [_], _ => rfl) (ok_Store_files T F_Store_files g_Disk_names g_number_in)
  have g_Store_first_file : MeG P w K mg base (cnOf K) .store "first_file" 5 m_Store_first_file := me_g (st := s_Store_first_file) (ps := ["self"]) F_Store_first_file (He.meth_ok (c.fact 93 rfl)) (He.cls_ok (c.fact 34 rfl)) (fun _ _ _ _ _ _ us hl => match us, hl with | [_], _ => rfl) (ok_Store_first_file T F_Store_first_file g_Store_files g_Disk_piece g_log_name g_row_at)
  have g_Store_take_hint : MeG P w K mg base (cnOf K) .store "take_hint" 5 m_Store_take_hint := me_g (st := s_Store_take_hint) (ps := ["self", "number", "entries"]) F_Store_take_hint (He.meth_ok (c.fact 95 rfl)) (He.cls_ok (c.fact 34 rfl)) (fun _ _ _ _ _ _ us hl => match us, hl with | [_, _, _], _ => rfl) (ok_Store_take_hint T F_Store_take_hint g_Disk_piece g_log_name g_row_at)
  have g_Store_learn : MeG P w K mg base (cnOf K) .store "learn" 1 m_Store_learn := me_g (st := s_Store_learn) (ps := ["self", "row", "number", "at"]) F_Store_learn (He.meth_ok (c.fact 96 rfl)) (He.cls_ok (c.fact 34 rfl)) (fun _ _ _ _ _ _ us hl => match us, hl with | [_, _, _, _], _ => rfl) (ok_Store_learn T F_Store_learn)
  have g_Store_open_file : MeG P w K mg base (cnOf K) .store "open_file" 6 m_Store_open_file := me_g (st := s_Store_open_file) (ps := ["self", "number"]) F_Store_open_file (He.meth_ok (c.fact 94 rfl)) (He.cls_ok (c.fact 34 rfl)) (fun _ _ _ _ _ _ us hl => match us, hl with | [_, _], _ => rfl) (ok_Store_open_file T F_Store_open_file g_log_name g_Disk_names g_Disk_size g_Disk_read g_read_hint g_Store_take_hint g_read_log g_Store_files g_deal_start g_Disk_shorten g_settled g_Store_learn)
  have g_Store_wake : MeG P w K mg base (cnOf K) .store "wake" 7 m_Store_wake := me_g (st := s_Store_wake) (ps := ["self"]) F_Store_wake (He.meth_ok (c.fact 92 rfl)) (He.cls_ok (c.fact 34 rfl)) (fun _ _ _ _ _ _ us hl => match us, hl with | [_], _ => rfl) (ok_Store_wake T F_Store_wake g_Disk_names g_number_in g_Disk_remove g_Store_first_file g_Store_files g_log_name g_Store_open_file g_Disk_write)
  have g_Store___init__ : MkG P w K mg base (cnOf K) .store "Store" 8 m_Store___init__ := mk_g (st := s_Store___init__) (ps := ["self", "disk", "most"]) F_Store___init__ (He.mkr_ok (c.fact 90 rfl)) (He.glo_ok X G (c.fact 89 rfl)) (fun _ _ _ _ _ _ us hl => match us, hl with | [_, _, _], _ => rfl) (ok_Store___init__ T F_Store___init__ g_Store_wake)
  have g_Store_current : MeG P w K mg base (cnOf K) .store "current" 3 m_Store_current := me_g (st := s_Store_current) (ps := ["self"]) F_Store_current (He.meth_ok (c.fact 97 rfl)) (He.cls_ok (c.fact 34 rfl)) (fun _ _ _ _ _ _ us hl => match us, hl with | [_], _ => rfl) (ok_Store_current T F_Store_current g_Store_files)
  have g_Store_make_room : MeG P w K mg base (cnOf K) .store "make_room" 4 m_Store_make_room := me_g (st := s_Store_make_room) (ps := ["self", "many"]) F_Store_make_room (He.meth_ok (c.fact 98 rfl)) (He.cls_ok (c.fact 34 rfl)) (fun _ _ _ _ _ _ us hl => match us, hl with | [_, _], _ => rfl) (ok_Store_make_room T F_Store_make_room g_Store_current g_log_name g_Disk_size g_Disk_sync g_Disk_write)
  have g_Store_append : MeG P w K mg base (cnOf K) .store "append" 5 m_Store_append := me_g (st := s_Store_append) (ps := ["self", "rows"]) F_Store_append (He.meth_ok (c.fact 99 rfl)) (He.cls_ok (c.fact 34 rfl)) (fun _ _ _ _ _ _ us hl => match us, hl with | [_, _], _ => rfl) (ok_Store_append T F_Store_append g_written_row g_Store_make_room g_Store_current g_Disk_size g_log_name g_Disk_write g_Store_learn)
  have g_Store_put : MeG P w K mg base (cnOf K) .store "put" 6 m_Store_put := me_g (st := s_Store_put) (ps := ["self", "key", "value"]) F_Store_put (He.meth_ok (c.fact 100 rfl)) (He.cls_ok (c.fact 34 rfl)) (fun _ _ _ _ _ _ us hl => match us, hl with | [_, _, _], _ => rfl) (ok_Store_put T F_Store_put g_look_key g_look_value g_Store_append)
  have g_Store_drop : MeG P w K mg base (cnOf K) .store "drop" 6 m_Store_drop := me_g (st := s_Store_drop) (ps := ["self", "key"]) F_Store_drop (He.meth_ok (c.fact 101 rfl)) (He.cls_ok (c.fact 34 rfl)) (fun _ _ _ _ _ _ us hl => match us, hl with | [_, _], _ => rfl) (ok_Store_drop T F_Store_drop g_look_key g_Store_append)
  have g__law_cell : FnG P w K mg base (cnOf K) "_law_cell" 1 m__law_cell := fn_g (st := s__law_cell) (ps := ["_law_script", "_law_k"]) F__law_cell (He.glo_ok X G (c.fact 106 rfl)) (fun _ _ _ _ _ _ us hl => match us, hl with | [_, _], _ => rfl) (ok__law_cell T F__law_cell)
  have g__law_mix : FnG P w K mg base (cnOf K) "_law_mix" 2 m__law_mix := fn_g (st := s__law_mix) (ps := ["_law_script", "_law_k"]) F__law_mix (He.glo_ok X G (c.fact 107 rfl)) (fun _ _ _ _ _ _ us hl => match us, hl with | [_, _], _ => rfl) (ok__law_mix T F__law_mix g__law_cell)
  have g__law_draw : FnG P w K mg base (cnOf K) "_law_draw" 3 m__law_draw := fn_g (st := s__law_draw) (ps := ["_law_script", "_law_town", "_law_many"]) F__law_draw (He.glo_ok X G (c.fact 108 rfl)) (fun _ _ _ _ _ _ us hl => match us, hl with | [_, _, _], _ => rfl) (ok__law_draw T F__law_draw g__law_mix)
  have g__law_pick : FnG P w K mg base (cnOf K) "_law_pick" 4 m__law_pick := fn_g (st := s__law_pick) (ps := ["_law_script", "_law_town", "_law_some"]) F__law_pick (He.glo_ok X G (c.fact 109 rfl)) (fun _ _ _ _ _ _ us hl => match us, hl with | [_, _, _], _ => rfl) (ok__law_pick T F__law_pick g__law_draw)
  have g__law_refusal : FnG P w K mg base (cnOf K) "_law_refusal" 1 m__law_refusal := fn_g (st := s__law_refusal) (ps := ["_law_held"]) F__law_refusal (He.glo_ok X G (c.fact 110 rfl)) (fun _ _ _ _ _ _ us hl => match us, hl with | [_], _ => rfl) (ok__law_refusal T F__law_refusal)
  have g__law_filled : FnG P w K mg base (cnOf K) "_law_filled" 7 m__law_filled := fn_g (st := s__law_filled) (ps := ["_law_script", "_law_town", "_law_store", "_law_many"]) F__law_filled (He.glo_ok X G (c.fact 111 rfl)) (fun _ _ _ _ _ _ us hl => match us, hl with | [_, _, _, _], _ => rfl) (ok__law_filled T F__law_filled g__law_pick g__law_draw g_Store_put g_Store_drop)
  have g__law_told : FnG P w K mg base (cnOf K) "_law_told" 9 m__law_told := fn_g (st := s__law_told) (ps := ["_law_way", "_law_store", "_law_many"]) F__law_told (He.glo_ok X G (c.fact 112 rfl)) (fun _ _ _ _ _ _ us hl => match us, hl with | [_, _, _], _ => rfl) (ok__law_told T F__law_told g_walk g_pages g__law_refusal)
  exact fnOk_law (ok_law T F_law g__law_draw g_Disk___init__ g_Store___init__ g__law_filled g__law_pick g_walk g_beginning g_nearest g__law_told)
abbrev RR : PySem.W.OpenRow := PySem.W.OpenLaw.row PySem.Challenge.rw_logtable_k70_whole_walks
abbrev hk : PySem.W.Hook := hookX 5 hFa hFn hEx
def loose : List Str := (["LogError", "BadRow", "BadFile", "BadSize", "TooOld", "Ended", "Stop", "Disk", "Store", "MOST_NAME", "SMALL", "KINDS", "HEAD", "MOST_KEY", "MOST_VALUE", "MOST_NUMBER", "WHEEL", "SIGNS", "ENTRY", "LEAST_FILE", "LOG", "NEW", "HINT", "_wall", "between", "walk", "beginning", "pages", "nearest", "look_name"] : List Str) ++ (["sums_of", "number_bytes", "number_of", "is_text", "look_key", "look_value", "look_row", "written_row", "text_of", "row_at", "read_hint", "read_log", "parted", "settled", "deal_start", "log_name", "number_in", "read_row", "_law_cell", "_law_mix", "_law_draw", "_law_pick", "_law_refusal", "_law_filled", "_law_told"] : List Str)
theorem run (w : World) : HandSHeadRun.RunEq RR (PySem.W.view RR.prog [63]) hk (obX 5 hFa hFn hEx) 9000 loose w := by
  intro os
  kernel_rfl
end Lt

set_option Elab.async false
set_option linter.all false
set_option maxRecDepth 100000
/-! T1: what a program of the middle layer comes to: posts, loops, comprehensions. -/
namespace Lt
open PySem L2

@[irreducible] def wp {α : Type} (r : R α) (Q : α → Mem → Prop) (X : Ecl → Mem → Prop) : Prop := match r with
  | .ok a m => Q a m | .exc c m => X c m | .stk => False
structure Po where
  nx : Ev → Mem → Prop
  rt : D → Mem → Prop
  bk : Ev → Mem → Prop
  ct : Ev → Mem → Prop
  xc : Ecl → Ev → Mem → Prop
@[irreducible] def ws (r : SR) (P : Po) : Prop := match r with
  | .nx e m => P.nx e m | .ret d m => P.rt d m | .brk e m => P.bk e m | .ct e m => P.ct e m | .exc c e m => P.xc c e m | .stk => False
section
variable {α β : Type} {Q : α → Mem → Prop} {X : Ecl → Mem → Prop} {P : Po} {m : Mem} {ev : Ev}
@[simp] theorem wp_ok {a : α} : wp (.ok a m) Q X = Q a m := by rw [wp]
@[simp] theorem wp_exc {c : Ecl} : wp (α := α) (.exc c m) Q X = X c m := by rw [wp]
@[simp] theorem wp_stk : wp (α := α) .stk Q X = False := by rw [wp]
@[simp] theorem ws_nx : ws (.nx ev m) P = P.nx ev m := by rw [ws]
@[simp] theorem ws_ret {d} : ws (.ret d m) P = P.rt d m := by rw [ws]
@[simp] theorem ws_brk : ws (.brk ev m) P = P.bk ev m := by rw [ws]
@[simp] theorem ws_ct : ws (.ct ev m) P = P.ct ev m := by rw [ws]
@[simp] theorem ws_exc {c} : ws (.exc c ev m) P = P.xc c ev m := by rw [ws]
@[simp] theorem ws_stk : ws .stk P = False := by rw [ws]
@[simp] theorem wp_pur {a : α} : wp (pur a m) Q X = Q a m := wp_ok
@[simp] theorem wp_stuck : wp (stuck (α := α) m) Q X = False := wp_stk
@[simp] theorem wp_bnd {x : M β} {f : β → M α} : wp (bnd x f m) Q X = wp (x m) (fun a m' => wp (f a m') Q X) X := by
  show wp (match x m with | .ok a m' => f a m' | .exc c m' => .exc c m' | .stk => .stk) Q X = _
  cases x m <;> simp
@[simp] theorem wp_ite {c : Prop} [Decidable c] {a b : R α} : wp (if c then a else b) Q X = ((c → wp a Q X) ∧ (¬ c → wp b Q X)) := by
  by_cases h : c <;> simp [h]
@[simp] theorem ws_ite {c : Prop} [Decidable c] {a b : SR} : ws (if c then a else b) P = ((c → ws a P) ∧ (¬ c → ws b P)) := by
  by_cases h : c <;> simp [h]
theorem wp_mono {r : R α} {Q' : α → Mem → Prop} {X' : Ecl → Mem → Prop} (h : wp r Q X) (hq : ∀ a m, Q a m → Q' a m) (hx : ∀ c m, X c m → X' c m) : wp r Q' X' := by
  cases r
  · rw [wp_ok] at h ⊢; exact hq _ _ h
  · rw [wp_exc] at h ⊢; exact hx _ _ h
  · rw [wp_stk] at h; exact h.elim
theorem ws_mono {r : SR} {P' : Po} (h : ws r P) (h1 : ∀ a m, P.nx a m → P'.nx a m) (h2 : ∀ a m, P.rt a m → P'.rt a m) (h3 : ∀ a m, P.bk a m → P'.bk a m) (h4 : ∀ a m, P.ct a m → P'.ct a m) (h5 : ∀ c a m, P.xc c a m → P'.xc c a m) : ws r P' := by
  cases r
  · rw [ws_nx] at h ⊢; exact h1 _ _ h
  · rw [ws_ret] at h ⊢; exact h2 _ _ h
  · rw [ws_brk] at h ⊢; exact h3 _ _ h
  · rw [ws_ct] at h ⊢; exact h4 _ _ h
  · rw [ws_exc] at h ⊢; exact h5 _ _ _ h
  · rw [ws_stk] at h; exact h.elim
theorem ws_ofE {r : R α} {k : α → Mem → SR} : ws (ofE r ev k) P = wp r (fun a m => ws (k a m) P) (fun c m => P.xc c ev m) := by
  cases r <;> simp [ofE]
/-! expressions -/
@[simp] theorem eVar_z {d : D} {r : Ev} : wp (eVar 0 (some d :: r) m) Q' X = Q' d m := wp_ok
@[simp] theorem eVar_s {i : Nat} {o : Option D} {r : Ev} : eVar (i + 1) (o :: r) m = eVar i r m := id rfl
@[simp] theorem wp_eC {d : D} {Q : D → Mem → Prop} : wp (eC d ev m) Q X = Q d m := wp_ok
variable {Q : D → Mem → Prop}
@[simp] theorem wp_eBin {o : D → D → M D} {a b : EC} : wp (eBin o a b ev m) Q X = wp (a ev m) (fun x m1 => wp (b ev m1) (fun y m2 => wp (o x y m2) Q X) X) X := by simp [eBin]
@[simp] theorem wp_eUn {o : D → M D} {a : EC} : wp (eUn o a ev m) Q X = wp (a ev m) (fun x m1 => wp (o x m1) Q X) X := by simp [eUn]
@[simp] theorem wp_eB1 {o : List D → M D} {a : EA} : wp (eB1 o a ev m) Q X = wp (a ev m) (fun x m1 => wp (o x m1) Q X) X := by simp [eB1]
@[simp] theorem wp_eCall {o : List D → M D} {a : EA} : wp (eCall o a ev m) Q X = wp (a ev m) (fun x m1 => wp (o x m1) Q X) X := by simp [eCall]
@[simp] theorem wp_eMeth {o : List D → M D} {c : EC} {a : EA} : wp (eMeth o c a ev m) Q X = wp (c ev m) (fun x m1 => wp (a ev m1) (fun xs m2 => wp (o (x :: xs) m2) Q X) X) X := by simp [eMeth]
@[simp] theorem wp_eM {f : D → List D → M D} {c : EC} {a : EA} : wp (eM f c a ev m) Q X = wp (c ev m) (fun x m1 => wp (a ev m1) (fun xs m2 => wp (f x xs m2) Q X) X) X := by simp [eM]
@[simp] theorem wp_aNil {Q : List D → Mem → Prop} : wp (aNil ev m) Q X = Q [] m := wp_ok
@[simp] theorem wp_aCons {Q : List D → Mem → Prop} {a : EC} {r : EA} : wp (aCons a r ev m) Q X = wp (a ev m) (fun x m1 => wp (r ev m1) (fun xs m2 => Q (x :: xs) m2) X) X := by simp [aCons]
@[simp] theorem wp_eTup {a : EA} : wp (eTup a ev m) Q X = wp (a ev m) (fun xs m1 => wp (mkT xs m1) Q X) X := by simp [eTup]
@[simp] theorem wp_eLst {nw} {a : EA} : wp (eLst nw a ev m) Q X = wp (a ev m) (fun xs m1 => wp (outL nw xs m1) Q X) X := by simp [eLst]
@[simp] theorem wp_oNone {Q : Option Int → Mem → Prop} : wp (oNone ev m) Q X = Q none m := wp_ok
@[simp] theorem wp_oSome {Q : Option Int → Mem → Prop} {e : EC} : wp (oSome e ev m) Q X = wp (e ev m) (fun x m1 => ∃ i, x = .int i ∧ Q (some i) m1) X := by
  unfold oSome; rw [wp_bnd]; congr 1; funext x m1; cases x <;> simp
@[simp] theorem wp_eSl {nw} {e : EC} {lo hi : EO} : wp (eSl nw e lo hi ev m) Q X = wp (e ev m) (fun x m1 => wp (lo ev m1) (fun l m2 => wp (hi ev m2) (fun h m3 => wp (oSl nw x l h m3) Q X) X) X) X := by simp [eSl]
@[simp] theorem wp_eIf {t : ET} {a b : EC} : wp (eIf t a b ev m) Q X = wp (t ev m) (fun c m1 => (c = true → wp (a ev m1) Q X) ∧ (c = false → wp (b ev m1) Q X)) X := by
  simp only [eIf, wp_bnd]; congr 1; funext c m1; cases c <;> simp
@[simp] theorem wp_tOf {Q : Bool → Mem → Prop} {e : EC} : wp (tOf e ev m) Q X = wp (e ev m) (fun x m1 => ∃ b, x = .bl b ∧ Q b m1) X := by
  unfold tOf; rw [wp_bnd]; congr 1; funext x m1; cases x <;> simp
@[simp] theorem wp_tTru {Q : Bool → Mem → Prop} {e : EC} : wp (tTru e ev m) Q X = wp (e ev m) (fun x m1 => wp (oTru x m1) Q X) X := by simp [tTru]
@[simp] theorem wp_eTst {t : ET} : wp (eTst t ev m) Q X = wp (t ev m) (fun b m1 => Q (.bl b) m1) X := by simp [eTst]
@[simp] theorem wp_tAnd {Q : Bool → Mem → Prop} {a b : ET} : wp (tAnd a b ev m) Q X = wp (a ev m) (fun c m1 => (c = true → wp (b ev m1) Q X) ∧ (c = false → Q false m1)) X := by
  simp only [tAnd, wp_bnd]; congr 1; funext c m1; cases c <;> simp
@[simp] theorem wp_tOr {Q : Bool → Mem → Prop} {a b : ET} : wp (tOr a b ev m) Q X = wp (a ev m) (fun c m1 => (c = true → Q true m1) ∧ (c = false → wp (b ev m1) Q X)) X := by
  simp only [tOr, wp_bnd]; congr 1; funext c m1; cases c <;> simp
@[simp] theorem wp_tNot {Q : Bool → Mem → Prop} {a : ET} : wp (tNot a ev m) Q X = wp (a ev m) (fun c m1 => Q (!c) m1) X := by simp [tNot]
@[simp] theorem wp_tYes {Q : Bool → Mem → Prop} : wp (tYes ev m) Q X = Q true m := wp_ok
theorem wp_itM {α : Type} {Q : α → Mem → Prop} {c : Prop} [Decidable c] {a b : M α} : wp ((if c then a else b) m) Q X = ((c → wp (a m) Q X) ∧ (¬ c → wp (b m) Q X)) := by by_cases h : c <;> simp [h]
@[simp] theorem wp_eChain {o p : D → D → M D} {a b c : EC} : wp (eChain o p a b c ev m) Q X = wp (a ev m) (fun x m1 => wp (b ev m1) (fun y m2 => wp (o x y m2) (fun z m3 => ∃ k, z = .bl k ∧ (k = true → wp (c ev m3) (fun w m4 => wp (p y w m4) Q X) X) ∧ (k = false → Q (.bl false) m3)) X) X) X := by
  unfold eChain; rw [wp_bnd]; congr 1; funext x m1; rw [wp_bnd]; congr 1; funext y m2; rw [wp_bnd]; congr 1; funext z m3; cases z <;> simp [wp_itM]
@[simp] theorem wp_eAnd {a b : EC} : wp (eAnd a b ev m) Q X = wp (a ev m) (fun x m1 => ∃ k, x = .bl k ∧ (k = true → wp (b ev m1) Q X) ∧ (k = false → Q (.bl false) m1)) X := by
  unfold eAnd; rw [wp_bnd]; congr 1; funext x m1; cases x <;> simp
  case bl k => cases k <;> simp
@[simp] theorem wp_eOr {a b : EC} : wp (eOr a b ev m) Q X = wp (a ev m) (fun x m1 => ∃ k, x = .bl k ∧ (k = true → Q (.bl true) m1) ∧ (k = false → wp (b ev m1) Q X)) X := by
  unfold eOr; rw [wp_bnd]; congr 1; funext x m1; cases x <;> simp
  case bl k => cases k <;> simp
@[simp] theorem wp_eNot {a : EC} : wp (eNot a ev m) Q X = wp (a ev m) (fun x m1 => ∃ k, x = .bl k ∧ Q (.bl (!k)) m1) X := by
  unfold eNot; rw [wp_bnd]; congr 1; funext x m1; cases x <;> simp
@[simp] theorem wp_eML {f : D → List D → M D} {o : EC} {a : EA} : wp (eML f o a ev m) Q X = wp (o ev m) (fun x m1 => (∃ xs, rdL x m1 = some xs) ∧ wp (a ev m1) (fun xs m2 => wp (f x xs m2) Q X) X) X := by
  refine (wp_bnd (x := o ev)).trans ?_; congr 1; funext x m1; cases h : rdL x m1 <;> simp [h]
@[simp] theorem wp_eMS {f : D → List D → M D} {o : EC} {a : EA} : wp (eMS f o a ev m) Q X = wp (o ev m) (fun x m1 => ∃ s, x = .str s ∧ wp (a ev m1) (fun xs m2 => wp (f (.str s) xs m2) Q X) X) X := by
  unfold eMS; rw [wp_bnd]; congr 1; funext x m1; cases x <;> simp
/-! statements -/
@[simp] theorem ws_sNop : ws (sNop ev m) P = P.nx ev m := ws_nx
theorem ws_sSeq {a b : SC} : ws (sSeq a b ev m) P = ws (a ev m) { P with nx := fun e m => ws (b e m) P } := by
  show ws (match a ev m with | .nx ev' m' => b ev' m' | r => r) P = _
  cases a ev m <;> simp
@[simp] theorem ws_sSet {i : Nat} {e : EC} : ws (sSet i e ev m) P = wp (e ev m) (fun d m' => P.nx (ev.set i (some d)) m') (fun c m => P.xc c ev m) := by simp [sSet, ws_ofE]
@[simp] theorem ws_sUnp {g : TGt} {e : EC} : ws (sUnp g e ev m) P = wp (e ev m) (fun d m' => ∃ ev', g d ev m' = some ev' ∧ P.nx ev' m') (fun c m => P.xc c ev m) := by
  simp only [sUnp, ws_ofE]; congr 1; funext d m'; cases h : g d ev m' <;> simp [h]
@[simp] theorem ws_sPar {i j : Nat} {a b : EC} : ws (sPar i j a b ev m) P = wp (a ev m) (fun x m1 => wp (b ev m1) (fun y m2 => P.nx ((ev.set i (some x)).set j (some y)) m2) (fun c m => P.xc c ev m)) (fun c m => P.xc c ev m) := by simp [sPar, ws_ofE]
@[simp] theorem ws_sExpr {e : EC} : ws (sExpr e ev m) P = wp (e ev m) (fun d m' => P.nx ev m') (fun c m => P.xc c ev m) := by simp [sExpr, ws_ofE]
@[simp] theorem ws_sRet {e : EC} : ws (sRet e ev m) P = wp (e ev m) (fun d m' => P.rt d m') (fun c m => P.xc c ev m) := by simp [sRet, ws_ofE]
@[simp] theorem ws_sRetN : ws (sRetN ev m) P = P.rt .non m := ws_ret
theorem ws_sIf {t : ET} {a b : SC} : ws (sIf t a b ev m) P = wp (t ev m) (fun c m' => (c = true → ws (a ev m') P) ∧ (c = false → ws (b ev m') P)) (fun c m => P.xc c ev m) := by
  simp only [sIf, ws_ofE]; congr 1; funext c m'; cases c <;> simp
@[simp] theorem ws_sRaise {c : Ecl} : ws (sRaise c ev m) P = P.xc c ev m := ws_exc
theorem ws_sTry {ps : List Ecl} {mt : Ecl → Bool} {b s : SC} (h : ws (b ev m) { P with xc := fun c e m => c ∈ ps ∧ (mt c = true → ws (s e m) { P with xc := fun _ _ _ => False }) ∧ (mt c = false → P.xc c e m) }) : ws (sTryOnly ps mt b s ev m) P := by
  unfold sTryOnly
  cases q : b ev m with
  | exc c e m' =>
    rw [q, ws_exc] at h
    obtain ⟨h1, h2, h3⟩ := h
    simp only [if_pos h1]
    cases hm : mt c with
    | true =>
      have := h2 hm
      simp only [if_true]
      cases q2 : s e m' <;> rw [q2] at this <;> simp at this ⊢ <;> exact this
    | false =>
      simp only [Bool.false_eq_true, if_false, ws_exc]
      exact h3 hm
  | nx _ _ => rw [q] at h; simp at h ⊢; exact h
  | ret _ _ => rw [q] at h; simp at h ⊢; exact h
  | brk _ _ => rw [q] at h; simp at h ⊢; exact h
  | ct _ _ => rw [q] at h; simp at h ⊢; exact h
  | stk => rw [q] at h; simp at h
/-! loops -/
theorem ws_forGo {hold : Mem → Prop} {g : TGt} {b : SC} {xs : List D} (I : Nat → Ev → Mem → Prop) {P : Po}
    (hH : ∀ k ev m, k ≤ xs.length → I k ev m → hold m)
    (step : ∀ (k : Nat) ev m (h : k < xs.length), I k ev m → ∃ ev1, g xs[k] ev m = some ev1 ∧ ws (b ev1 m) ⟨I (k + 1), P.rt, P.nx, I (k + 1), P.xc⟩)
    (fin : ∀ ev m, I xs.length ev m → P.nx ev m) {ev : Ev} {m : Mem} (h0 : I 0 ev m) : ws (forGo hold g b xs ev m) P := by
  have key : ∀ (n k : Nat) (ys : List D), n = ys.length → k + n = xs.length → ys = xs.drop k → ∀ ev m, I k ev m → ws (forGo hold g b ys ev m) P := by
    intro n
    induction n with
    | zero =>
      intro k ys hn hk hy ev m hI
      have : ys = [] := List.length_eq_zero_iff.mp hn.symm
      subst this
      have hk' : k = xs.length := by omega
      unfold forGo
      rw [if_pos (hH k ev m (by omega) hI), ws_nx]
      exact fin _ _ (hk' ▸ hI)
    | succ n ih =>
      intro k ys hn hk hy ev m hI
      have hlt : k < xs.length := by omega
      rw [List.drop_eq_getElem_cons hlt] at hy
      subst hy
      obtain ⟨ev1, hg, hb⟩ := step k ev m hlt hI
      unfold forGo
      rw [if_pos (hH k ev m (by omega) hI)]
      simp only [hg]
      have IH := fun ev m h => ih (k + 1) (xs.drop (k + 1)) (by simp; omega) (by omega) rfl ev m h
      cases q : b ev1 m <;> rw [q] at hb <;> simp at hb ⊢
      · exact IH _ _ hb
      · exact hb
      · exact hb
      · exact IH _ _ hb
      · exact hb
  exact key xs.length 0 xs rfl (by omega) rfl ev m h0
theorem ws_sFor {i : EI} {g : TGt} {b : SC} : ws (sFor i g b ev m) P = wp (i ev m) (fun w m' => ws (forGo w.hold g b w.items ev m') P) (fun c m => P.xc c ev m) := by simp [sFor, ws_ofE]
theorem ws_whGo {t : ET} {b : SC} (I : Nat → Ev → Mem → Prop) {P : Po}
    (step : ∀ (k : Nat) ev m, I k ev m → wp (t ev m) (fun c m1 => (c = true → ∃ j, k = j + 1 ∧ ws (b ev m1) ⟨I j, P.rt, P.nx, I j, P.xc⟩) ∧ (c = false → P.nx ev m1)) (fun c m => P.xc c ev m)) : ∀ (n k : Nat), k < n → ∀ ev m, I k ev m → ws (whGo t b n ev m) P := by
  intro n
  induction n with
  | zero => intro k h; omega
  | succ n ih =>
    intro k hk ev m hI
    have h := step k ev m hI
    unfold whGo
    rw [ws_ofE]
    refine wp_mono h ?_ (fun _ _ h => h)
    rintro c m1 ⟨h1, h2⟩
    cases c with
    | false => simp; exact h2 rfl
    | true =>
      obtain ⟨j, hj, hb⟩ := h1 rfl
      have IH := ih j (by omega)
      simp only [if_true]
      cases q : b ev m1 <;> rw [q] at hb <;> simp at hb ⊢
      · exact IH _ _ hb
      · exact hb
      · exact hb
      · exact IH _ _ hb
      · exact hb
theorem ws_sWhile {t : ET} {b : SC} (I : Nat → Ev → Mem → Prop) {P : Po} (n : Nat) (hn : n < FUEL)
    (step : ∀ (k : Nat) ev m, I k ev m → wp (t ev m) (fun c m1 => (c = true → ∃ j, k = j + 1 ∧ ws (b ev m1) ⟨I j, P.rt, P.nx, I j, P.xc⟩) ∧ (c = false → P.nx ev m1)) (fun c m => P.xc c ev m)) {ev : Ev} {m : Mem} (h0 : I n ev m) : ws (sWhile t b ev m) P :=
  ws_whGo I step FUEL n hn ev m h0
/-! comprehensions -/
theorem wp_lcGo {hold : Mem → Prop} {g : TGt} {t : ET} {e : EC} {ev : Ev} {xs : List D} {Q : List D → Mem → Prop} {X : Ecl → Mem → Prop} (I : Nat → List D → Mem → Prop)
    (hH : ∀ k acc m, k ≤ xs.length → I k acc m → hold m)
    (step : ∀ (k : Nat) acc m (h : k < xs.length), I k acc m → ∃ ev1, g xs[k] ev m = some ev1 ∧ wp (t ev1 m) (fun c m1 => (c = true → wp (e ev1 m1) (fun y m2 => acc.length < SZ ∧ I (k + 1) (acc ++ [y]) m2) (fun _ _ => False)) ∧ (c = false → I (k + 1) acc m1)) (fun _ _ => False))
    (fin : ∀ acc m, I xs.length acc m → Q acc m) {m : Mem} (h0 : I 0 [] m) : wp (lcGo hold g t e ev xs [] m) Q X := by
  have key : ∀ (n k : Nat) (ys : List D), n = ys.length → k + n = xs.length → ys = xs.drop k → ∀ acc m, I k acc m → wp (lcGo hold g t e ev ys acc m) Q X := by
    intro n
    induction n with
    | zero =>
      intro k ys hn hk hy acc m hI
      have : ys = [] := List.length_eq_zero_iff.mp hn.symm
      subst this
      have hk' : k = xs.length := by omega
      unfold lcGo
      rw [if_pos (hH k acc m (by omega) hI), wp_ok]
      exact fin _ _ (hk' ▸ hI)
    | succ n ih =>
      intro k ys hn hk hy acc m hI
      have hlt : k < xs.length := by omega
      rw [List.drop_eq_getElem_cons hlt] at hy
      subst hy
      obtain ⟨ev1, hg, hb⟩ := step k acc m hlt hI
      unfold lcGo
      rw [if_pos (hH k acc m (by omega) hI)]
      simp only [hg]
      have IH := fun acc m h => ih (k + 1) (xs.drop (k + 1)) (by simp; omega) (by omega) rfl acc m h
      cases q : t ev1 m with
      | exc c m1 => rw [q, wp_exc] at hb; exact hb.elim
      | stk => rw [q, wp_stk] at hb; exact hb.elim
      | ok c m1 =>
        rw [q, wp_ok] at hb
        cases c with
        | false => exact IH _ _ (hb.2 rfl)
        | true =>
          have hb := hb.1 rfl
          cases q2 : e ev1 m1 <;> rw [q2] at hb
          · rw [wp_ok] at hb
            simp only [q2]
            rw [if_pos hb.1]
            exact IH _ _ hb.2
          · rw [wp_exc] at hb; exact hb.elim
          · rw [wp_stk] at hb; exact hb.elim
  exact key xs.length 0 xs rfl (by omega) rfl [] m h0
/-- a comprehension that changes nothing -/
theorem lcGo_pure {ι : Type} {hold : Mem → Prop} {g : TGt} {t : ET} {e : EC} {ev : Ev} {m : Mem} (hh : hold m) (enc : ι → D) (ev1 : ι → Ev) (p : ι → Bool) (f : ι → D) : ∀ (ys : List ι) (acc : List D), acc.length + ys.length ≤ SZ → (∀ y ∈ ys, g (enc y) ev m = some (ev1 y)) → (∀ y ∈ ys, t (ev1 y) m = .ok (p y) m) → (∀ y ∈ ys, p y = true → e (ev1 y) m = .ok (f y) m) →
    lcGo hold g t e ev (ys.map enc) acc m = .ok (acc ++ (ys.filter p).map f) m
  | [], acc, _, _, _, _ => by unfold lcGo; simp [hh]
  | y :: ys, acc, hl, h1, h2, h3 => by
    have hg := h1 y (by simp)
    have ht := h2 y (by simp)
    have he := h3 y (by simp)
    simp only [List.length_cons] at hl
    simp only [List.map_cons]
    unfold lcGo
    simp only [if_pos hh, hg, ht]
    cases hp : p y with
    | true =>
      simp only [he hp]
      rw [if_pos (by omega)]
      rw [lcGo_pure hh enc ev1 p f ys _ (by simp; omega) (fun z hz => h1 z (by simp [hz])) (fun z hz => h2 z (by simp [hz])) (fun z hz => h3 z (by simp [hz]))]
      simp [hp]
    | false =>
      simp only []
      rw [lcGo_pure hh enc ev1 p f ys _ (by omega) (fun z hz => h1 z (by simp [hz])) (fun z hz => h2 z (by simp [hz])) (fun z hz => h3 z (by simp [hz]))]
      simp [hp]
@[simp] theorem wp_eLc {nw : Bool} {own : List Nat} {i : EI} {g : TGt} {t : ET} {e : EC} : wp (eLc nw own i g t e ev m) Q X = wp (i ev m) (fun w m1 => wp (lcGo w.hold g t e (wipeE ev own) w.items [] m1) (fun xs m2 => wp (outL nw xs m2) Q X) X) X := by simp [eLc]
/-! defs -/
theorem wp_runB {n : Nat} {b : SC} {ds : List D} : wp (runB n b ds m) Q X = ws (b (evOf n ds) m) ⟨fun _ m => Q .non m, Q, fun _ _ => False, fun _ _ => False, fun c _ m => X c m⟩ := by
  unfold runB
  cases b (evOf n ds) m <;> simp
theorem runF_eq {k n : Nat} {b : SC} {ds : List D} (h : ds.length = k) : runF k n b ds m = runB n b ds m := by rw [runF, if_pos h]
theorem wp_runF {k n : Nat} {b : SC} {ds : List D} (h : ds.length = k) (w : ws (b (evOf n ds) m) ⟨fun _ m => Q .non m, Q, fun _ _ => False, fun _ _ => False, fun c _ m => X c m⟩) : wp (runF k n b ds m) Q X := by
  rw [runF_eq h, wp_runB]; exact w
/-- a pure def gives d -/
theorem runP_ok {k n : Nat} {b : SC} {ds : List D} {d : D} (h : ds.length = k) (fl : flat0 d = true) (w : ws (b (evOf n ds) m) ⟨fun _ m' => m'.take m.length = m ∧ d = .non, fun d' m' => m'.take m.length = m ∧ d' = d, fun _ _ => False, fun _ _ => False, fun _ _ _ => False⟩) : runP k n b ds m = .ok d m := by
  unfold runP
  rw [runF_eq h, runB]
  cases q : b (evOf n ds) m <;> rw [q] at w <;> simp at w
  · simp only []
    obtain ⟨w1, rfl⟩ := w
    rw [if_pos ⟨w1, fl⟩]
  · simp only []
    obtain ⟨w1, rfl⟩ := w
    rw [if_pos ⟨w1, fl⟩]
theorem runP_exc {k n : Nat} {b : SC} {ds : List D} {c : Ecl} (h : ds.length = k) (w : ws (b (evOf n ds) m) ⟨fun _ m' => False, fun _ _ => False, fun _ _ => False, fun _ _ => False, fun c' _ m' => c' = c ∧ m'.take m.length = m⟩) : runP k n b ds m = .exc c m := by
  unfold runP
  rw [runF_eq h, runB]
  cases q : b (evOf n ds) m <;> rw [q] at w <;> simp at w
  case exc =>
    simp only []
    obtain ⟨rfl, w1⟩ := w
    rw [if_pos w1]
end
theorem take_app {m x : Mem} : (m ++ x).take m.length = m := by simp
/-- what holds between two statements -/
theorem ws_cut {a b : SC} {ev : Ev} {m : Mem} {P : Po} (J : Ev → Mem → Prop) (h1 : ws (a ev m) { P with nx := J }) (h2 : ∀ e m, J e m → ws (b e m) P) : ws (sSeq a b ev m) P := by
  rw [ws_sSeq]
  exact ws_mono h1 h2 (fun _ _ h => h) (fun _ _ h => h) (fun _ _ h => h) (fun _ _ _ h => h)
end Lt

set_option Elab.async false
set_option linter.all false
set_option maxRecDepth 100000
/-! T2: rows and their bytes, in plain Lean. -/
namespace Lt
open PySem L2

/-! ### texts -/
theorem str_ext {a b : Str} (h : a.cps.toList = b.cps.toList) : a = b := by
  cases a with | mk a => cases b with | mk b => exact congrArg Str.mk (Array.toList_inj.mp h)
theorem str_len (a : Str) : a.length = a.cps.toList.length := by simp [Str.length]
@[simp] theorem str_app (a b : Str) : (a ++ b).cps.toList = a.cps.toList ++ b.cps.toList := by
  show (a.cps ++ b.cps).toList = _
  simp
theorem str_app_len (a b : Str) : (a ++ b).length = a.length + b.length := by simp [str_len]
def okc (c : Nat) : Bool := decide (32 ≤ c) && decide (c < 127) && decide (c ≠ 37)
def okI (c : Int) : Bool := decide (32 ≤ c) && decide (c < 127) && decide (c ≠ 37)
def strOf (bs : List Int) : Str := ⟨(bs.map Int.toNat).toArray⟩
def ords (s : Str) : List Int := s.cps.toList.map fun (c : Nat) => (c : Int)
theorem ords_len (s : Str) : (ords s).length = s.length := by simp [ords, str_len]
theorem ords_app (a b : Str) : ords (a ++ b) = ords a ++ ords b := by simp [ords]
theorem strOf_ords (s : Str) : strOf (ords s) = s := str_ext (by simp [strOf, ords, Function.comp_def])
theorem ords_strOf (bs : List Int) (h : ∀ b ∈ bs, 0 ≤ b) : ords (strOf bs) = bs := by
  simp only [ords, strOf, List.map_map]
  conv => rhs; rw [← List.map_id bs]
  refine List.map_congr_left fun b hb => ?_
  have := h b hb
  simp only [Function.comp, id]
  omega
theorem strOf_len (bs : List Int) : (strOf bs).length = bs.length := by simp [strOf, str_len]
theorem okI_ords (s : Str) : (ords s).all okI = s.cps.toList.all okc := by
  simp only [ords, List.all_map]
  refine congrArg (fun f => List.all s.cps.toList f) (funext fun c => ?_)
  simp only [Function.comp, okI, okc]
  congr 1
  · congr 1 <;> exact decide_eq_decide.mpr (by omega)
  · exact decide_eq_decide.mpr (by omega)
def txtOk (s : Str) (lo hi : Nat) : Bool := decide (lo ≤ s.length) && decide (s.length ≤ hi) && s.cps.toList.all okc
theorem lit_len_put : ("put" : Str).length = 3 := by decide +kernel

/-! ### numbers -/
def numL : Int → Nat → List Int
  | _, 0 => []
  | n, k + 1 => (n % 256) :: numL (n / 256) k
def numB (n : Int) (k : Nat) : List Int := (numL n k).reverse
def numOf (bs : List Int) : Int := bs.foldl (fun a b => 256 * a + b) 0
theorem numL_len : ∀ (n : Int) (k : Nat), (numL n k).length = k
  | _, 0 => rfl
  | n, k + 1 => by simp [numL, numL_len (n / 256) k]
theorem numB_len (n : Int) (k : Nat) : (numB n k).length = k := by simp [numB, numL_len]
theorem numB_succ (n : Int) (k : Nat) : numB n (k + 1) = numB (n / 256) k ++ [n % 256] := by simp [numB, numL]
theorem numOf_app (bs : List Int) (b : Int) : numOf (bs ++ [b]) = 256 * numOf bs + b := by simp [numOf]
theorem numB_byte (n : Int) : ∀ (k : Nat), ∀ b ∈ numB n k, 0 ≤ b ∧ b < 256 := by
  intro k
  induction k generalizing n with
  | zero => intro b hb; simp [numB, numL] at hb
  | succ k ih =>
    intro b hb
    rw [numB_succ, List.mem_append] at hb
    rcases hb with hb | hb
    · exact ih _ b hb
    · simp at hb; omega
theorem numOf_numB : ∀ (k : Nat) (n : Int), 0 ≤ n → n < 256 ^ k → numOf (numB n k) = n
  | 0, n, h0, h1 => by simp [numB, numL, numOf]; omega
  | k + 1, n, h0, h1 => by
    rw [numB_succ, numOf_app, numOf_numB k (n / 256) (by omega) (by rw [Int.pow_succ] at h1; omega)]
    omega
theorem numB_numOf (bs : List Int) (h : ∀ b ∈ bs, 0 ≤ b ∧ b < 256) : numB (numOf bs) bs.length = bs := by
  have key : ∀ (k : Nat) (bs : List Int), bs.length = k → (∀ b ∈ bs, 0 ≤ b ∧ b < 256) → numB (numOf bs) k = bs := by
    intro k
    induction k with
    | zero => intro bs hl _; simp [List.length_eq_zero_iff.mp hl, numB, numL]
    | succ k ih =>
      intro bs hl hb
      obtain ⟨cs, c, rfl⟩ : ∃ cs c, bs = cs ++ [c] := by
        have hne : bs ≠ [] := by intro e; simp [e] at hl
        exact ⟨bs.dropLast, bs.getLast hne, (List.dropLast_concat_getLast hne).symm⟩
      have hc := hb c (by simp)
      rw [numOf_app, numB_succ]
      have e1 : (256 * numOf cs + c) / 256 = numOf cs := by omega
      have e2 : (256 * numOf cs + c) % 256 = c := by omega
      rw [e1, e2, ih cs (by simpa using hl) (fun b hb' => hb b (by simp [hb']))]
  exact key _ bs rfl h
theorem numOf_nonneg (bs : List Int) (h : ∀ b ∈ bs, 0 ≤ b) : 0 ≤ numOf bs := by
  have key : ∀ (bs : List Int) (a : Int), 0 ≤ a → (∀ b ∈ bs, 0 ≤ b) → 0 ≤ bs.foldl (fun a b => 256 * a + b) a := by
    intro bs
    induction bs with
    | nil => intro a ha _; exact ha
    | cons b bs ih =>
      intro a ha h
      have := h b (by simp)
      exact ih _ (by show 0 ≤ 256 * a + b; omega) (fun c hc => h c (by simp [hc]))
  exact key bs 0 (by omega) h
theorem numB_two {o : Int} (h0 : 0 ≤ o) (h1 : o < 65536) : numB o 2 = [o / 256, o % 256] := by
  simp [numB, numL]; omega
theorem numB_four {o : Int} (h0 : 0 ≤ o) (h1 : o < 4294967296) : numB o 4 = [o / 16777216, o / 65536 % 256, o / 256 % 256, o % 256] := by
  simp [numB, numL]; omega

/-! ### sums -/
def sumF (bs : List Int) (p : Int × Int) : Int × Int := bs.foldl (fun p b => ((p.1 + b) % 65521, (p.2 + (p.1 + b) % 65521) % 65521)) p
def sums (bs : List Int) : List Int := numB (sumF bs (1, 0)).2 2 ++ numB (sumF bs (1, 0)).1 2
theorem sumF_rng : ∀ (bs : List Int) (p : Int × Int), 0 ≤ p.1 → p.1 < 65521 → 0 ≤ p.2 → p.2 < 65521 → 0 ≤ (sumF bs p).1 ∧ (sumF bs p).1 < 65521 ∧ 0 ≤ (sumF bs p).2 ∧ (sumF bs p).2 < 65521
  | [], p, h1, h2, h3, h4 => ⟨h1, h2, h3, h4⟩
  | b :: bs, p, h1, h2, h3, h4 => by
    show 0 ≤ (sumF bs _).1 ∧ _
    refine sumF_rng bs _ ?_ ?_ ?_ ?_ <;> simp only [] <;> omega
theorem sums_len (bs : List Int) : (sums bs).length = 4 := by simp [sums, numB_len]
theorem sums_byte (bs : List Int) : ∀ b ∈ sums bs, 0 ≤ b ∧ b < 256 := by
  intro b hb
  rcases List.mem_append.mp hb with hb | hb
  · exact numB_byte _ _ b hb
  · exact numB_byte _ _ b hb
theorem sums_four (bs : List Int) : sums bs = [(sumF bs (1, 0)).2 / 256, (sumF bs (1, 0)).2 % 256, (sumF bs (1, 0)).1 / 256, (sumF bs (1, 0)).1 % 256] := by
  obtain ⟨h1, h2, h3, h4⟩ := sumF_rng bs (1, 0) (by decide) (by decide) (by decide) (by decide)
  rw [sums, numB_two h3 (by omega), numB_two h1 (by omega)]
  rfl

/-! ### rows -/
structure Row where
  k : Str
  n : Int
  key : Str
  val : Str
  deriving DecidableEq
def kinds : List Str := ["", "put", "drop", "begin", "end", "thin"]
def rowD (r : Row) : D := .tup [.str r.k, .int r.n, .str r.key, .str r.val]
def isPD (k : Str) : Bool := decide (k = "put") || decide (k = "drop")
def isKind (k : Str) : Bool := decide (k = "put") || decide (k = "drop") || decide (k = "begin") || decide (k = "end") || decide (k = "thin")
def rowOk (r : Row) : Bool := isKind r.k && decide (1 ≤ r.n) && decide (r.n ≤ 999999999) && (if isPD r.k then txtOk r.key 1 40 else decide (r.key = "")) && (if r.k = "put" then txtOk r.val 0 400 else decide (r.val = ""))
def kidx (k : Str) : Int := if k = "put" then 1 else if k = "drop" then 2 else if k = "begin" then 3 else if k = "end" then 4 else 5
def body (r : Row) : List Int := kidx r.k :: (numB r.n 4 ++ ((r.key.length : Int) :: (numB r.val.length 2 ++ ords (r.key ++ r.val))))
def enc (r : Row) : List Int := sums (body r) ++ body r
def kindAt (i : Int) : Str := if i = 1 then "put" else if i = 2 then "drop" else if i = 3 then "begin" else if i = 4 then "end" else "thin"
/-- the row that bytes begin with, and how many are its own -/
def rowOf : List Int → Option (Row × Nat)
  | c0 :: c1 :: c2 :: c3 :: kd :: n0 :: n1 :: n2 :: n3 :: kl :: v0 :: v1 :: t =>
    let kn := kl.toNat
    let vn := (numOf [v0, v1]).toNat
    if 1 ≤ kd ∧ kd < 6 ∧ kn + vn ≤ t.length ∧ sums (kd :: n0 :: n1 :: n2 :: n3 :: kl :: v0 :: v1 :: t.take (kn + vn)) = [c0, c1, c2, c3] ∧ (t.take kn).all okI = true ∧ ((t.drop kn).take vn).all okI = true then
      let r : Row := ⟨kindAt kd, numOf [n0, n1, n2, n3], strOf (t.take kn), strOf ((t.drop kn).take vn)⟩
      if rowOk r = true then some (r, 12 + kn + vn) else none
    else none
  | _ => none
def rowAt (bs : List Int) (at' : Nat) : Option (Row × Nat) := (rowOf (bs.drop at')).map fun p => (p.1, at' + p.2)
def Bytes (bs : List Int) : Prop := ∀ b ∈ bs, 0 ≤ b ∧ b < 256
theorem isKind_cases {k : Str} (h : isKind k = true) : k = "put" ∨ k = "drop" ∨ k = "begin" ∨ k = "end" ∨ k = "thin" := by
  simpa [isKind, or_assoc] using h
theorem kindAt_kidx {k : Str} (h : isKind k = true) : kindAt (kidx k) = k := by
  rcases isKind_cases h with rfl | rfl | rfl | rfl | rfl <;> decide +kernel
theorem kidx_rng (k : Str) : 1 ≤ kidx k ∧ kidx k < 6 := by
  unfold kidx
  repeat' split
  all_goals decide
theorem kidx_kindAt {i : Int} (h1 : 1 ≤ i) (h2 : i < 6) : kidx (kindAt i) = i := by
  have : i = 1 ∨ i = 2 ∨ i = 3 ∨ i = 4 ∨ i = 5 := by omega
  rcases this with rfl | rfl | rfl | rfl | rfl <;> decide +kernel
theorem isKind_kindAt (i : Int) : isKind (kindAt i) = true := by
  unfold kindAt
  repeat' split
  all_goals decide +kernel
structure RowOk (r : Row) : Prop where
  kind : isKind r.k = true
  n1 : 1 ≤ r.n
  n2 : r.n ≤ 999999999
  kl : r.key.length ≤ 40
  vl : r.val.length ≤ 400
  kc : r.key.cps.toList.all okc = true
  vc : r.val.cps.toList.all okc = true
theorem rowOk_of {r : Row} (h : rowOk r = true) : RowOk r := by
  simp only [rowOk, Bool.and_eq_true, decide_eq_true_eq] at h
  obtain ⟨⟨⟨⟨h1, h2⟩, h3⟩, h4⟩, h5⟩ := h
  have e0 : ("" : Str).length = 0 := by decide +kernel
  have e1 : ("" : Str).cps.toList.all okc = true := by decide +kernel
  have A : r.key.length ≤ 40 ∧ r.key.cps.toList.all okc = true := by
    split at h4
    · simp only [txtOk, Bool.and_eq_true, decide_eq_true_eq] at h4; exact ⟨h4.1.2, h4.2⟩
    · have : r.key = "" := by simpa using h4
      rw [this]; exact ⟨by omega, e1⟩
  have B : r.val.length ≤ 400 ∧ r.val.cps.toList.all okc = true := by
    split at h5
    · simp only [txtOk, Bool.and_eq_true, decide_eq_true_eq] at h5; exact ⟨h5.1.2, h5.2⟩
    · have : r.val = "" := by simpa using h5
      rw [this]; exact ⟨by omega, e1⟩
  exact ⟨h1, h2, h3, A.1, B.1, A.2, B.2⟩
theorem body_len (r : Row) : (body r).length = 8 + r.key.length + r.val.length := by
  simp [body, numB_len, ords_len, str_app_len]; omega
theorem enc_len (r : Row) : (enc r).length = 12 + r.key.length + r.val.length := by
  simp [enc, sums_len, body_len]; omega
theorem enc_pos (r : Row) : 0 < (enc r).length := by rw [enc_len]; omega
theorem ords_byte {s : Str} (h : s.cps.toList.all okc = true) : Bytes (ords s) := by
  intro b hb
  obtain ⟨c, hc, rfl⟩ := List.mem_map.mp hb
  have := List.all_eq_true.mp h c hc
  simp only [okc, Bool.and_eq_true, decide_eq_true_eq] at this
  omega
theorem bytes_app {a b : List Int} : Bytes (a ++ b) ↔ Bytes a ∧ Bytes b :=
  ⟨fun h => ⟨fun x hx => h x (List.mem_append_left _ hx), fun x hx => h x (List.mem_append_right _ hx)⟩, fun h x hx => (List.mem_append.mp hx).elim (h.1 x) (h.2 x)⟩
theorem bytes_cons {a : Int} {b : List Int} : Bytes (a :: b) ↔ (0 ≤ a ∧ a < 256) ∧ Bytes b :=
  ⟨fun h => ⟨h a (by simp), fun x hx => h x (by simp [hx])⟩, fun h x hx => by rcases List.mem_cons.mp hx with rfl | hx; exact h.1; exact h.2 x hx⟩
theorem bytes_nil : Bytes [] := fun _ h => by cases h
theorem Bytes.drop {a : List Int} (h : Bytes a) (k : Nat) : Bytes (a.drop k) := fun x hx => h x (List.mem_of_mem_drop hx)
theorem Bytes.take {a : List Int} (h : Bytes a) (k : Nat) : Bytes (a.take k) := fun x hx => h x (List.mem_of_mem_take hx)
theorem body_bytes {r : Row} (h : RowOk r) : Bytes (body r) := by
  have hk := kidx_rng r.k
  have := h.kl
  simp only [body, bytes_cons, bytes_app]
  refine ⟨by omega, numB_byte _ _, by omega, numB_byte _ _, ?_⟩
  rw [ords_app, bytes_app]
  exact ⟨ords_byte h.kc, ords_byte h.vc⟩
theorem enc_bytes {r : Row} (h : RowOk r) : Bytes (enc r) := bytes_app.mpr ⟨sums_byte _, body_bytes h⟩
theorem numB4 (n : Int) : ∃ a b c d, numB n 4 = [a, b, c, d] := ⟨_, _, _, _, rfl⟩
theorem numB2 (n : Int) : ∃ a b, numB n 2 = [a, b] := ⟨_, _, rfl⟩
/-- a row's bytes are read as the row -/
theorem rowOf_enc {r : Row} (h : rowOk r = true) (t : List Int) : rowOf (enc r ++ t) = some (r, (enc r).length) := by
  have R := rowOk_of h
  obtain ⟨n0, n1, n2, n3, hn⟩ := numB4 r.n
  obtain ⟨v0, v1, hv⟩ := numB2 (r.val.length : Int)
  have en : numOf [n0, n1, n2, n3] = r.n := by rw [← hn]; exact numOf_numB 4 _ (by have := R.n1; omega) (by have := R.n2; omega)
  have ev : numOf [v0, v1] = (r.val.length : Int) := by rw [← hv]; exact numOf_numB 2 _ (by omega) (by have := R.vl; omega)
  have eb : body r = kidx r.k :: n0 :: n1 :: n2 :: n3 :: (r.key.length : Int) :: v0 :: v1 :: (ords r.key ++ ords r.val) := by simp [body, hn, hv, ords_app]
  have es := sums_four (body r)
  generalize (sumF (body r) (1, 0)).2 / 256 = c0 at es
  generalize (sumF (body r) (1, 0)).2 % 256 = c1 at es
  generalize (sumF (body r) (1, 0)).1 / 256 = c2 at es
  generalize (sumF (body r) (1, 0)).1 % 256 = c3 at es
  have ee : enc r ++ t = c0 :: c1 :: c2 :: c3 :: kidx r.k :: n0 :: n1 :: n2 :: n3 :: (r.key.length : Int) :: v0 :: v1 :: (ords r.key ++ ords r.val ++ t) := by
    rw [enc, es, eb]; simp
  rw [ee]
  have l1 : (ords r.key).length = r.key.length := ords_len _
  have l2 : (ords r.val).length = r.val.length := ords_len _
  have t1 : (ords r.key ++ ords r.val ++ t).take (r.key.length + r.val.length) = ords r.key ++ ords r.val := by
    rw [← l1, ← l2, ← List.length_append, List.take_left]
  have t2 : (ords r.key ++ ords r.val ++ t).take r.key.length = ords r.key := by
    rw [List.append_assoc, ← l1, List.take_left]
  have t3 : ((ords r.key ++ ords r.val ++ t).drop r.key.length).take r.val.length = ords r.val := by
    rw [List.append_assoc, ← l1, List.drop_left, ← l2, List.take_left]
  have er : (⟨kindAt (kidx r.k), r.n, r.key, r.val⟩ : Row) = r := by rw [kindAt_kidx R.kind]
  show (if _ then _ else none) = _
  rw [if_pos]
  · show (if rowOk ⟨kindAt (kidx r.k), numOf [n0, n1, n2, n3], strOf ((ords r.key ++ ords r.val ++ t).take (r.key.length : Int).toNat), strOf (((ords r.key ++ ords r.val ++ t).drop (r.key.length : Int).toNat).take (numOf [v0, v1]).toNat)⟩ = true then _ else none) = _
    rw [en, ev, Int.toNat_natCast, Int.toNat_natCast, t2, t3, strOf_ords, strOf_ords, er, if_pos h, enc_len]
  · rw [ev, Int.toNat_natCast, Int.toNat_natCast, t1, t2, t3]
    refine ⟨(kidx_rng _).1, (kidx_rng _).2, by simp [l1, l2], ?_, by rw [okI_ords]; exact R.kc, by rw [okI_ords]; exact R.vc⟩
    rw [← eb]; exact es
/-- .. and what is read is a row whose bytes stand there -/
theorem enc_rowOf {s : List Int} (hb : Bytes s) {r : Row} {e : Nat} (h : rowOf s = some (r, e)) : rowOk r = true ∧ e = (enc r).length ∧ enc r = s.take e ∧ e ≤ s.length := by
  unfold rowOf at h
  split at h
  · rename_i c0 c1 c2 c3 kd n0 n1 n2 n3 kl v0 v1 t
    simp only [] at h
    split at h
    · rename_i hc
      obtain ⟨k1, k2, hl, hs, ho1, ho2⟩ := hc
      split at h
      · rename_i hr
        simp only [bytes_cons] at hb
        obtain ⟨b0, b1, b2, b3, b4, b5, b6, b7, b8, b9, b10, b11, bt⟩ := hb
        cases h
        have n1' : numB (numOf [n0, n1, n2, n3]) 4 = [n0, n1, n2, n3] := numB_numOf [n0, n1, n2, n3] (by simpa using ⟨b5, b6, b7, b8⟩)
        have n2' : numB (numOf [v0, v1]) 2 = [v0, v1] := numB_numOf [v0, v1] (by simpa using ⟨b10, b11⟩)
        have nn : 0 ≤ numOf [v0, v1] := numOf_nonneg _ (by simp; omega)
        have kk : (kl.toNat : Int) = kl := Int.toNat_of_nonneg b9.1
        have vv : ((numOf [v0, v1]).toNat : Int) = numOf [v0, v1] := Int.toNat_of_nonneg nn
        have lt : (t.take kl.toNat).length = kl.toNat := by rw [List.length_take]; omega
        have ltv : ((t.drop kl.toNat).take (numOf [v0, v1]).toNat).length = (numOf [v0, v1]).toNat := by rw [List.length_take, List.length_drop]; omega
        have eb : body ⟨kindAt kd, numOf [n0, n1, n2, n3], strOf (t.take kl.toNat), strOf ((t.drop kl.toNat).take (numOf [v0, v1]).toNat)⟩ = kd :: n0 :: n1 :: n2 :: n3 :: kl :: v0 :: v1 :: t.take (kl.toNat + (numOf [v0, v1]).toNat) := by
          simp only [body, strOf_len, lt, ltv, kk, vv, n1', n2', kidx_kindAt k1 k2, ords_app]
          rw [ords_strOf _ (fun b hb => (bt.take _ b hb).1), ords_strOf _ (fun b hb => ((bt.drop _).take _ b hb).1), List.take_add]
          rfl
        have ee : enc ⟨kindAt kd, numOf [n0, n1, n2, n3], strOf (t.take kl.toNat), strOf ((t.drop kl.toNat).take (numOf [v0, v1]).toNat)⟩ = c0 :: c1 :: c2 :: c3 :: kd :: n0 :: n1 :: n2 :: n3 :: kl :: v0 :: v1 :: t.take (kl.toNat + (numOf [v0, v1]).toNat) := by
          rw [enc, eb, hs]; rfl
        refine ⟨hr, ?_, ?_, by simp; omega⟩
        · rw [enc_len]; simp only [strOf_len, lt, ltv]
        · rw [ee]
          have : 12 + kl.toNat + (numOf [v0, v1]).toNat = (kl.toNat + (numOf [v0, v1]).toNat) + 12 := by omega
          rw [this]
          simp only [List.take_succ_cons]
      · cases h
    · cases h
  · cases h
theorem rowOf_iff {s : List Int} (hb : Bytes s) {r : Row} {e : Nat} : rowOf s = some (r, e) ↔ rowOk r = true ∧ e = (enc r).length ∧ ∃ t, s = enc r ++ t := by
  constructor
  · intro h
    obtain ⟨h1, h2, h3, h4⟩ := enc_rowOf hb h
    exact ⟨h1, h2, s.drop e, by rw [h3, List.take_append_drop]⟩
  · rintro ⟨h1, rfl, t, rfl⟩
    exact rowOf_enc h1 t
theorem rowAt_iff {bs : List Int} (hb : Bytes bs) {at' : Nat} {r : Row} {e : Nat} : rowAt bs at' = some (r, e) ↔ rowOk r = true ∧ e = at' + (enc r).length ∧ ∃ t, bs.drop at' = enc r ++ t := by
  unfold rowAt
  cases h : rowOf (bs.drop at') with
  | none =>
    simp only [Option.map_none]
    constructor
    · intro h; cases h
    · rintro ⟨h1, -, t, ht⟩
      rw [ht, rowOf_enc h1 t] at h; cases h
  | some p =>
    obtain ⟨r', e'⟩ := p
    simp only [Option.map_some, Option.some.injEq, Prod.mk.injEq]
    have := (rowOf_iff (hb.drop at')).mp h
    constructor
    · rintro ⟨rfl, rfl⟩
      obtain ⟨h1, h2, t, ht⟩ := this
      exact ⟨h1, by rw [h2], t, ht⟩
    · rintro ⟨h1, h2, t, ht⟩
      have := (rowOf_enc h1 t)
      rw [← ht, h] at this
      cases this
      exact ⟨rfl, h2.symm⟩
theorem rowAt_enc {a b : List Int} {r : Row} (h : rowOk r = true) : rowAt (a ++ (enc r ++ b)) a.length = some (r, a.length + (enc r).length) := by
  unfold rowAt
  rw [List.drop_left, rowOf_enc h b]
  rfl
/-- a row's bytes, some of them lacking at the end, are none's -/
theorem rowOf_short {r : Row} (h : rowOk r = true) {k : Nat} (hk : k < (enc r).length) : rowOf ((enc r).take k) = none := by
  cases q : rowOf ((enc r).take k) with
  | none => rfl
  | some p =>
    obtain ⟨r', e'⟩ := p
    have hb : Bytes ((enc r).take k) := (enc_bytes (rowOk_of h)).take k
    obtain ⟨h1, h2, t, ht⟩ := (rowOf_iff hb).mp q
    have := rowOf_enc h1 (t ++ (enc r).drop k)
    rw [← List.append_assoc, ← ht, List.take_append_drop] at this
    have h3 := rowOf_enc h []
    rw [List.append_nil, this] at h3
    have hr := (Prod.mk.inj (Option.some.inj h3)).1
    subst hr
    have : ((enc r').take k).length = (enc r').length + t.length := by
      conv => lhs; rw [ht]
      simp
    rw [List.length_take] at this
    omega
end Lt

set_option Elab.async false
set_option linter.all false
set_option maxRecDepth 100000
/-! T3: operators, built-ins and methods, read backwards. -/
namespace Lt
open PySem L2
section
variable {Q : D → Mem → Prop} {X : Ecl → Mem → Prop} {m : Mem} {ev : Ev} {nw : Bool}
@[simp] theorem wp_outT {xs} : wp (outL true xs m) Q X = (xs.length ≤ SZ ∧ Q (.ref m.length) (m ++ [.lst xs])) := by
  show wp (if _ then _ else _) Q X = _
  rw [wp_ite]; simp; constructor
  · intro h; exact ⟨Classical.byContradiction fun c => by have := h.2; omega, h.1 (Classical.byContradiction fun c => by have := h.2; omega)⟩
  · intro h; exact ⟨fun _ => h.2, h.1⟩
@[simp] theorem wp_outF {xs} : wp (outL false xs m) Q X = (xs.length ≤ SZ ∧ Q (.lst xs) m) := by
  show wp (if _ then _ else _) Q X = _
  rw [wp_ite]; simp; constructor
  · intro h; exact ⟨Classical.byContradiction fun c => by have := h.2; omega, h.1 (Classical.byContradiction fun c => by have := h.2; omega)⟩
  · intro h; exact ⟨fun _ => h.2, h.1⟩
theorem wp_gd {α : Type} {c : Prop} [Decidable c] {a : R α} {Q : α → Mem → Prop} : wp (if c then a else .stk) Q X = (c ∧ wp a Q X) := by
  by_cases h : c <;> simp [h]
theorem wp_opt {α β : Type} {o : Option β} {f : β → R α} {Q : α → Mem → Prop} : wp (match o with | some a => f a | none => .stk) Q X = ∃ a, o = some a ∧ wp (f a) Q X := by
  cases o <;> simp
theorem wp_opl {n : Nat} {α : Type} {f : List D → R α} {Q : α → Mem → Prop} : wp (match rdL (.ref n) m with | some a => f a | none => .stk) Q X = ∃ xs, m[n]? = some (.lst xs) ∧ wp (f xs) Q X := by
  cases h : rdL (.ref n) m with
  | none => simp; intro xs hx; simp [rdL, hx] at h
  | some xs => simp [rdL_ref h]
theorem wp_opc {n : Nat} {α : Type} {f : List D → R α} {Q : α → Mem → Prop} : wp (match m[n]? with | some (.lst xs) => f xs | _ => .stk) Q X = ∃ xs, m[n]? = some (.lst xs) ∧ wp (f xs) Q X := by
  cases h : m[n]? with
  | none => simp
  | some c => cases c <;> simp
theorem wp_gdk {α : Type} {c : Prop} [Decidable c] {a : α} {Q : α → Mem → Prop} : wp (if c then .ok a m else .stk) Q X = (c ∧ Q a m) := by rw [wp_gd, wp_ok]
theorem wp_oplk {n : Nat} {α : Type} {f : List D → α} {Q : α → Mem → Prop} : wp (match rdL (.ref n) m with | some a => .ok (f a) m | none => .stk) Q X = ∃ xs, m[n]? = some (.lst xs) ∧ Q (f xs) m :=
  (wp_opl (f := fun xs => .ok (f xs) m)).trans (by simp)
@[simp] theorem wp_mkT {xs} : wp (mkT xs m) Q X = (xs.length ≤ SZ ∧ Q (.tup xs) m) := wp_gdk
@[simp] theorem oAdd_ii {i j} : wp (oAdd nw (.int i) (.int j) m) Q X = Q (.int (i + j)) m := wp_ok
@[simp] theorem oAdd_ss {a b} : wp (oAdd nw (.str a) (.str b) m) Q X = (a.length + b.length ≤ SZ ∧ Q (.str (a ++ b)) m) := wp_gdk
@[simp] theorem oAdd_tt {a b} : wp (oAdd nw (.tup a) (.tup b) m) Q X = (a.length + b.length ≤ SZ ∧ Q (.tup (a ++ b)) m) := wp_gdk
@[simp] theorem oAdd_ll {a b} : wp (oAdd nw (.lst a) (.lst b) m) Q X = (a.length + b.length ≤ SZ ∧ wp (outL nw (a ++ b) m) Q X) := wp_gd
@[simp] theorem oAdd_rl {i b} : wp (oAdd nw (.ref i) (.lst b) m) Q X = ∃ a, m[i]? = some (.lst a) ∧ a.length + b.length ≤ SZ ∧ wp (outL nw (a ++ b) m) Q X := by
  cases h : m[i]? with
  | none => simp [oAdd, rdW, h]
  | some c => cases c <;> simp only [oAdd, rdW, h, wp_gd] <;> simp
@[simp] theorem oAdd_lr {i a} : wp (oAdd nw (.lst a) (.ref i) m) Q X = ∃ b, m[i]? = some (.lst b) ∧ a.length + b.length ≤ SZ ∧ wp (outL nw (a ++ b) m) Q X := by
  cases h : m[i]? with
  | none => simp [oAdd, rdW, h]
  | some c => cases c <;> simp only [oAdd, rdW, h, wp_gd] <;> simp
@[simp] theorem oSub_ii {i j} : wp (oSub (.int i) (.int j) m) Q X = Q (.int (i - j)) m := wp_ok
@[simp] theorem oMul_ii {i j} : wp (oMul (.int i) (.int j) m) Q X = (((-(2 ^ 64) < i ∧ i < 2 ^ 64) ∨ (-(2 ^ 64) < j ∧ j < 2 ^ 64)) ∧ Q (.int (i * j)) m) := wp_gdk
@[simp] theorem oFdiv_ii {i j} : wp (oFdiv (.int i) (.int j) m) Q X = ((0 < j ∧ j < 1073741824) ∧ Q (.int (i / j)) m) := wp_gdk
@[simp] theorem oMod_ii {i j} : wp (oMod (.int i) (.int j) m) Q X = (0 < j ∧ Q (.int (i % j)) m) := wp_gdk
@[simp] theorem oPow_ii {i j} : wp (oPow (.int i) (.int j) m) Q X = ((0 ≤ j ∧ j ≤ 1000000 ∧ i.natAbs < 2 ^ 64) ∧ Q (.int (i ^ j.toNat)) m) := wp_gdk
@[simp] theorem oRep_s {z n} : wp (oRep nw (.str z) (.int n) m) Q X = ((0 ≤ n ∧ n ≤ 1000000 ∧ z.length * n.toNat ≤ SZ) ∧ Q (.str (repS z n)) m) := wp_gdk
@[simp] theorem oRep_l {z n} : wp (oRep nw (.lst z) (.int n) m) Q X = ((-(2 ^ 63) ≤ n ∧ n < 2 ^ 63 ∧ z.length * n.toNat ≤ SZ) ∧ wp (outL nw (List.replicate n.toNat z).flatten m) Q X) := wp_gd
@[simp] theorem oLt_ii {i j} : wp (oLt (.int i) (.int j) m) Q X = Q (.bl (decide (i < j))) m := wp_ok
@[simp] theorem oLe_ii {i j} : wp (oLe (.int i) (.int j) m) Q X = Q (.bl (decide (i ≤ j))) m := wp_ok
@[simp] theorem oGt_ii {i j} : wp (oGt (.int i) (.int j) m) Q X = Q (.bl (decide (j < i))) m := wp_ok
@[simp] theorem oGe_ii {i j} : wp (oGe (.int i) (.int j) m) Q X = Q (.bl (decide (j ≤ i))) m := wp_ok
@[simp] theorem oLt_ss {i j} : wp (oLt (.str i) (.str j) m) Q X = Q (.bl (strLt i j)) m := wp_ok
@[simp] theorem oLe_ss {i j} : wp (oLe (.str i) (.str j) m) Q X = Q (.bl (!strLt j i)) m := wp_ok
@[simp] theorem oGt_ss {i j} : wp (oGt (.str i) (.str j) m) Q X = Q (.bl (strLt j i)) m := wp_ok
@[simp] theorem oGe_ss {i j} : wp (oGe (.str i) (.str j) m) Q X = Q (.bl (!strLt i j)) m := wp_ok
@[simp] theorem wp_oEq {x y} : wp (oEq x y m) Q X = ∃ b, eqD x y m = some b ∧ Q (.bl b) m := by
  unfold oEq; cases h : eqD x y m <;> simp
@[simp] theorem wp_oNe {x y} : wp (oNe x y m) Q X = ∃ b, eqD x y m = some b ∧ Q (.bl (!b)) m := by
  unfold oNe; cases h : eqD x y m <;> simp
@[simp] theorem eqD_ii {i j} : eqD (.int i) (.int j) m = some (decide (i = j)) := rfl
@[simp] theorem eqD_ss {i j} : eqD (.str i) (.str j) m = some (decide (i = j)) := rfl
@[simp] theorem eqD_bb {i j} : eqD (.bl i) (.bl j) m = some (decide (i = j)) := rfl
@[simp] theorem eqD_nn : eqD .non .non m = some true := rfl
@[simp] theorem eqD_ni {j} : eqD .non (.int j) m = some false := rfl
@[simp] theorem eqD_in {j} : eqD (.int j) .non m = some false := rfl
@[simp] theorem eqD_ns {j} : eqD .non (.str j) m = some false := rfl
@[simp] theorem eqD_sn {j} : eqD (.str j) .non m = some false := rfl
@[simp] theorem oIsN_n {x} : wp (oIsN x .non m) Q X = Q (.bl (match x with | .non => true | _ => false)) m := by cases x <;> exact wp_ok
@[simp] theorem oNotN_n {x} : wp (oNotN x .non m) Q X = Q (.bl (match x with | .non => false | _ => true)) m := by cases x <;> exact wp_ok
@[simp] theorem wp_oIn {x y} : wp (oIn x y m) Q X = ∃ b, inD x y m = some b ∧ Q (.bl b) m := by
  unfold oIn; cases h : inD x y m <;> simp
@[simp] theorem wp_oNotIn {x y} : wp (oNotIn x y m) Q X = ∃ b, inD x y m = some b ∧ Q (.bl (!b)) m := by
  unfold oNotIn; cases h : inD x y m <;> simp
@[simp] theorem oNeg_i {i} : wp (oNeg (.int i) m) Q X = Q (.int (-i)) m := wp_ok
@[simp] theorem rdL_lst {xs} : rdL (.lst xs) m = some xs := rfl
@[simp] theorem rdL_klst {xs} : rdL (.klst xs) m = some xs := rfl
@[simp] theorem rdW_lst {xs} : rdW (.lst xs) m = some xs := rfl
@[simp] theorem rdL_rf {n xs} : rdL (.ref n) m = some xs ↔ m[n]? = some (.lst xs) := by
  constructor
  · exact rdL_ref
  · intro h; simp [rdL, h]
@[simp] theorem rdW_rf {n xs} : rdW (.ref n) m = some xs ↔ m[n]? = some (.lst xs) := by
  constructor
  · exact rdW_ref
  · intro h; simp [rdW, h]
@[simp] theorem rdK_dic {kvs} : rdK (.dic kvs) m = some kvs := rfl
@[simp] theorem oIx_t {xs i} : wp (oIx (.tup xs) (.int i) m) Q X = ∃ d, atI xs i = some d ∧ Q d m := by
  show wp (match atI xs i with | some d => R.ok d m | none => .stk) Q X = _
  cases atI xs i <;> simp
@[simp] theorem oIx_l {xs i} : wp (oIx (.lst xs) (.int i) m) Q X = ∃ d, atI xs i = some d ∧ Q d m := by
  show wp (match atI xs i with | some d => R.ok d m | none => .stk) Q X = _
  cases atI xs i <;> simp
@[simp] theorem oIx_k {xs i} : wp (oIx (.klst xs) (.int i) m) Q X = ∃ d, atI xs i = some d ∧ Q d m := by
  show wp (match atI xs i with | some d => R.ok d m | none => .stk) Q X = _
  cases atI xs i <;> simp
@[simp] theorem oIx_s {z i} : wp (oIx (.str z) (.int i) m) Q X = (z.length ≤ SZ ∧ ∃ c, atI z.cps.toList i = some c ∧ Q (.str ⟨#[c]⟩) m) := by
  refine wp_gd.trans ?_
  cases atI z.cps.toList i <;> simp
theorem oIx_r {n xs i} (h : m[n]? = some (.lst xs)) : wp (oIx (.ref n) (.int i) m) Q X = ∃ d, atI xs i = some d ∧ Q d m := by
  simp only [oIx, rdL, h]; cases h : atI xs i <;> simp
@[simp] theorem oSl_t {xs lo hi} : wp (oSl nw (.tup xs) lo hi m) Q X = Q (.tup (cutD xs lo hi)) m := wp_ok
@[simp] theorem oSl_s {z lo hi} : wp (oSl nw (.str z) lo hi m) Q X = (z.length ≤ SZ ∧ Q (.str (cutS z lo hi)) m) := wp_gdk
@[simp] theorem oSl_l {xs lo hi} : wp (oSl nw (.lst xs) lo hi m) Q X = wp (outL nw (cutD xs lo hi) m) Q X := id rfl
@[simp] theorem oSl_k {xs lo hi} : wp (oSl nw (.klst xs) lo hi m) Q X = wp (outL nw (cutD xs lo hi) m) Q X := id rfl
@[simp] theorem oSl_r {n lo hi} : wp (oSl nw (.ref n) lo hi m) Q X = ∃ xs, m[n]? = some (.lst xs) ∧ wp (outL nw (cutD xs lo hi) m) Q X := wp_opl (f := fun xs => outL nw (cutD xs lo hi) m)
@[simp] theorem oRev_l {xs} : wp (oRev nw (.lst xs) m) Q X = wp (outL nw xs.reverse m) Q X := id rfl
@[simp] theorem oRev_r {n} : wp (oRev nw (.ref n) m) Q X = ∃ xs, m[n]? = some (.lst xs) ∧ wp (outL nw xs.reverse m) Q X := wp_opl (f := fun xs => outL nw xs.reverse m)
variable {Qb : Bool → Mem → Prop}
@[simp] theorem oTru_b {b} : wp (oTru (.bl b) m) Qb X = Qb b m := wp_ok
@[simp] theorem oTru_n : wp (oTru .non m) Qb X = Qb false m := wp_ok
@[simp] theorem oTru_i {i : Int} : wp (oTru (.int i) m) Qb X = Qb (i != 0) m := wp_ok
@[simp] theorem oTru_s {s} : wp (oTru (.str s) m) Qb X = (s.length ≤ SZ ∧ Qb ((s.length : Int) != 0) m) := wp_gdk
@[simp] theorem oTru_t {xs} : wp (oTru (.tup xs) m) Qb X = Qb (!xs.isEmpty) m := wp_ok
@[simp] theorem oTru_l {xs} : wp (oTru (.lst xs) m) Qb X = Qb (!xs.isEmpty) m := wp_ok
@[simp] theorem oTru_k {xs} : wp (oTru (.klst xs) m) Qb X = Qb (!xs.isEmpty) m := wp_ok
@[simp] theorem oTru_r {n} : wp (oTru (.ref n) m) Qb X = ∃ xs, m[n]? = some (.lst xs) ∧ Qb (!xs.isEmpty) m := wp_oplk (f := fun xs => !xs.isEmpty)
@[simp] theorem bLen_s {s} : wp (bLen [.str s] m) Q X = (s.length ≤ SZ ∧ Q (.int s.length) m) := wp_gdk
@[simp] theorem bLen_t {xs} : wp (bLen [.tup xs] m) Q X = Q (.int xs.length) m := wp_ok
@[simp] theorem bLen_l {xs} : wp (bLen [.lst xs] m) Q X = Q (.int xs.length) m := wp_ok
@[simp] theorem bLen_k {xs} : wp (bLen [.klst xs] m) Q X = Q (.int xs.length) m := wp_ok
@[simp] theorem bLen_r {n} : wp (bLen [.ref n] m) Q X = ∃ xs, m[n]? = some (.lst xs) ∧ Q (.int xs.length) m := wp_oplk (f := fun xs => D.int xs.length)
@[simp] theorem bOrd_s {c : Nat} : wp (bOrd [.str ⟨#[c]⟩] m) Q X = Q (.int c) m := wp_ok
@[simp] theorem bList_t {xs} : wp (bList nw [.tup xs] m) Q X = wp (outL nw xs m) Q X := id rfl
@[simp] theorem bList_l {xs} : wp (bList nw [.lst xs] m) Q X = wp (outL nw xs m) Q X := id rfl
@[simp] theorem bList_r {n} : wp (bList nw [.ref n] m) Q X = ∃ xs, m[n]? = some (.lst xs) ∧ wp (outL nw xs m) Q X := wp_opl (f := fun xs => outL nw xs m)
theorem allB_map {ι : Type} (f : ι → Bool) : ∀ ys : List ι, allB (ys.map fun y => D.bl (f y)) = some (ys.map f)
  | [] => rfl
  | y :: ys => by simp [allB, allB_map f ys]
@[simp] theorem bAll_l {xs} : wp (bAll [.lst xs] m) Q X = ∃ bs, allB xs = some bs ∧ Q (.bl (bs.all id)) m := by
  show wp (match allB xs with | some bs => R.ok (D.bl (bs.all id)) m | none => .stk) Q X = _
  cases allB xs <;> simp
@[simp] theorem bInt_b {k} : wp (bInt [.bl k] m) Q X = Q (.int (if k then 1 else 0)) m := wp_ok
@[simp] theorem bInt_i {k} : wp (bInt [.int k] m) Q X = Q (.int k) m := wp_ok
theorem allS_map {ι : Type} (f : ι → Str) : ∀ ys : List ι, allS (ys.map fun y => D.str (f y)) = some (ys.map f)
  | [] => rfl
  | y :: ys => by simp [allS, allS_map f ys]
@[simp] theorem mJoin_l {a xs} : wp (mJoin (.str a) [.lst xs] m) Q X = ∃ ss, allS xs = some ss ∧ (ss.map (·.length)).sum + ss.length * a.length ≤ SZ ∧ Q (.str (Txt.join a ss)) m := by
  show wp (match allS xs with | some ss => if (ss.map (·.length)).sum + ss.length * a.length ≤ SZ then R.ok (D.str (Txt.join a ss)) m else .stk | none => .stk) Q X = _
  cases allS xs <;> simp only [wp_gd, wp_stk, wp_ok] <;> simp
@[simp] theorem mIndex_l {xs y} : wp (mIndex (.lst xs) [y] m) Q X = ((flatD y = true ∧ xs.all flatD = true) ∧ ∃ j : Nat, idxF y xs = some j ∧ Q (.int (j : Int)) m) := by
  refine wp_gd.trans ?_
  cases idxF y xs <;> simp
@[simp] theorem mIndex_k {xs y} : wp (mIndex (.klst xs) [y] m) Q X = ((flatD y = true ∧ xs.all flatD = true) ∧ ∃ j : Nat, idxF y xs = some j ∧ Q (.int (j : Int)) m) := by
  refine wp_gd.trans ?_
  cases idxF y xs <;> simp
@[simp] theorem mAppend_r {n y} : wp (mAppend (.ref n) [y] m) Q X = ∃ xs, m[n]? = some (.lst xs) ∧ xs.length < SZ ∧ Q .non (m.set n (.lst (xs ++ [y]))) := by
  refine (wp_opc (f := fun xs => if xs.length < SZ then .ok D.non (m.set n (.lst (xs ++ [y]))) else .stk)).trans ?_
  simp only [wp_gdk]
@[simp] theorem mExtend_l {n zs} : wp (mExtend (.ref n) [.lst zs] m) Q X = ∃ xs, m[n]? = some (.lst xs) ∧ xs.length + zs.length ≤ SZ ∧ Q .non (m.set n (.lst (xs ++ zs))) := by
  refine (wp_opc (f := fun xs => if xs.length + zs.length ≤ SZ then .ok D.non (m.set n (.lst (xs ++ zs))) else .stk)).trans ?_
  simp only [wp_gdk]
variable {Qw : Walk → Mem → Prop}
@[simp] theorem wp_iRng1 {a : EC} : wp (iRng1 a ev m) Qw X = wp (a ev m) (fun x m1 => ∃ j, x = .int j ∧ smallI j ∧ Qw ⟨rngI 0 j, fun _ => True⟩ m1) X := by
  unfold iRng1; rw [wp_bnd]; congr 1; funext x m1; cases x <;> simp [stuck]
  case int j => by_cases h : smallI j <;> simp [h, stuck]
@[simp] theorem wp_iRng2 {a b : EC} : wp (iRng2 a b ev m) Qw X = wp (a ev m) (fun x m1 => wp (b ev m1) (fun y m2 => ∃ i j, x = .int i ∧ y = .int j ∧ (smallI i ∧ smallI j) ∧ Qw ⟨rngI i j, fun _ => True⟩ m2) X) X := by
  unfold iRng2; rw [wp_bnd]; congr 1; funext x m1; rw [wp_bnd]; congr 1; funext y m2; cases x <;> cases y <;> simp [stuck]
  case int.int i j => by_cases h : smallI i ∧ smallI j <;> simp [h, stuck]
@[simp] theorem wp_iTup {a : EC} : wp (iTup a ev m) Qw X = wp (a ev m) (fun x m1 => ∃ xs, x = .tup xs ∧ Qw ⟨xs, fun _ => True⟩ m1) X := by
  unfold iTup; rw [wp_bnd]; congr 1; funext x m1; cases x <;> simp [stuck]
@[simp] theorem wp_iStr {a : EC} : wp (iStr a ev m) Qw X = wp (a ev m) (fun x m1 => ∃ s : Str, x = .str s ∧ Qw ⟨s.cps.toList.map fun c => .str ⟨#[c]⟩, fun _ => True⟩ m1) X := by
  unfold iStr; rw [wp_bnd]; congr 1; funext x m1; cases x <;> simp [stuck]
@[simp] theorem wp_iLst {a : EC} : wp (iLst a ev m) Qw X = wp (a ev m) (fun x m1 => match x with
  | .ref i => ∃ xs, m1[i]? = some (.lst xs) ∧ Qw ⟨xs, fun m' => m'[i]? = some (.lst xs)⟩ m1
  | x => ∃ xs, rdL x m1 = some xs ∧ Qw ⟨xs, fun _ => True⟩ m1) X := by
  refine (wp_bnd (x := a ev)).trans ?_; congr 1; funext x m1; cases x <;> simp [rdL]
  case ref i =>
    cases h : m1[i]? with
    | none => simp
    | some c => cases c <;> simp
/-! targets -/
@[simp] theorem gName_eq {i d} : gName i d ev m = some (ev.set i (some d)) := rfl
@[simp] theorem gTup_eq {is ds} : gTup is (.tup ds) ev m = gTups is ds ev := rfl
@[simp] theorem gTups_nil : gTups [] [] ev = some ev := rfl
@[simp] theorem gTups_cons {i is d ds} : gTups (i :: is) (d :: ds) ev = gTups is ds (ev.set i (some d)) := rfl
end
/-! slices at natural places -/
theorem cutD_nn (xs : List D) (a b : Nat) : cutD xs (some a) (some b) = (xs.drop a).take (b - a) := by
  unfold cutD
  rw [HT.sIx_nat, HT.sIx_nat]
  by_cases h : a ≤ xs.length
  · rw [Nat.min_eq_left h]
    by_cases h2 : b ≤ xs.length
    · rw [Nat.min_eq_left h2]
    · rw [Nat.min_eq_right (Nat.le_of_lt (Nat.lt_of_not_le h2))]
      rw [List.take_of_length_le (by simp), List.take_of_length_le (by simp; omega)]
  · rw [Nat.min_eq_right (show xs.length ≤ a by omega), List.drop_of_length_le (by omega), List.drop_of_length_le (by omega)]
    simp
theorem cutD_n (xs : List D) (a : Nat) : cutD xs (some a) none = xs.drop a := by
  unfold cutD
  rw [HT.sIx_nat, HT.sIx_none]
  by_cases h : a ≤ xs.length
  · rw [Nat.min_eq_left h, List.take_of_length_le (by simp)]
  · rw [Nat.min_eq_right (show xs.length ≤ a by omega), List.drop_of_length_le (by omega), List.drop_of_length_le (by omega)]
    simp
theorem cutD_to (xs : List D) (b : Nat) : cutD xs none (some b) = xs.take b := by
  unfold cutD
  rw [HT.sIx_nat, HT.sIx_none]
  simp only [List.drop_zero, Nat.sub_zero]
  by_cases h : b ≤ xs.length
  · rw [Nat.min_eq_left h]
  · rw [Nat.min_eq_right (by omega), List.take_of_length_le (by omega), List.take_of_length_le (by omega)]
theorem cutD_back (xs : List D) : cutD xs none (some (-1)) = xs.dropLast := by
  unfold cutD
  rw [HT.sIx_none]
  simp only [List.drop_zero, Nat.sub_zero, HT.sIx]
  rw [if_pos (by decide), List.dropLast_eq_take]
  congr 1
  omega
theorem drop_map {α β : Type} (f : α → β) (xs : List α) (k : Nat) : (xs.map f).drop k = (xs.drop k).map f := by simp
theorem take_map {α β : Type} (f : α → β) (xs : List α) (k : Nat) : (xs.map f).take k = (xs.take k).map f := by simp
/-! equality -/
theorem toPys_ints (m : Mem) : ∀ xs : List Int, toPys m (xs.map .int) = some (xs.map .int)
  | [] => by simp [toPys]
  | x :: xs => by simp [toPys, toPy, toPys_ints m xs]
theorem eqvAll_ints : ∀ xs ys : List Int, PyData.eqvAll (xs.map .int) (ys.map .int) = decide (xs = ys)
  | [], [] => by simp [PyData.eqvAll]
  | [], _ :: _ => by simp [PyData.eqvAll]
  | _ :: _, [] => by simp [PyData.eqvAll]
  | x :: xs, y :: ys => by
    simp only [List.map_cons, PyData.eqvAll, eqvAll_ints xs ys, PyData.eqv, List.cons.injEq]
    by_cases h : x = y <;> by_cases h2 : xs = ys <;> simp [h, h2]
theorem canLay_ints : ∀ xs : List Int, PyData.canLayAll0 (xs.map .int) = true
  | [] => rfl
  | x :: xs => by simp [PyData.canLayAll0, PyData.canLay0, canLay_ints xs]
theorem depth_ints : ∀ xs : List Int, PyData.depthAll (xs.map .int) = 0
  | [] => rfl
  | x :: xs => by simp [PyData.depthAll, PyData.depth, depth_ints xs]
theorem shaped_ints (xs : List Int) : SeqAt.shaped (.list (xs.map .int)) = true := by
  simp [SeqAt.shaped, PyData.canLay0, canLay_ints, PyData.depth, depth_ints]
theorem eqD_of {x y : D} {m : Mem} {d e : PyData} (h0 : scalD x y = none) (hx : toPyT x m = some d) (hy : toPyT y m = some e) (sx : SeqAt.shaped d = true) (sy : SeqAt.shaped e = true) : eqD x y m = some (PyData.eqv d e) := by
  simp [eqD, h0, hx, hy, sx, sy]
theorem eqD_same {x y : D} {m : Mem} {d : PyData} (h0 : scalD x y = none) (hx : toPyT x m = some d) (hy : toPyT y m = some d) (sx : SeqAt.shaped d = true) : eqD x y m = some true := by
  rw [eqD_of h0 hx hy sx sx, SeqAt.eqv_refl d (SeqAt.canLay_of_shaped sx)]
@[simp] theorem eqD_ints {xs ys : List Int} {m : Mem} : eqD (.lst (xs.map .int)) (.lst (ys.map .int)) m = some (decide (xs = ys)) := by
  rw [eqD_of rfl (d := .list (xs.map .int)) (e := .list (ys.map .int)) (by simp [toPyT, toPy, toPys_ints]) (by simp [toPyT, toPy, toPys_ints]) (shaped_ints _) (shaped_ints _)]
  simp [PyData.eqv, eqvAll_ints]
/-! comprehensions that change nothing -/
theorem wp_eq {α : Type} {r : R α} {a : α} {m : Mem} (h : wp r (fun d m' => d = a ∧ m' = m) (fun _ _ => False)) : r = .ok a m := by
  cases r with
  | ok d m' => rw [wp_ok] at h; obtain ⟨rfl, rfl⟩ := h; rfl
  | exc _ _ => rw [wp_exc] at h; exact h.elim
  | stk => rw [wp_stk] at h; exact h.elim
theorem wp_lcP {ι : Type} {hold : Mem → Prop} {g : TGt} {t : ET} {e : EC} {ev : Ev} {m : Mem} {Q : List D → Mem → Prop} {X : Ecl → Mem → Prop} (ys : List ι) (enc : ι → D) (ev1 : ι → Ev) (p : ι → Bool) (f : ι → D) (hh : hold m) (hl : ys.length ≤ SZ)
    (h1 : ∀ y ∈ ys, g (enc y) ev m = some (ev1 y)) (h2 : ∀ y ∈ ys, wp (t (ev1 y) m) (fun b m' => b = p y ∧ m' = m) (fun _ _ => False)) (h3 : ∀ y ∈ ys, p y = true → wp (e (ev1 y) m) (fun d m' => d = f y ∧ m' = m) (fun _ _ => False))
    (q : Q ((ys.filter p).map f) m) : wp (lcGo hold g t e ev (ys.map enc) [] m) Q X := by
  rw [lcGo_pure hh enc ev1 p f ys [] (by simpa using hl) h1 (fun y hy => wp_eq (h2 y hy)) (fun y hy hp => wp_eq (h3 y hy hp)), wp_ok]
  simpa using q
theorem wp_lcA {ι : Type} {hold : Mem → Prop} {g : TGt} {e : EC} {ev : Ev} {m : Mem} {Q : List D → Mem → Prop} {X : Ecl → Mem → Prop} (ys : List ι) (enc : ι → D) (ev1 : ι → Ev) (f : ι → D) (hh : hold m) (hl : ys.length ≤ SZ)
    (h1 : ∀ y ∈ ys, g (enc y) ev m = some (ev1 y)) (h3 : ∀ y ∈ ys, wp (e (ev1 y) m) (fun d m' => d = f y ∧ m' = m) (fun _ _ => False))
    (q : Q (ys.map f) m) : wp (lcGo hold g tYes e ev (ys.map enc) [] m) Q X :=
  wp_lcP ys enc ev1 (fun _ => true) f hh hl h1 (fun _ _ => by simp) (fun y hy _ => h3 y hy) (by rw [List.filter_eq_self.mpr (by simp)]; exact q)
theorem foldl_take {α β : Type} (f : β → α → β) (b : β) (xs : List α) {j : Nat} (h : j < xs.length) : (xs.take (j + 1)).foldl f b = f ((xs.take j).foldl f b) xs[j] := by
  rw [List.take_succ_eq_append_getElem h, List.foldl_append]; rfl
/-! places in written lists; membership -/
@[simp] theorem atI0 {α : Type} {a : α} {r : List α} : atI (a :: r) 0 = some a := atI_nat (j := 0) rfl
@[simp] theorem atI1 {α : Type} {a b : α} {r : List α} : atI (a :: b :: r) 1 = some b := atI_nat (j := 1) rfl
@[simp] theorem atI2 {α : Type} {a b c : α} {r : List α} : atI (a :: b :: c :: r) 2 = some c := atI_nat (j := 2) rfl
@[simp] theorem atI3 {α : Type} {a b c d : α} {r : List α} : atI (a :: b :: c :: d :: r) 3 = some d := atI_nat (j := 3) rfl
@[simp] theorem atI4 {α : Type} {a b c d e : α} {r : List α} : atI (a :: b :: c :: d :: e :: r) 4 = some e := atI_nat (j := 4) rfl
theorem atI_at {α : Type} {xs : List α} {j : Nat} (h : j < xs.length) : atI xs (j : Int) = some xs[j] := atI_nat (List.getElem?_eq_getElem h)
@[simp] theorem flatD_s {x} : flatD (.str x) = true := rfl
@[simp] theorem flatD_i {x} : flatD (.int x) = true := rfl
@[simp] theorem flatD_b {x} : flatD (.bl x) = true := rfl
@[simp] theorem inD_t {x ys m} : inD x (.tup ys) m = if flatD x = true ∧ ys.all flatD = true then some (inF x ys) else none := rfl
@[simp] theorem inD_l {x ys m} : inD x (.lst ys) m = if flatD x = true ∧ ys.all flatD = true then some (inF x ys) else none := rfl
theorem strs_flat (ys : List Str) : (ys.map D.str).all flatD = true := by simp
@[simp] theorem eqF_ss {x y} : eqF (.str x) (.str y) = (x == y) := rfl
@[simp] theorem inF_nil {x} : inF x [] = false := rfl
@[simp] theorem inF_cons {x y ys} : inF x (y :: ys) = (eqF y x || inF x ys) := by simp [inF]
theorem SZ_le {n : Nat} (h : n ≤ 16777216) : n ≤ SZ := h
@[simp] theorem SZ_eq : SZ = 16777216 := rfl
@[simp] theorem ne_no_put : ((("" : Str) = ("put" : Str)) = False) := eq_false (by decide +kernel)
@[simp] theorem ne_no_drop : ((("" : Str) = ("drop" : Str)) = False) := eq_false (by decide +kernel)
@[simp] theorem ne_no_begin : ((("" : Str) = ("begin" : Str)) = False) := eq_false (by decide +kernel)
@[simp] theorem ne_no_end : ((("" : Str) = ("end" : Str)) = False) := eq_false (by decide +kernel)
@[simp] theorem ne_no_thin : ((("" : Str) = ("thin" : Str)) = False) := eq_false (by decide +kernel)
@[simp] theorem ne_put_no : ((("put" : Str) = ("" : Str)) = False) := eq_false (by decide +kernel)
@[simp] theorem ne_put_drop : ((("put" : Str) = ("drop" : Str)) = False) := eq_false (by decide +kernel)
@[simp] theorem ne_put_begin : ((("put" : Str) = ("begin" : Str)) = False) := eq_false (by decide +kernel)
@[simp] theorem ne_put_end : ((("put" : Str) = ("end" : Str)) = False) := eq_false (by decide +kernel)
@[simp] theorem ne_put_thin : ((("put" : Str) = ("thin" : Str)) = False) := eq_false (by decide +kernel)
@[simp] theorem ne_drop_no : ((("drop" : Str) = ("" : Str)) = False) := eq_false (by decide +kernel)
@[simp] theorem ne_drop_put : ((("drop" : Str) = ("put" : Str)) = False) := eq_false (by decide +kernel)
@[simp] theorem ne_drop_begin : ((("drop" : Str) = ("begin" : Str)) = False) := eq_false (by decide +kernel)
@[simp] theorem ne_drop_end : ((("drop" : Str) = ("end" : Str)) = False) := eq_false (by decide +kernel)
@[simp] theorem ne_drop_thin : ((("drop" : Str) = ("thin" : Str)) = False) := eq_false (by decide +kernel)
@[simp] theorem ne_begin_no : ((("begin" : Str) = ("" : Str)) = False) := eq_false (by decide +kernel)
@[simp] theorem ne_begin_put : ((("begin" : Str) = ("put" : Str)) = False) := eq_false (by decide +kernel)
@[simp] theorem ne_begin_drop : ((("begin" : Str) = ("drop" : Str)) = False) := eq_false (by decide +kernel)
@[simp] theorem ne_begin_end : ((("begin" : Str) = ("end" : Str)) = False) := eq_false (by decide +kernel)
@[simp] theorem ne_begin_thin : ((("begin" : Str) = ("thin" : Str)) = False) := eq_false (by decide +kernel)
@[simp] theorem ne_end_no : ((("end" : Str) = ("" : Str)) = False) := eq_false (by decide +kernel)
@[simp] theorem ne_end_put : ((("end" : Str) = ("put" : Str)) = False) := eq_false (by decide +kernel)
@[simp] theorem ne_end_drop : ((("end" : Str) = ("drop" : Str)) = False) := eq_false (by decide +kernel)
@[simp] theorem ne_end_begin : ((("end" : Str) = ("begin" : Str)) = False) := eq_false (by decide +kernel)
@[simp] theorem ne_end_thin : ((("end" : Str) = ("thin" : Str)) = False) := eq_false (by decide +kernel)
@[simp] theorem ne_thin_no : ((("thin" : Str) = ("" : Str)) = False) := eq_false (by decide +kernel)
@[simp] theorem ne_thin_put : ((("thin" : Str) = ("put" : Str)) = False) := eq_false (by decide +kernel)
@[simp] theorem ne_thin_drop : ((("thin" : Str) = ("drop" : Str)) = False) := eq_false (by decide +kernel)
@[simp] theorem ne_thin_begin : ((("thin" : Str) = ("begin" : Str)) = False) := eq_false (by decide +kernel)
@[simp] theorem ne_thin_end : ((("thin" : Str) = ("end" : Str)) = False) := eq_false (by decide +kernel)
@[simp] theorem cps_size (s : Str) : s.cps.size = s.length := rfl
theorem join_none (ss : List Str) : (Txt.join ("" : Str) ss).cps.toList = (ss.map fun s => s.cps.toList).flatten := by
  rw [TL.join_eq]
  have e : ("" : Str) = ⟨#[]⟩ := by decide +kernel
  rw [e]
  induction ss with
  | nil => rfl
  | cons s ss ih =>
    cases ss with
    | nil => simp [Str.join]
    | cons t r =>
      simp only [Str.join] at ih ⊢
      rw [str_app, str_app, ih]
      simp
theorem join_chars (cs : List Nat) : Txt.join ("" : Str) (cs.map fun c => (⟨#[c]⟩ : Str)) = ⟨cs.toArray⟩ := by
  refine str_ext ?_
  rw [join_none]
  induction cs with
  | nil => rfl
  | cons c cs ih => simpa using ih
theorem wp_ex {α : Type} {r : R α} {Q : α → Mem → Prop} (h : wp r Q (fun _ _ => False)) : ∃ a m, r = .ok a m ∧ Q a m := by
  cases r with
  | ok a m => rw [wp_ok] at h; exact ⟨a, m, rfl, h⟩
  | exc _ _ => rw [wp_exc] at h; exact h.elim
  | stk => rw [wp_stk] at h; exact h.elim
theorem atI_mem {α : Type} {xs : List α} {i : Int} (h0 : 0 ≤ i) (h1 : i < xs.length) : ∃ x, x ∈ xs ∧ atI xs i = some x := by
  obtain ⟨j, rfl⟩ := Int.eq_ofNat_of_zero_le h0
  exact ⟨xs[j]'(by omega), List.getElem_mem _, atI_at (by omega)⟩
end Lt

set_option Elab.async false
set_option linter.all false
set_option maxRecDepth 100000
/-! T4: rows, logs and drawing, in plain Lean. -/
namespace Lt
open PySem L2
theorem set_last {m : Mem} {c c' : Cell} : (m ++ [c]).set m.length c' = m ++ [c'] := by simp
theorem numL_snoc : ∀ (k : Nat) (n : Int), numL n (k + 1) = numL n k ++ [n / 256 ^ k % 256]
  | 0, n => by simp [numL]
  | k + 1, n => by
    rw [numL, numL_snoc k (n / 256), numL]
    simp only [List.cons_append, List.cons.injEq, true_and]
    rw [Int.pow_succ, Int.mul_comm, Int.ediv_ediv_of_nonneg (by decide)]
@[simp] theorem rng0_len (k : Nat) : (rngI 0 (k : Int)).length = k := by simp [rngI]
@[simp] theorem rng0_get (k j : Nat) (h : j < (rngI 0 (k : Int)).length) : (rngI 0 (k : Int))[j] = .int (j : Int) := by simp [rngI]
theorem smallI_nat {k : Nat} (h : k ≤ 16777216) : smallI (k : Int) := by unfold smallI; omega
theorem flat0_ints : ∀ xs : List Int, flat0s (xs.map .int) = true
  | [] => rfl
  | x :: xs => by simp [flat0s, flat0, flat0_ints xs]
@[simp] theorem flat0_lints (xs : List Int) : flat0 (.lst (xs.map .int)) = true := by simp [flat0, flat0_ints]
theorem ex12 : ∀ s : List Int, 12 ≤ s.length → ∃ c0 c1 c2 c3 kd n0 n1 n2 n3 kl v0 v1 t, s = c0 :: c1 :: c2 :: c3 :: kd :: n0 :: n1 :: n2 :: n3 :: kl :: v0 :: v1 :: t
  | [], h => by simp at h
  | [_], h => by simp at h
  | [_, _], h => by simp at h
  | [_, _, _], h => by simp at h
  | [_, _, _, _], h => by simp at h
  | [_, _, _, _, _], h => by simp at h
  | [_, _, _, _, _, _], h => by simp at h
  | [_, _, _, _, _, _, _], h => by simp at h
  | [_, _, _, _, _, _, _, _], h => by simp at h
  | [_, _, _, _, _, _, _, _, _], h => by simp at h
  | [_, _, _, _, _, _, _, _, _, _], h => by simp at h
  | [_, _, _, _, _, _, _, _, _, _, _], h => by simp at h
  | c0 :: c1 :: c2 :: c3 :: kd :: n0 :: n1 :: n2 :: n3 :: kl :: v0 :: v1 :: t, _ => ⟨c0, c1, c2, c3, kd, n0, n1, n2, n3, kl, v0, v1, t, rfl⟩
theorem rowOf_lt : ∀ s : List Int, s.length < 12 → rowOf s = none
  | [], h => rfl
  | [_], h => rfl
  | [_, _], h => rfl
  | [_, _, _], h => rfl
  | [_, _, _, _], h => rfl
  | [_, _, _, _, _], h => rfl
  | [_, _, _, _, _, _], h => rfl
  | [_, _, _, _, _, _, _], h => rfl
  | [_, _, _, _, _, _, _, _], h => rfl
  | [_, _, _, _, _, _, _, _, _], h => rfl
  | [_, _, _, _, _, _, _, _, _, _], h => rfl
  | [_, _, _, _, _, _, _, _, _, _, _], h => rfl
  | _ :: _ :: _ :: _ :: _ :: _ :: _ :: _ :: _ :: _ :: _ :: _ :: t, h => by simp at h; omega
theorem cut_ints (bs : List Int) (a b : Nat) : cutD (bs.map D.int) (some (a : Int)) (some (b : Int)) = ((bs.drop a).take (b - a)).map D.int := by
  rw [cutD_nn]; simp
def okS (s : Str) : Prop := ∀ c ∈ s.cps.toList, okc c = true
theorem okS_app {a b : Str} (ha : okS a) (hb : okS b) : okS (a ++ b) := by
  intro c hc
  rw [str_app, List.mem_append] at hc
  exact hc.elim (ha c) (hb c)
theorem okS_nil : okS "" := by
  have h : ("" : Str).cps.toList.all okc = true := by decide +kernel
  exact List.all_eq_true.mp h
theorem len_nil : ("" : Str).length = 0 := by decide +kernel
theorem okS_all {s : Str} (h : okS s) : s.cps.toList.all okc = true := List.all_eq_true.mpr h
theorem repS_len (z : Str) (n : Nat) : (repS z (n : Int)).length = n * z.length := by
  rw [str_len, str_len]
  simp [repS]
theorem okS_rep {z : Str} (h : okS z) (n : Int) : okS (repS z n) := by
  intro c hc
  simp only [repS] at hc
  obtain ⟨l, hl, hc⟩ := List.mem_flatten.mp hc
  rw [List.eq_of_mem_replicate hl] at hc
  exact h c hc
theorem rowOk_mk {k : Str} {n : Int} {key val : Str} (hk : isKind k = true) (h1 : 1 ≤ n) (h2 : n ≤ 999999999) (h3 : if isPD k = true then (1 ≤ key.length ∧ key.length ≤ 40 ∧ okS key) else key = "") (h4 : if k = "put" then (val.length ≤ 400 ∧ okS val) else val = "") : rowOk ⟨k, n, key, val⟩ = true := by
  simp only [rowOk, hk, h1, h2, decide_true, Bool.true_and, Bool.and_eq_true]
  constructor
  · split at h3
    · rename_i h; rw [if_pos h]; simp only [txtOk, Bool.and_eq_true, decide_eq_true_eq]; exact ⟨⟨h3.1, h3.2.1⟩, okS_all h3.2.2⟩
    · rename_i h; rw [if_neg h]; simpa using h3
  · split at h4
    · rename_i h; rw [if_pos h]; simp only [txtOk, Bool.and_eq_true, decide_eq_true_eq]; exact ⟨⟨by omega, h4.1⟩, okS_all h4.2⟩
    · rename_i h; rw [if_neg h]; simpa using h4
theorem idx_kind5 {k : Str} (h : isKind k = true) : ∃ j : Nat, idxF (.str k) [D.str "put", .str "drop", .str "begin", .str "end", .str "thin"] = some j ∧ (j : Int) + 1 = kidx k := by
  rcases isKind_cases h with rfl | rfl | rfl | rfl | rfl
  · exact ⟨0, by decide +kernel, by decide +kernel⟩
  · exact ⟨1, by decide +kernel, by decide +kernel⟩
  · exact ⟨2, by decide +kernel, by decide +kernel⟩
  · exact ⟨3, by decide +kernel, by decide +kernel⟩
  · exact ⟨4, by decide +kernel, by decide +kernel⟩
theorem cutS_to (z : Str) (k : Nat) : cutS z none (some (k : Int)) = ⟨(z.cps.toList.take k).toArray⟩ := by
  unfold cutS
  rw [HT.sIx_nat, HT.sIx_none, str_len]
  simp only [List.drop_zero, Nat.sub_zero]
  congr 2
  by_cases h : k ≤ z.cps.toList.length
  · rw [Nat.min_eq_left h]
  · rw [Nat.min_eq_right (by omega), List.take_of_length_le (by omega), List.take_of_length_le (by omega)]
theorem cutS_from (z : Str) (k : Nat) : cutS z (some (k : Int)) none = ⟨(z.cps.toList.drop k).toArray⟩ := by
  unfold cutS
  rw [HT.sIx_nat, HT.sIx_none, str_len]
  congr 2
  by_cases h : k ≤ z.cps.toList.length
  · rw [Nat.min_eq_left h, List.take_of_length_le (by simp)]
  · rw [Nat.min_eq_right (by omega), List.drop_of_length_le (by omega), List.drop_of_length_le (by omega)]
    simp
theorem strOf_take (bs : List Int) (k : Nat) : cutS (strOf bs) none (some (k : Int)) = strOf (bs.take k) := by
  rw [cutS_to]; simp [strOf, List.map_take]
theorem strOf_drop (bs : List Int) (k : Nat) : cutS (strOf bs) (some (k : Int)) none = strOf (bs.drop k) := by
  rw [cutS_from]; simp [strOf, List.map_drop]
theorem strOf_nil {bs : List Int} : (strOf bs = "") ↔ bs = [] := by
  constructor
  · intro h
    have := congrArg Str.length h
    rw [strOf_len, len_nil] at this
    exact List.length_eq_zero_iff.mp this
  · rintro rfl; decide +kernel
theorem kind5_at {kd : Int} (h1 : 1 ≤ kd) (h2 : kd ≤ 5) : atI [D.str "put", .str "drop", .str "begin", .str "end", .str "thin"] (kd - 1) = some (.str (kindAt kd)) := by
  have : kd = 1 ∨ kd = 2 ∨ kd = 3 ∨ kd = 4 ∨ kd = 5 := by omega
  rcases this with rfl | rfl | rfl | rfl | rfl <;> rfl
theorem sum_ones (bs : List Int) : ((bs.map fun b => (⟨#[b.toNat]⟩ : Str)).map (·.length)).sum = bs.length := by
  have h1 : ∀ c : Nat, (⟨#[c]⟩ : Str).length = 1 := fun _ => rfl
  induction bs with
  | nil => rfl
  | cons b bs ih => rw [List.map_cons, List.map_cons, List.sum_cons, ih, h1, List.length_cons]; omega
theorem body_is {kd n0 n1 n2 n3 v0 v1 : Int} {kn vn : Nat} {cs : List Int} (k1 : 1 ≤ kd) (k2 : kd < 6) (hb : Bytes [n0, n1, n2, n3]) (hv : Bytes [v0, v1]) (hc : Bytes cs) (hvn : numOf [v0, v1] = (vn : Int)) (hl : cs.length = kn + vn) :
    body ⟨kindAt kd, numOf [n0, n1, n2, n3], strOf (cs.take kn), strOf (cs.drop kn)⟩ = kd :: n0 :: n1 :: n2 :: n3 :: (kn : Int) :: v0 :: v1 :: cs := by
  have n1' : numB (numOf [n0, n1, n2, n3]) 4 = [n0, n1, n2, n3] := numB_numOf [n0, n1, n2, n3] hb
  have n2' : numB (numOf [v0, v1]) 2 = [v0, v1] := numB_numOf [v0, v1] hv
  have l1 : (cs.take kn).length = kn := by rw [List.length_take]; omega
  have l2 : (cs.drop kn).length = vn := by rw [List.length_drop]; omega
  simp only [body, strOf_len, l1, l2, n1', kidx_kindAt k1 k2, ords_app, ← hvn, n2']
  rw [ords_strOf _ (fun b hb => (hc.take _ b hb).1), ords_strOf _ (fun b hb => (hc.drop _ b hb).1), List.take_append_drop]
  rfl
/-- what a reader tells -/
def atD (o : Option (Row × Nat)) : D := match o with | some (r, e) => .tup [rowD r, .int (e : Nat)] | none => .non
theorem map_cat (a b : List Int) : a.map D.int ++ b.map D.int = (a ++ b).map D.int := by simp
theorem pick_byte {d : D} {v : Int} (h0 : 0 ≤ v) (h1 : v < 256) (hd : d ∈ [D.int 0, .int 1, .int 5, .int 6, .int 32, .int 97, .int 255, .int v]) : ∃ b : Int, d = .int b ∧ 0 ≤ b ∧ b < 256 := by
  simp at hd
  rcases hd with rfl | rfl | rfl | rfl | rfl | rfl | rfl | rfl
  all_goals exact ⟨_, rfl, by omega, by omega⟩
theorem rep1 (n : Nat) (x : Int) : (List.replicate n [D.int x]).flatten = (List.replicate n x).map .int := by
  induction n with
  | zero => rfl
  | succ n ih => simp [List.replicate_succ, ih]
def chkL (xs : List D) : Bool := xs.all fun d => match d with
  | .lst ys => (match allI ys with | some L => L.all (fun b => decide (0 ≤ b) && decide (b < 256)) && decide (L.length ≤ 420) | none => false)
  | _ => false
theorem allI_map : ∀ (xs : List D) (L : List Int), allI xs = some L → xs = L.map .int
  | [], L, h => by cases h; rfl
  | x :: xs, L, h => by
    cases x with
    | int i =>
      simp only [allI] at h
      cases q : allI xs with
      | none => rw [q] at h; cases h
      | some L' => rw [q] at h; cases h; simp [allI_map xs L' q]
    | _ => simp [allI] at h
/-- the cell of what was drawn so far -/
def U (k : Nat) : Cell := .lst (List.replicate k (.int 0))
def scr (ns : List Int) : D := .klst (ns.map .int)
def cellv (ns : List Int) (k : Nat) : Int := if ns = [] then 0 else ns.getD (k % ns.length) 0
def mixv (ns : List Int) (k : Nat) : Int :=
  let a := (cellv ns k + 104729 * ((k : Int) + 1)) % 4294967291
  let b := a ^ 5 % 4294967279
  (b / 64 * 69621 + b) % 4294967231
def dv (ns : List Int) (k : Nat) (b : Int) : Int := mixv ns (k + 1) / 8 % b
theorem dv_rng (ns : List Int) (k : Nat) {b : Int} (h : 0 < b) : 0 ≤ dv ns k b ∧ dv ns k b < b := ⟨Int.emod_nonneg _ (by omega), Int.emod_lt_of_pos _ h⟩
theorem U0 : Cell.lst [] = U 0 := rfl
theorem smallI_lt {i : Int} (h0 : 0 ≤ i) (h1 : i < 16777216) : smallI i := by unfold smallI; omega
theorem rowAt_ok {bs : List Int} (hb : Bytes bs) {p : Nat} {r : Row} {e : Nat} (h : rowAt bs p = some (r, e)) : rowOk r = true ∧ p + 12 ≤ e ∧ e ≤ bs.length := by
  obtain ⟨h1, h2, t, ht⟩ := (rowAt_iff hb).mp h
  have := congrArg List.length ht
  simp [enc_len] at this
  rw [enc_len] at h2
  exact ⟨h1, by omega, by omega⟩
theorem eqD_row {r : Row} {e : Int} {m : Mem} (h : rowOk r = true) : eqD (.tup [rowD r, .int e]) (.tup [rowD r, .int e]) m = some true := by
  have R := rowOk_of h
  have sOk : ∀ s : Str, s.cps.toList.all okc = true → s.cps.all (· < 0x110000) = true := by
    intro s hs
    rw [← Array.all_toList]
    refine List.all_eq_true.mpr fun c hc => ?_
    have := List.all_eq_true.mp hs c hc
    simp [okc] at this
    simp; omega
  have kOk : PyData.strOk r.k = true := by
    rcases isKind_cases R.kind with e | e | e | e | e <;> rw [e] <;> decide +kernel
  refine eqD_same rfl (d := .tuple [.tuple [.str r.k, .int r.n, .str r.key, .str r.val], .int e]) (by simp [toPyT, toPy, toPys, rowD]) (by simp [toPyT, toPy, toPys, rowD]) ?_
  have k1 : PyData.strOk r.key = true := sOk _ R.kc
  have k2 : PyData.strOk r.val = true := sOk _ R.vc
  simp [SeqAt.shaped, PyData.canLay0, PyData.canLayAll0, PyData.depth, PyData.depthAll, kOk, k1, k2]
theorem eqD_atD {bs : List Int} (hb : Bytes bs) (p : Nat) (m : Mem) : eqD (atD (rowAt bs p)) (atD (rowAt bs p)) m = some true := by
  cases h : rowAt bs p with
  | none => rfl
  | some q => obtain ⟨r, e⟩ := q; exact eqD_row (rowAt_ok hb h).1
def natsD (ps : List Nat) : List D := ps.map fun (p : Nat) => .int (p : Int)
theorem txtOk_iff {s : Str} {lo hi : Nat} : txtOk s lo hi = true ↔ lo ≤ s.length ∧ s.length ≤ hi ∧ okS s := by
  simp only [txtOk, Bool.and_eq_true, decide_eq_true_eq, List.all_eq_true, okS, and_assoc]
theorem nil_le (n : Nat) : ("" : Str).length ≤ n := by rw [len_nil]; omega
end Lt

set_option Elab.async false
set_option linter.all false
set_option maxRecDepth 100000
/-! T8: what the later words of the middle layer come to: held exceptions, instances, dicts, built-ins. -/
namespace Lt
open PySem L2
@[simp] theorem ofString_eq {a b : String} : (Str.ofString a = Str.ofString b) = (a = b) := by
  apply propext
  constructor
  · intro h
    rw [Str.ofString_eq_toList, Str.ofString_eq_toList] at h
    have h2 : a.toList.map Char.toNat = b.toList.map Char.toNat := by
      have := congrArg (fun s : Str => s.cps.toList) h
      simpa using this
    have inj : ∀ (xs ys : List Char), xs.map Char.toNat = ys.map Char.toNat → xs = ys := fun xs => by
      induction xs with
      | nil => intro ys h; cases ys <;> simp_all
      | cons x xs ih =>
        intro ys h
        cases ys with
        | nil => simp at h
        | cons y ys =>
          simp only [List.map_cons, List.cons.injEq] at h
          have e : x = y := Char.ext (UInt32.toNat_inj.mp h.1)
          rw [e, ih ys h.2]
    have := inj _ _ h2
    exact String.toList_inj.mp this
  · rintro rfl; rfl
section
variable {Q : D → Mem → Prop} {X : Ecl → Mem → Prop} {m : Mem} {ev : Ev} {nw : Bool} {P : Po}
theorem ws_sTryAs {ps : List Ecl} {mt : Ecl → Bool} {i j : Nat} {b : SC} (h : ws (b ev m) { P with xc := fun c e m => c ∈ ps ∧ (mt c = true → P.nx (((e.set i (some (.exc c))).set j (some (.exc c))).set i none) m) ∧ (mt c = false → P.xc c e m) }) : ws (sTryAs ps mt i j b ev m) P := by
  unfold sTryAs
  cases q : b ev m with
  | exc c e m' =>
    rw [q, ws_exc] at h
    obtain ⟨h1, h2, h3⟩ := h
    simp only [if_pos h1]
    cases hm : mt c with
    | true => simp only [if_true, ws_nx]; exact h2 hm
    | false => simp only [Bool.false_eq_true, if_false, ws_exc]; exact h3 hm
  | nx _ _ => rw [q] at h; simp at h ⊢; exact h
  | ret _ _ => rw [q] at h; simp at h ⊢; exact h
  | brk _ _ => rw [q] at h; simp at h ⊢; exact h
  | ct _ _ => rw [q] at h; simp at h ⊢; exact h
  | stk => rw [q] at h; simp at h
@[simp] theorem wp_eIsi {f : Ecl → Bool} {e : EC} : wp (eIsi f e ev m) Q X = wp (e ev m) (fun x m1 => ∃ c, x = .exc c ∧ Q (.bl (f c)) m1) X := by
  unfold eIsi; rw [wp_bnd]; congr 1; funext x m1; cases x <;> simp
@[simp] theorem mCount_l {xs k} : wp (mCount (.lst xs) [.bl k] m) Q X = ∃ bs, allB xs = some bs ∧ Q (.int (bs.count k : Nat)) m := by
  show wp (match allB xs with | some bs => R.ok (D.int (bs.count k : Nat)) m | none => .stk) Q X = _
  cases allB xs <;> simp
theorem ws_gd {c : Prop} [Decidable c] {a : SR} : ws (if c then a else .stk) P = (c ∧ ws a P) := by
  by_cases h : c <;> simp [h]
/-! instances -/
def fget (fs : List (Str × D)) (f : Str) : Option D := List.lookup f fs
theorem rdI_at {c : Icl} {n : Nat} {fs : List (Str × D)} (h : m[n]? = some (.ins c fs)) : rdI c (.ref n) m = some fs := by
  unfold rdI; simp [h]
@[simp] theorem wp_eFld {c : Icl} {f : Str} {e : EC} : wp (eFld c f e ev m) Q X = wp (e ev m) (fun x m1 => ∃ fs, rdI c x m1 = some fs ∧ ∃ d, fget fs f = some d ∧ Q d m1) X := by
  refine (wp_bnd (x := e ev)).trans ?_; congr 1; funext x m1
  cases h : rdI c x m1 with
  | none => simp [h]
  | some fs => cases h2 : fs.lookup f <;> simp [fget, h, h2]
@[simp] theorem ws_sFldS {c : Icl} {f : Str} {o e : EC} : ws (sFldS c f o e ev m) P = wp (e ev m) (fun d m1 => wp (o ev m1) (fun x m2 => ∃ n fs, x = .ref n ∧ rdI c (.ref n) m2 = some fs ∧ fs.length < 1000 ∧ P.nx ev (m2.set n (.ins c (putD f d fs)))) (fun c m => P.xc c ev m)) (fun c m => P.xc c ev m) := by
  unfold sFldS
  rw [ws_ofE]; congr 1; funext d m1; rw [ws_ofE]; congr 1; funext x m2
  cases x with
  | ref n =>
    cases h : rdI c (.ref n) m2 with
    | none => simp [h]
    | some fs => simp only [h, ws_gd, ws_nx]; simp [h]
  | _ => simp
@[simp] theorem wp_eMe {c : Icl} {f : Str} {mf : List D → M D} {o : EC} {a : EA} : wp (eMe c f mf o a ev m) Q X = wp (o ev m) (fun x m1 => ∃ fs, rdI c x m1 = some fs ∧ fget fs f = none ∧ wp (a ev m1) (fun xs m2 => wp (mf (x :: xs) m2) Q X) X) X := by
  refine (wp_bnd (x := o ev)).trans ?_; congr 1; funext x m1
  cases h : rdI c x m1 with
  | none => simp [h]
  | some fs => cases h2 : fs.lookup f <;> simp [fget, h, h2, wp_bnd, -List.lookup_eq_none_iff]
theorem wp_mk {n : Nat} {r : R D} : wp (match r with | .ok .non m' => .ok (.ref n) m' | .ok _ _ => .stk | .exc e m' => .exc e m' | .stk => .stk : R D) Q X = wp r (fun d m' => d = .non ∧ Q (.ref n) m') X := by
  cases r with
  | ok d m' => cases d <;> simp
  | exc _ _ => simp
  | stk => simp
@[simp] theorem wp_eMake {c : Icl} {mf : List D → M D} {a : EA} : wp (eMake c mf a ev m) Q X = wp (a ev m) (fun xs m1 => wp (mf (.ref m1.length :: xs) (m1 ++ [.ins c []])) (fun d m' => d = .non ∧ Q (.ref m1.length) m') X) X := by
  refine (wp_bnd (x := a ev)).trans ?_; congr 1; funext xs m1; exact wp_mk
/-! dicts -/
@[simp] theorem wp_eDsp {ks : List Key} {a : EA} : wp (eDsp ks a ev m) Q X = wp (a ev m) (fun xs m1 => (xs.length = ks.length ∧ ks.Nodup ∧ ks.length ≤ 15) ∧ Q (.ref m1.length) (m1 ++ [.dic false (ks.zip xs)])) X := by
  refine (wp_bnd (x := a ev)).trans ?_; congr 1; funext xs m1; exact wp_gdk0
where wp_gdk0 {c : Prop} [Decidable c] {a : D} {m' : Mem} : wp (if c then .ok a m' else .stk : R D) Q X = (c ∧ Q a m') := by rw [wp_gd, wp_ok]
theorem wp_isDic {a : D} {r : M D} : wp (isDic a r m) Q X = ∃ kvs, rdK a m = some kvs ∧ wp (r m) Q X := by
  unfold isDic; cases rdK a m <;> simp
@[simp] theorem wp_eDGet2 {d k x : EC} : wp (eDGet2 d k x ev m) Q X = wp (d ev m) (fun a m1 => ∃ kvs, rdK a m1 = some kvs ∧ wp (k ev m1) (fun y m2 => wp (x ev m2) (fun z m3 => ∃ kvs q, rdK a m3 = some kvs ∧ keyD y = some q ∧ Q ((valD kvs q).getD z) m3) X) X) X := by
  unfold eDGet2; rw [wp_bnd]; congr 1; funext a m1; rw [wp_isDic]
  congr 1; funext kvs; congr 1; rw [wp_bnd]; congr 1; funext y m2; rw [wp_bnd]; congr 1; funext z m3
  unfold gDGet2; cases rdK a m3 <;> cases keyD y <;> simp
theorem wp_gDPop {a y : D} {z : Option D} : wp (gDPop a y z m) Q X = ∃ kvs q, rdC a m = some kvs ∧ keyD y = some q ∧ ((∃ v, valD kvs q = some v ∧ Q v (upC a (dropKD kvs q) m)) ∨ (valD kvs q = none ∧ ∃ d, z = some d ∧ Q d m)) := by
  unfold gDPop
  cases rdC a m with
  | none => simp
  | some kvs =>
    cases keyD y with
    | none => simp
    | some q =>
      cases h : valD kvs q with
      | none => cases z <;> simp [h]
      | some v => simp [h]
@[simp] theorem wp_eDPop1 {d k : EC} : wp (eDPop1 d k ev m) Q X = wp (d ev m) (fun a m1 => ∃ kvs, rdK a m1 = some kvs ∧ wp (k ev m1) (fun y m2 => ∃ kvs q v, rdC a m2 = some kvs ∧ keyD y = some q ∧ valD kvs q = some v ∧ Q v (upC a (dropKD kvs q) m2)) X) X := by
  unfold eDPop1; rw [wp_bnd]; congr 1; funext a m1; rw [wp_isDic]
  congr 1; funext kvs; congr 1; rw [wp_bnd]; congr 1; funext y m2; rw [wp_gDPop]; simp
@[simp] theorem wp_eDPop2 {d k x : EC} : wp (eDPop2 d k x ev m) Q X = wp (d ev m) (fun a m1 => ∃ kvs, rdK a m1 = some kvs ∧ wp (k ev m1) (fun y m2 => wp (x ev m2) (fun z m3 => ∃ kvs q, rdC a m3 = some kvs ∧ keyD y = some q ∧ ((∃ v, valD kvs q = some v ∧ Q v (upC a (dropKD kvs q) m3)) ∨ (valD kvs q = none ∧ Q z m3))) X) X) X := by
  unfold eDPop2; rw [wp_bnd]; congr 1; funext a m1; rw [wp_isDic]
  congr 1; funext kvs; congr 1; rw [wp_bnd]; congr 1; funext y m2; rw [wp_bnd]; congr 1; funext z m3; rw [wp_gDPop]; simp
@[simp] theorem ws_sDPutS {d k e : EC} : ws (sDPutS d k e ev m) P = wp (e ev m) (fun v m1 => wp (d ev m1) (fun a m2 => wp (k ev m2) (fun y m3 => ∃ kvs q, rdC a m3 = some kvs ∧ keyD y = some q ∧ kvs.length < SZ ∧ P.nx ev (upC a (putKD kvs q v) m3)) (fun c m => P.xc c ev m)) (fun c m => P.xc c ev m)) (fun c m => P.xc c ev m) := by
  unfold sDPutS
  rw [ws_ofE]; congr 1; funext d m1; rw [ws_ofE]; congr 1; funext a m2; rw [ws_ofE]; congr 1; funext y m3
  cases rdC a m3 with
  | none => simp
  | some kvs =>
    cases keyD y with
    | none => simp
    | some q => simp only [ws_gd, ws_nx]; simp
@[simp] theorem ws_sLPut {o i e : EC} : ws (sLPut o i e ev m) P = wp (e ev m) (fun v m1 => wp (o ev m1) (fun a m2 => wp (i ev m2) (fun y m3 => ∃ n k xs j, a = .ref n ∧ y = .int k ∧ m3[n]? = some (.lst xs) ∧ ixN xs.length k = some j ∧ P.nx ev (m3.set n (.lst (xs.set j v)))) (fun c m => P.xc c ev m)) (fun c m => P.xc c ev m)) (fun c m => P.xc c ev m) := by
  unfold sLPut
  rw [ws_ofE]; congr 1; funext d m1; rw [ws_ofE]; congr 1; funext a m2; rw [ws_ofE]; congr 1; funext y m3
  cases a with
  | ref n =>
    cases y with
    | int k =>
      cases h : m3[n]? with
      | none => simp [h]
      | some c =>
        cases c with
        | lst xs => cases h2 : ixN xs.length k <;> simp [h, h2]
        | _ => simp [h]
    | _ => simp
  | _ => cases y <;> simp
theorem rdC_at {n : Nat} {kvs : List (Key × D)} (h : m[n]? = some (.dic false kvs)) : rdC (.ref n) m = some kvs := by unfold rdC; simp [h]
theorem rdK_at {n : Nat} {lk : Bool} {kvs : List (Key × D)} (h : m[n]? = some (.dic lk kvs)) : rdK (.ref n) m = some kvs := by unfold rdK; simp [h]
@[simp] theorem upC_r {n : Nat} {kvs : List (Key × D)} : upC (.ref n) kvs m = m.set n (.dic false kvs) := rfl
@[simp] theorem keyD_s {s : Str} : keyD (.str s) = some (.inr s) := rfl
@[simp] theorem keyD_i {s : Int} : keyD (.int s) = some (.inl s) := rfl
/-! built-ins -/
theorem bSorted_I {x : D} {xs : List D} {is : List Int} (h : rdL x m = some xs) (h2 : allI xs = some is) : wp (bSorted nw [x] m) Q X = wp (outL nw ((sortI is).map D.int) m) Q X := by
  show wp (match rdL x m with | some xs => _ | none => _) Q X = _
  simp [h, h2]
theorem bSorted_S {x : D} {xs : List D} {ss : List Str} (h : rdL x m = some xs) (h1 : allI xs = none) (h2 : allS xs = some ss) (h3 : ss.length < 64) : wp (bSorted nw [x] m) Q X = wp (outL nw ((sortS ss).map D.str) m) Q X := by
  show wp (match rdL x m with | some xs => _ | none => _) Q X = _
  simp [h, h1, h2, h3]
@[simp] theorem wp_eSoK {d : EC} : wp (eSoK nw d ev m) Q X = wp (d ev m) (fun x m1 => ∃ kvs, rdK x m1 = some kvs ∧ ((∃ ks, keyS kvs = some ks ∧ ks.length < 64 ∧ wp (outL nw ((sortS ks).map D.str) m1) Q X) ∨ (keyS kvs = none ∧ ∃ is, keyI kvs = some is ∧ is.length < 64 ∧ wp (outL nw ((sortI is).map D.int) m1) Q X))) X := by
  refine (wp_bnd (x := d ev)).trans ?_; congr 1; funext x m1
  cases rdK x m1 with
  | none => simp
  | some kvs =>
    cases h : keyS kvs with
    | some ks => simp only [h, wp_gd]; simp [h]
    | none =>
      cases h2 : keyI kvs with
      | none => simp [h, h2]
      | some is => simp only [h, h2, wp_gd]; simp [h, h2]
@[simp] theorem bMin2_i {i j : Int} : wp (bMin2 [.int i, .int j] m) Q X = Q (.int (if j < i then j else i)) m := wp_ok
@[simp] theorem bMax2_i {i j : Int} : wp (bMax2 [.int i, .int j] m) Q X = Q (.int (if j > i then j else i)) m := wp_ok
@[simp] theorem bMax1_l {xs : List D} : wp (bMax1 [.lst xs] m) Q X = ∃ is, allI xs = some is ∧ 0 < is.length ∧ Q (.int (maxI is)) m := by
  show wp (match allI xs with | some is => if 0 < is.length then .ok (.int (maxI is)) m else .stk | none => .stk : R D) Q X = _
  cases allI xs <;> simp only [wp_gd, wp_ok, wp_stk] <;> simp
@[simp] theorem bSum_l {xs : List D} : wp (bSum [.lst xs] m) Q X = ∃ is, allI xs = some is ∧ Q (.int is.sum) m := by
  show wp (match allI xs with | some is => .ok (.int is.sum) m | none => .stk : R D) Q X = _
  cases allI xs <;> simp
@[simp] theorem bStr_i {i : Int} : wp (bStr [.int i] m) Q X = (i.natAbs.log2 < 1920 ∧ Q (.str (Str.ofString (toString i))) m) := by
  show wp (if _ then _ else _) Q X = _
  rw [wp_gd, wp_ok]
@[simp] theorem bIntS_s {a : Str} : wp (bIntS [.str a] m) Q X = ∃ n, PySem.intText? a = some n ∧ a.length ≤ 640 ∧ Q (.int n) m := by
  show wp (match PySem.intText? a with | some n => if a.length ≤ 640 then .ok (.int n) m else .stk | none => .stk : R D) Q X = _
  cases PySem.intText? a <;> simp only [wp_gd, wp_ok, wp_stk] <;> simp
@[simp] theorem mStarts_s {a b : Str} : wp (mStarts (.str a) [.str b] m) Q X = Q (.bl (Txt.startswith a b)) m := wp_ok
@[simp] theorem wp_eDigit {o : EC} : wp (eDigit o ev m) Q X = wp (o ev m) (fun x m1 => ∃ a, x = .str a ∧ Q (.bl (Txt.isdigit a)) m1) X := by
  unfold eDigit; rw [wp_bnd]; congr 1; funext x m1; cases x <;> simp
theorem allI_mapI : ∀ is : List Int, allI (is.map D.int) = some is
  | [] => rfl
  | i :: is => by simp [allI, allI_mapI is]
theorem allS_mapS : ∀ is : List Str, allS (is.map D.str) = some is
  | [] => rfl
  | i :: is => by simp [allS, allS_mapS is]
theorem ws_unlS {n : Nat} {kvs : List (Key × D)} {r : SR} (h : ws r ⟨fun e m => (∃ kx, m[n]? = some (.dic true kx)) ∧ P.nx e (m.set n (.dic false kvs)), fun d m => (∃ kx, m[n]? = some (.dic true kx)) ∧ P.rt d (m.set n (.dic false kvs)), fun e m => (∃ kx, m[n]? = some (.dic true kx)) ∧ P.bk e (m.set n (.dic false kvs)), fun e m => (∃ kx, m[n]? = some (.dic true kx)) ∧ P.ct e (m.set n (.dic false kvs)), P.xc⟩) : ws (unlS n kvs r) P := by
  have u : ∀ {m : Mem}, (∃ kx, m[n]? = some (Cell.dic true kx)) → unlk n kvs m = some (m.set n (.dic false kvs)) := fun {m} ⟨kx, e⟩ => by unfold unlk; simp [e]
  cases r with
  | nx e m => rw [ws_nx] at h; simp only [unlS, u h.1, ws_nx]; exact h.2
  | ret d m => rw [ws_ret] at h; simp only [unlS, u h.1, ws_ret]; exact h.2
  | brk e m => rw [ws_brk] at h; simp only [unlS, u h.1, ws_brk]; exact h.2
  | ct e m => rw [ws_ct] at h; simp only [unlS, u h.1, ws_ct]; exact h.2
  | exc c e m => rw [ws_exc] at h; simp only [unlS, ws_exc]; exact h
  | stk => rw [ws_stk] at h; exact h.elim
theorem ws_sForD {w : Wk} {d : EC} {g : TGt} {b : SC} {n : Nat} {kvs : List (Key × D)} (h1 : d ev m = .ok (.ref n) m) (h2 : m[n]? = some (.dic false kvs)) (h3 : d ev (m.set n (.dic true kvs)) = .ok (.ref n) (m.set n (.dic true kvs))) (I : Nat → Ev → Mem → Prop)
    (hH : ∀ k ev m', I k ev m' → m'[n]? = some (.dic true kvs))
    (step : ∀ (k : Nat) ev m' (h : k < (w.of kvs).length), I k ev m' → ∃ ev1, g (w.of kvs)[k] ev m' = some ev1 ∧ ws (b ev1 m') ⟨I (k + 1), fun d m => (∃ kx, m[n]? = some (.dic true kx)) ∧ P.rt d (m.set n (.dic false kvs)), fun _ _ => False, I (k + 1), P.xc⟩)
    (fin : ∀ ev m', I (w.of kvs).length ev m' → P.nx ev (m'.set n (.dic false kvs))) (h0 : I 0 ev (m.set n (.dic true kvs))) : ws (sForD w d g b ev m) P := by
  unfold sForD
  simp only [h1, h2, if_pos h3]
  refine ws_unlS ?_
  refine ws_forGo I (fun k ev m' _ => hH k ev m') (fun k ev m' h i => ?_) (fun ev m' i => ?_) h0
  · obtain ⟨ev1, e1, e2⟩ := step k ev m' h i
    exact ⟨ev1, e1, ws_mono e2 (fun _ _ h => h) (fun _ _ h => h) (fun _ _ h => h.elim) (fun _ _ h => h) (fun _ _ _ h => h)⟩
  · exact ⟨⟨_, hH _ _ _ i⟩, fin ev m' i⟩
end
end Lt

set_option Elab.async false
set_option linter.all false
set_option maxRecDepth 100000
/-! T9: tables by texts; disks, and how they stand in the memory. -/
namespace Lt
open PySem L2
section
variable {α : Type} {f : α → D}
def lkA (fs : List (Str × α)) (k : Str) : Option α := (fs.find? fun p => decide (p.1 = k)).map (·.2)
def putA (fs : List (Str × α)) (k : Str) (v : α) : List (Str × α) := if (fs.any fun p => decide (p.1 = k)) = true then fs.map (fun p => if p.1 = k then (p.1, v) else p) else fs ++ [(k, v)]
def dropA (fs : List (Str × α)) (k : Str) : List (Str × α) := fs.filter fun p => decide (p.1 ≠ k)
def keysA (fs : List (Str × α)) : List Str := fs.map (·.1)
def KD (f : α → D) (fs : List (Str × α)) : List (Key × D) := fs.map fun p => (.inr p.1, f p.2)
theorem lkA_nil {k : Str} : lkA ([] : List (Str × α)) k = none := rfl
theorem lkA_cons {p : Str × α} {r : List (Str × α)} {k : Str} : lkA (p :: r) k = if p.1 = k then some p.2 else lkA r k := by
  unfold lkA; by_cases h : p.1 = k <;> simp [h]
theorem any_lk {fs : List (Str × α)} {k : Str} : (fs.any fun p => decide (p.1 = k)) = (lkA fs k).isSome := by
  induction fs with
  | nil => rfl
  | cons p r ih => rw [List.any_cons, ih, lkA_cons]; by_cases h : p.1 = k <;> simp [h]
theorem putA_in {fs : List (Str × α)} {k : Str} {v w : α} (h : lkA fs k = some w) : putA fs k v = fs.map (fun p => if p.1 = k then (p.1, v) else p) := by
  unfold putA; rw [any_lk, h]; rfl
theorem putA_out {fs : List (Str × α)} {k : Str} {v : α} (h : lkA fs k = none) : putA fs k v = fs ++ [(k, v)] := by
  unfold putA; rw [any_lk, h]; rfl
theorem lkA_app {fs gs : List (Str × α)} {k : Str} : lkA (fs ++ gs) k = (lkA fs k).or (lkA gs k) := by
  induction fs with
  | nil => simp [lkA_nil]
  | cons p r ih => rw [List.cons_append, lkA_cons, lkA_cons, ih]; by_cases h : p.1 = k <;> simp [h]
theorem lk_put {fs : List (Str × α)} {k j : Str} {v : α} : lkA (putA fs k v) j = if j = k then some v else lkA fs j := by
  cases h : lkA fs k with
  | none =>
    rw [putA_out h, lkA_app, lkA_cons, lkA_nil]
    by_cases e : j = k
    · subst e; simp [h]
    · have e' : ¬ k = j := fun z => e z.symm
      simp [e, e']
  | some w =>
    rw [putA_in h]
    have key : ∀ l : List (Str × α), lkA (l.map fun p => if p.1 = k then (p.1, v) else p) j = if j = k then (lkA l k).map fun _ => v else lkA l j := fun l => by
      induction l with
      | nil => simp [lkA_nil]
      | cons p r ih =>
        rw [List.map_cons, lkA_cons, lkA_cons, lkA_cons, ih]
        by_cases e : p.1 = k
        · by_cases e2 : j = k
          · simp [e, e2]
          · have e3 : ¬ k = j := fun z => e2 z.symm
            simp [e, e2, e3]
        · by_cases e2 : j = k
          · subst e2; simp [e]
          · simp [e, e2]
    rw [key, h]; simp
theorem lk_drop {fs : List (Str × α)} {k j : Str} : lkA (dropA fs k) j = if j = k then none else lkA fs j := by
  induction fs with
  | nil => simp [dropA, lkA_nil]
  | cons p r ih =>
    unfold dropA at ih ⊢
    rw [List.filter_cons]
    by_cases e : p.1 = k
    · simp only [e, ne_eq, not_true_eq_false, decide_false, Bool.false_eq_true, if_false, ih, lkA_cons]
      by_cases e2 : j = k
      · simp [e2]
      · have e3 : ¬ k = j := fun z => e2 z.symm
        simp [e2, e3]
    · simp only [ne_eq, e, not_false_eq_true, decide_true, if_true, lkA_cons, ih]
      by_cases e2 : j = k
      · subst e2; simp [e]
      · simp [e2]
theorem keys_map {fs : List (Str × α)} {k : Str} {v : α} : keysA (fs.map fun p => if p.1 = k then (p.1, v) else p) = keysA fs := by
  unfold keysA; rw [List.map_map]; apply List.map_congr_left; intro p _; simp only [Function.comp]; split <;> rfl
theorem mem_keys {fs : List (Str × α)} {k : Str} : k ∈ keysA fs ↔ (lkA fs k).isSome = true := by
  rw [← any_lk, List.any_eq_true]; unfold keysA; simp
theorem lk_none {fs : List (Str × α)} {k : Str} : lkA fs k = none ↔ k ∉ keysA fs := by
  rw [mem_keys]; cases lkA fs k <;> simp
theorem keys_put_in {fs : List (Str × α)} {k : Str} {v w : α} (h : lkA fs k = some w) : keysA (putA fs k v) = keysA fs := by rw [putA_in h, keys_map]
theorem keys_put_out {fs : List (Str × α)} {k : Str} {v : α} (h : lkA fs k = none) : keysA (putA fs k v) = keysA fs ++ [k] := by rw [putA_out h]; simp [keysA]
theorem nd_put {fs : List (Str × α)} {k : Str} {v : α} (h : (keysA fs).Nodup) : (keysA (putA fs k v)).Nodup := by
  cases e : lkA fs k with
  | none =>
    rw [keys_put_out e, List.nodup_append]
    refine ⟨h, by simp, fun a ha b hb => ?_⟩
    simp at hb; subst hb
    intro z; subst z; exact lk_none.mp e ha
  | some w => rw [keys_put_in e]; exact h
theorem nd_drop {fs : List (Str × α)} {k : Str} (h : (keysA fs).Nodup) : (keysA (dropA fs k)).Nodup := by
  unfold keysA dropA at *
  exact List.Nodup.sublist (List.Sublist.map _ (List.filter_sublist)) h
theorem lk_mem {fs : List (Str × α)} {k : Str} {v : α} (h : lkA fs k = some v) : (k, v) ∈ fs := by
  unfold lkA at h
  obtain ⟨p, h1, h2⟩ := Option.map_eq_some_iff.mp h
  have h3 := List.find?_some h1
  have h4 := List.mem_of_find?_eq_some h1
  obtain ⟨a, b⟩ := p
  simp at h2 h3
  subst h2 h3
  exact h4
theorem lk_of_mem {fs : List (Str × α)} {k : Str} {v : α} (nd : (keysA fs).Nodup) (h : (k, v) ∈ fs) : lkA fs k = some v := by
  induction fs with
  | nil => cases h
  | cons p r ih =>
    unfold keysA at nd ih
    rw [List.map_cons, List.nodup_cons] at nd
    rw [lkA_cons]
    rcases List.mem_cons.mp h with e | h
    · subst e; simp
    · have : ¬ p.1 = k := fun e => nd.1 (by rw [e]; exact List.mem_map_of_mem (f := (·.1)) h)
      rw [if_neg this]
      exact ih nd.2 h
theorem len_put {fs : List (Str × α)} {k : Str} {v : α} : (putA fs k v).length ≤ fs.length + 1 := by
  cases e : lkA fs k with
  | none => rw [putA_out e]; simp
  | some w => rw [putA_in e]; simp
theorem len_drop {fs : List (Str × α)} {k : Str} : (dropA fs k).length ≤ fs.length := List.length_filter_le _ _
theorem mem_put {fs : List (Str × α)} {k : Str} {v : α} {p : Str × α} (h : p ∈ putA fs k v) : p = (k, v) ∨ p ∈ fs := by
  cases e : lkA fs k with
  | none => rw [putA_out e] at h; rcases List.mem_append.mp h with h | h; exact .inr h; exact .inl (by simpa using h)
  | some w =>
    rw [putA_in e] at h
    obtain ⟨q, h1, h2⟩ := List.mem_map.mp h
    by_cases z : q.1 = k
    · rw [if_pos z] at h2; exact .inl (by rw [← h2, z])
    · rw [if_neg z] at h2; exact .inr (by rw [← h2]; exact h1)
theorem mem_drop {fs : List (Str × α)} {k : Str} {p : Str × α} (h : p ∈ dropA fs k) : p ∈ fs := (List.mem_filter.mp h).1
/-! as data -/
theorem valD_KD {fs : List (Str × α)} {k : Str} : valD (KD f fs) (.inr k) = (lkA fs k).map f := by
  induction fs with
  | nil => rfl
  | cons p r ih =>
    rw [lkA_cons]
    show valD ((.inr p.1, f p.2) :: KD f r) (.inr k) = _
    by_cases e : p.1 = k
    · subst e; simp [valD]
    · rw [if_neg e, ← ih]
      have : ¬ (Sum.inr p.1 : Key) = .inr k := fun z => e (Sum.inr.inj z)
      simp [valD, this]
theorem anyKD {fs : List (Str × α)} {k : Str} : ((KD f fs).any fun kv => decide (kv.1 = .inr k)) = (lkA fs k).isSome := by
  rw [← any_lk]
  induction fs with
  | nil => rfl
  | cons p r ih => simp only [KD, List.map_cons, List.any_cons] at ih ⊢; rw [ih]; simp
theorem putKD_KD {fs : List (Str × α)} {k : Str} {v : α} {d : D} (hd : d = f v) : putKD (KD f fs) (.inr k) d = KD f (putA fs k v) := by
  subst hd
  unfold putKD
  rw [anyKD]
  cases e : lkA fs k with
  | none => rw [putA_out e]; simp [KD]
  | some w =>
    rw [putA_in e]
    simp only [Option.isSome_some, if_true, KD, List.map_map]
    apply List.map_congr_left
    intro p _
    by_cases z : p.1 = k <;> simp [z]
theorem dropKD_KD {fs : List (Str × α)} {k : Str} : dropKD (KD f fs) (.inr k) = KD f (dropA fs k) := by
  unfold dropKD dropA KD
  rw [List.filter_map]
  congr 1
  apply List.filter_congr
  intro p _
  simp
theorem keyS_KD {fs : List (Str × α)} : keyS (KD f fs) = some (keysA fs) := by
  induction fs with
  | nil => rfl
  | cons p r ih =>
    show (keyS (KD f r)).map (p.1 :: ·) = _
    rw [ih]; rfl
theorem KD_len {fs : List (Str × α)} : (KD f fs).length = fs.length := by simp [KD]
theorem KD_put_same {fs : List (Str × α)} {k : Str} {v w : α} (nd : (keysA fs).Nodup) (h : lkA fs k = some w) (e : f w = f v) : KD f (putA fs k v) = KD f fs := by
  rw [putA_in h]
  unfold KD
  rw [List.map_map]
  apply List.map_congr_left
  intro p hp
  by_cases z : p.1 = k
  · have : lkA fs p.1 = some p.2 := lk_of_mem nd hp
    rw [z, h] at this
    cases this
    simp [z, e]
  · simp [z]
end
/-! ### the memory -/
theorem set_id {m : Mem} {i : Nat} {c : Cell} (h : m[i]? = some c) : m.set i c = m := by
  apply List.ext_getElem?
  intro j
  by_cases e : i = j
  · subst e
    rw [List.getElem?_set_self (List.getElem?_eq_some_iff.mp h).1, h]
  · rw [List.getElem?_set_ne e]
theorem get_set {m : Mem} {i j : Nat} {c : Cell} : (m.set i c)[j]? = if i = j then (if i < m.length then some c else none) else m[j]? := by
  rw [List.getElem?_set]
theorem lt_of {m : Mem} {i : Nat} {c : Cell} (h : m[i]? = some c) : i < m.length := (List.getElem?_eq_some_iff.mp h).1
/-- all but these places are as they were -/
structure Fr (ws : List Nat) (m m' : Mem) : Prop where
  len : m.length ≤ m'.length
  get : ∀ j, j < m.length → j ∉ ws → m'[j]? = m[j]?
theorem Fr.refl {ws : List Nat} {m : Mem} : Fr ws m m := ⟨Nat.le_refl _, fun _ _ _ => rfl⟩
theorem Fr.trans {ws : List Nat} {m m1 m2 : Mem} (a : Fr ws m m1) (b : Fr ws m1 m2) : Fr ws m m2 := ⟨Nat.le_trans a.len b.len, fun j h n => (b.get j (Nat.lt_of_lt_of_le h a.len) n).trans (a.get j h n)⟩
theorem Fr.out {ws vs : List Nat} {m m1 m2 : Mem} (a : Fr ws m m1) (b : Fr vs m1 m2) (h : ∀ j ∈ vs, m.length ≤ j ∨ j ∈ ws) : Fr ws m m2 := ⟨Nat.le_trans a.len b.len, fun j hj n => (b.get j (Nat.lt_of_lt_of_le hj a.len) (fun z => by rcases h j z with h | h; omega; exact n h)).trans (a.get j hj n)⟩
theorem Fr.mono {ws vs : List Nat} {m m' : Mem} (a : Fr ws m m') (h : ∀ j ∈ ws, j ∈ vs) : Fr vs m m' := ⟨a.len, fun j hj n => a.get j hj fun z => n (h j z)⟩
theorem Fr.app {ws : List Nat} {m g : Mem} : Fr ws m (m ++ g) := ⟨by simp, fun j h _ => List.getElem?_append_left h⟩
theorem Fr.appR {ws : List Nat} {m m' g : Mem} (a : Fr ws m m') : Fr ws m (m' ++ g) := a.trans .app
theorem Fr.set {ws : List Nat} {m : Mem} {i : Nat} {c : Cell} (h : i ∈ ws) : Fr ws m (m.set i c) := ⟨by simp, fun j _ n => by rw [List.getElem?_set_ne (fun e => n (by rw [← e]; exact h))]⟩
theorem Fr.setN {ws : List Nat} {m m' : Mem} {i : Nat} {c : Cell} (a : Fr ws m m') (h : m.length ≤ i ∨ i ∈ ws) : Fr ws m (m'.set i c) := ⟨by simp [a.len], fun j hj n => by
  rw [List.getElem?_set_ne (fun e => ?_)]
  · exact a.get j hj n
  · rcases h with h | h
    · omega
    · exact n (by rw [← e]; exact h)⟩
theorem Fr.at {ws : List Nat} {m m' : Mem} {j : Nat} {c : Cell} (a : Fr ws m m') (h : m[j]? = some c) (n : j ∉ ws) : m'[j]? = some c := (a.get j (lt_of h) n).trans h
theorem Fr.take {ws : List Nat} {m m' : Mem} (a : Fr [] m m') : m'.take m.length = m := by
  apply List.ext_getElem?
  intro j
  by_cases h : j < m.length
  · rw [List.getElem?_take_of_lt h, a.get j h (by simp)]
  · rw [List.getElem?_eq_none (by rw [List.length_take]; omega), List.getElem?_eq_none (by omega)]
/-! ### disks -/
structure Fl where
  bs : List Int
  su : Nat
structure Dk where
  room : Option Nat
  fs : List (Str × Fl)
def hD (v : Fl) : D := .lst (v.bs.map .int)
def sD (v : Fl) : D := .int (v.su : Nat)
def rD : Option Nat → D
  | none => .non
  | some r => .int (r : Nat)
def dfs (n : Nat) (r : Option Nat) : List (Str × D) := [("room", rD r), ("held", .ref (n + 1)), ("sure", .ref (n + 2))]
/-- a disk's three cells, whatever its dicts hold -/
structure DrAt (m : Mem) (n : Nat) (r : Option Nat) (hs ss : List (Key × D)) : Prop where
  i : m[n]? = some (.ins .disk (dfs n r))
  h : m[n + 1]? = some (.dic false hs)
  s : m[n + 2]? = some (.dic false ss)
def putDr (n : Nat) (r : Option Nat) (hs ss : List (Key × D)) (m : Mem) : Mem := ((m.set n (.ins .disk (dfs n r))).set (n + 1) (.dic false hs)).set (n + 2) (.dic false ss)
abbrev at3 (n : Nat) : List Nat := [n, n + 1, n + 2]
section
variable {m : Mem} {n : Nat} {r r' : Option Nat} {hs ss hs' ss' : List (Key × D)}
@[simp] theorem putDr_len : (putDr n r hs ss m).length = m.length := by simp [putDr]
@[simp] theorem putDr_take : (putDr n r hs ss m).take m.length = putDr n r hs ss m := List.take_of_length_le (by simp)
theorem putDr_fr : Fr (at3 n) m (putDr n r hs ss m) := ((Fr.set (by simp)).trans (Fr.set (by simp))).trans (Fr.set (by simp))
theorem DrAt.lt (a : DrAt m n r hs ss) : n + 2 < m.length := lt_of a.s
theorem putDr_i (h : n + 2 < m.length) : (putDr n r hs ss m)[n]? = some (.ins .disk (dfs n r)) := by
  have h1 : n < m.length := by omega
  simp [putDr, get_set, h1]
theorem putDr_h (h : n + 2 < m.length) : (putDr n r hs ss m)[n + 1]? = some (.dic false hs) := by
  have h1 : n + 1 < m.length := by omega
  simp [putDr, get_set, h1]
theorem putDr_s (h : n + 2 < m.length) : (putDr n r hs ss m)[n + 2]? = some (.dic false ss) := by simp [putDr, get_set, h]
theorem putDr_at (h : n + 2 < m.length) : DrAt (putDr n r hs ss m) n r hs ss := ⟨putDr_i h, putDr_h h, putDr_s h⟩
@[simp] theorem putDr_put : putDr n r' hs' ss' (putDr n r hs ss m) = putDr n r' hs' ss' m := by
  apply List.ext_getElem?
  intro j
  simp only [putDr, get_set, List.length_set]
  repeat' split <;> try rfl
theorem DrAt.same (a : DrAt m n r hs ss) : putDr n r hs ss m = m := by
  unfold putDr
  rw [set_id a.i, set_id a.h, set_id a.s]
theorem DrAt.fr {ws : List Nat} {m' : Mem} (a : DrAt m n r hs ss) (f : Fr ws m m') (h : n ∉ ws ∧ n + 1 ∉ ws ∧ n + 2 ∉ ws) : DrAt m' n r hs ss := ⟨f.at a.i h.1, f.at a.h h.2.1, f.at a.s h.2.2⟩
@[simp] theorem putDr_rd (h : n + 2 < m.length) : rdI .disk (.ref n) (putDr n r hs ss m) = some (dfs n r) := rdI_at (putDr_i h)
@[simp] theorem putDr_kh (h : n + 2 < m.length) : rdK (.ref (n + 1)) (putDr n r hs ss m) = some hs := rdK_at (putDr_h h)
@[simp] theorem putDr_ks (h : n + 2 < m.length) : rdK (.ref (n + 2)) (putDr n r hs ss m) = some ss := rdK_at (putDr_s h)
@[simp] theorem putDr_ch (h : n + 2 < m.length) : rdC (.ref (n + 1)) (putDr n r hs ss m) = some hs := rdC_at (putDr_h h)
@[simp] theorem putDr_cs (h : n + 2 < m.length) : rdC (.ref (n + 2)) (putDr n r hs ss m) = some ss := rdC_at (putDr_s h)
theorem inD_dic {i : Nat} {lk : Bool} {kvs : List (Key × D)} {k : Str} (h : m[i]? = some (.dic lk kvs)) : inD (.str k) (.ref i) m = some (valD kvs (.inr k)).isSome := by
  have e1 : rdL (.ref i) m = none := by simp [rdL, h]
  have e2 := rdK_at h
  show (match rdL (.ref i) m with | some ys => _ | none => match rdK (.ref i) m, keyD (.str k) with | some kvs, some k => some (valD kvs k).isSome | _, _ => none) = _
  rw [e1, e2]; rfl
theorem oIx_dic {i : Nat} {lk : Bool} {kvs : List (Key × D)} {k : Str} {Q : D → Mem → Prop} {X : Ecl → Mem → Prop} (h : m[i]? = some (.dic lk kvs)) : wp (oIx (.ref i) (.str k) m) Q X = ∃ d, valD kvs (.inr k) = some d ∧ Q d m := by
  show wp (match rdK (.ref i) m with | some kvs => (match valD kvs (.inr k) with | some d => R.ok d m | none => .stk) | none => .stk) Q X = _
  rw [rdK_at h]
  cases h2 : valD kvs (.inr k) <;> simp [h2]
@[simp] theorem putDr_inh {k : Str} (h : n + 2 < m.length) : inD (.str k) (.ref (n + 1)) (putDr n r hs ss m) = some (valD hs (.inr k)).isSome := inD_dic (putDr_h h)
@[simp] theorem putDr_ixh {k : Str} {Q : D → Mem → Prop} {X : Ecl → Mem → Prop} (h : n + 2 < m.length) : wp (oIx (.ref (n + 1)) (.str k) (putDr n r hs ss m)) Q X = ∃ d, valD hs (.inr k) = some d ∧ Q d (putDr n r hs ss m) := oIx_dic (putDr_h h)
@[simp] theorem putDr_ixs {k : Str} {Q : D → Mem → Prop} {X : Ecl → Mem → Prop} (h : n + 2 < m.length) : wp (oIx (.ref (n + 2)) (.str k) (putDr n r hs ss m)) Q X = ∃ d, valD ss (.inr k) = some d ∧ Q d (putDr n r hs ss m) := oIx_dic (putDr_s h)
@[simp] theorem putDr_seti (h : n + 2 < m.length) : (putDr n r hs ss m).set n (.ins .disk (dfs n r')) = putDr n r' hs ss m := by
  apply List.ext_getElem?
  intro j
  simp only [putDr, get_set, List.length_set]
  by_cases e : n = j
  · subst e; simp
  · simp [e]
@[simp] theorem putDr_seth (h : n + 2 < m.length) : (putDr n r hs ss m).set (n + 1) (.dic false hs') = putDr n r hs' ss m := by
  apply List.ext_getElem?
  intro j
  simp only [putDr, get_set, List.length_set]
  by_cases e : n + 1 = j
  · subst e; simp
  · simp [e]
@[simp] theorem putDr_sets (h : n + 2 < m.length) : (putDr n r hs ss m).set (n + 2) (.dic false ss') = putDr n r hs ss' m := by
  apply List.ext_getElem?
  intro j
  simp only [putDr, get_set, List.length_set]
  by_cases e : n + 2 = j
  · subst e; simp
  · simp [e]
end
structure DiskAt (m : Mem) (n : Nat) (d : Dk) : Prop where
  at_ : DrAt m n d.room (KD hD d.fs) (KD sD d.fs)
  nd : (keysA d.fs).Nodup
abbrev putDk (n : Nat) (d : Dk) (m : Mem) : Mem := putDr n d.room (KD hD d.fs) (KD sD d.fs) m
theorem DiskAt.fr {ws : List Nat} {m m' : Mem} {n : Nat} {d : Dk} (a : DiskAt m n d) (f : Fr ws m m') (h : n ∉ ws ∧ n + 1 ∉ ws ∧ n + 2 ∉ ws) : DiskAt m' n d := ⟨a.at_.fr f h, a.nd⟩
theorem DiskAt.put {m : Mem} {n : Nat} {d e : Dk} (a : DiskAt m n d) (nd : (keysA e.fs).Nodup) : DiskAt (putDk n e m) n e := ⟨putDr_at a.at_.lt, nd⟩
theorem DiskAt.same {m : Mem} {n : Nat} {d : Dk} (a : DiskAt m n d) : putDk n d m = m := a.at_.same
@[simp] theorem dfs_room {n : Nat} {r : Option Nat} : fget (dfs n r) "room" = some (rD r) := rfl
@[simp] theorem dfs_held {n : Nat} {r : Option Nat} : fget (dfs n r) "held" = some (.ref (n + 1)) := rfl
@[simp] theorem dfs_sure {n : Nat} {r : Option Nat} : fget (dfs n r) "sure" = some (.ref (n + 2)) := rfl
theorem dfs_no {n : Nat} {r : Option Nat} {k : Str} (h1 : k ≠ "room") (h2 : k ≠ "held") (h3 : k ≠ "sure") : fget (dfs n r) k = none := by
  have e1 : (k == ("room" : Str)) = false := beq_eq_false_iff_ne.mpr h1
  have e2 : (k == ("held" : Str)) = false := beq_eq_false_iff_ne.mpr h2
  have e3 : (k == ("sure" : Str)) = false := beq_eq_false_iff_ne.mpr h3
  simp only [dfs, fget, List.lookup, e1, e2, e3]
@[simp] theorem dfs_use {n : Nat} {r : Option Nat} : fget (dfs n r) "use" = none := dfs_no (by decide +kernel) (by decide +kernel) (by decide +kernel)
@[simp] theorem dfs_need {n : Nat} {r : Option Nat} : fget (dfs n r) "need" = none := dfs_no (by decide +kernel) (by decide +kernel) (by decide +kernel)
@[simp] theorem dfs_look {n : Nat} {r : Option Nat} : fget (dfs n r) "look" = none := dfs_no (by decide +kernel) (by decide +kernel) (by decide +kernel)
@[simp] theorem dfs_names {n : Nat} {r : Option Nat} : fget (dfs n r) "names" = none := dfs_no (by decide +kernel) (by decide +kernel) (by decide +kernel)
@[simp] theorem dfs_read {n : Nat} {r : Option Nat} : fget (dfs n r) "read" = none := dfs_no (by decide +kernel) (by decide +kernel) (by decide +kernel)
@[simp] theorem dfs_piece {n : Nat} {r : Option Nat} : fget (dfs n r) "piece" = none := dfs_no (by decide +kernel) (by decide +kernel) (by decide +kernel)
@[simp] theorem dfs_size {n : Nat} {r : Option Nat} : fget (dfs n r) "size" = none := dfs_no (by decide +kernel) (by decide +kernel) (by decide +kernel)
@[simp] theorem dfs_write {n : Nat} {r : Option Nat} : fget (dfs n r) "write" = none := dfs_no (by decide +kernel) (by decide +kernel) (by decide +kernel)
@[simp] theorem dfs_sync {n : Nat} {r : Option Nat} : fget (dfs n r) "sync" = none := dfs_no (by decide +kernel) (by decide +kernel) (by decide +kernel)
@[simp] theorem dfs_shorten {n : Nat} {r : Option Nat} : fget (dfs n r) "shorten" = none := dfs_no (by decide +kernel) (by decide +kernel) (by decide +kernel)
@[simp] theorem dfs_rename {n : Nat} {r : Option Nat} : fget (dfs n r) "rename" = none := dfs_no (by decide +kernel) (by decide +kernel) (by decide +kernel)
@[simp] theorem dfs_remove {n : Nat} {r : Option Nat} : fget (dfs n r) "remove" = none := dfs_no (by decide +kernel) (by decide +kernel) (by decide +kernel)
@[simp] theorem dfs_after {n : Nat} {r : Option Nat} : fget (dfs n r) "after" = none := dfs_no (by decide +kernel) (by decide +kernel) (by decide +kernel)
@[simp] theorem dfs_put {n : Nat} {r s : Option Nat} : putD "room" (rD s) (dfs n r) = dfs n s := rfl
@[simp] theorem dfs_len {n : Nat} {r : Option Nat} : (dfs n r).length = 3 := rfl
end Lt

set_option Elab.async false
set_option linter.all false
set_option maxRecDepth 100000
/-! NA: numbers in names, plainly. -/
namespace Lt
open PySem L2
open PySem.NumText (digitsVal AllDigits)
/-- a number's figures -/
def numS (n : Nat) : Str := Str.ofString (toString (n : Int))
theorem numS_l (n : Nat) : (numS n).cps.toList = (Nat.toDigits 10 n).map Char.toNat := PySem.W.KIN.signs_num n
theorem numS_len {n : Nat} : (numS n).length = (Nat.toDigits 10 n).length := by
  rw [str_len, numS_l]; simp
theorem numS_val (n : Nat) : digitsVal (numS n).cps.toList = n := by rw [numS_l]; exact PySem.W.KIN.val_back n
theorem strL_inj {a b : Str} (h : a.cps.toList = b.cps.toList) : a = b := by
  cases a with | mk a => cases b with | mk b => simp at h; rw [h]
theorem numS_inj {a b : Nat} (h : numS a = numS b) : a = b := by rw [← numS_val a, ← numS_val b, h]
theorem strApp_l (a b : Str) : (a ++ b).cps.toList = a.cps.toList ++ b.cps.toList := by
  cases a; cases b
  show (_ ++ _ : Array Nat).toList = _
  simp
theorem name_inj {h : Str} {a b : Nat} (e : h ++ numS a = h ++ numS b) : a = b := by
  apply numS_inj
  apply strL_inj
  have := congrArg (fun s : Str => s.cps.toList) e
  simp only [strApp_l] at this
  exact List.append_cancel_left this
theorem numS_digits (n : Nat) : AllDigits (numS n).cps.toList := by
  intro c hc
  rw [numS_l] at hc
  obtain ⟨ch, hch, e⟩ := List.mem_map.mp hc
  rw [← e]
  have := Nat.isDigit_of_mem_toDigits (by decide) (by decide) hch
  have h2 : ch.toNat = ch.val.toNat := rfl
  simp only [Char.isDigit, Bool.and_eq_true, decide_eq_true_eq] at this
  rw [h2]
  exact ⟨this.1, this.2⟩
theorem toDigits_head {n : Nat} (h : 1 ≤ n) : ∃ c r, Nat.toDigits 10 n = c :: r ∧ c.toNat ≠ 48 := by
  induction n using Nat.strongRecOn with
  | _ n ih =>
    by_cases z : n < 10
    · rw [Nat.toDigits_of_lt_base z]
      refine ⟨_, [], rfl, ?_⟩
      have : ∀ d : Nat, d < 10 → 1 ≤ d → (Nat.digitChar d).toNat ≠ 48 := by decide
      exact this n z h
    · have hm : n % 10 < 10 := Nat.mod_lt n (by decide)
      have t : Nat.toDigits 10 (n / 10) ++ Nat.toDigits 10 (n % 10) = Nat.toDigits 10 (10 * (n / 10) + n % 10) := Nat.toDigits_append_toDigits (by decide) (by omega) hm
      rw [Nat.div_add_mod] at t
      obtain ⟨c, r, e, hc⟩ := ih (n / 10) (by omega) (by omega)
      rw [← t, e]
      exact ⟨c, _, rfl, hc⟩
theorem numS_head {n : Nat} (h : 1 ≤ n) : ∃ c r, (numS n).cps.toList = c :: r ∧ c ≠ 48 := by
  obtain ⟨c, r, e, hc⟩ := toDigits_head h
  exact ⟨c.toNat, r.map Char.toNat, by rw [numS_l, e]; rfl, hc⟩
theorem numS_len1 (n : Nat) : 1 ≤ (numS n).length := by
  by_cases h : n = 0
  · subst h; decide +kernel
  · obtain ⟨c, r, e, _⟩ := numS_head (n := n) (by omega)
    rw [str_len, e]; simp
theorem numS_len9 {n : Nat} (h : n ≤ 999999999) : (numS n).length ≤ 9 := by
  rw [numS_len]
  have e := (Nat.length_repr_le_iff (n := n) (by decide : 0 < 9)).mpr (show n < 10 ^ 9 by omega)
  rwa [← String.length_toList, Nat.toList_repr] at e
def isDig (c : Nat) : Bool := decide (48 ≤ c) && decide (c ≤ 57)
theorem isdigit_of {w : Str} (h : ∀ c ∈ w.cps.toList, c < 128) : Txt.isdigit w = (decide (0 < w.length) && w.cps.toList.all isDig) := by
  unfold Txt.isdigit
  rw [← Array.all_toList]
  congr 1
  rw [Bool.eq_iff_iff]
  simp only [List.all_eq_true]
  have one : ∀ c, c < 128 → Unicode.isDigit c = isDig c := by
    intro c hc
    have := PySem.W.os_isdigit hc
    unfold Txt.isdigit at this
    have l1 : (⟨#[c]⟩ : Str).length = 1 := rfl
    simpa [isDig, l1] using this
  constructor
  · intro g c hc; rw [← one c (h c hc)]; exact g c hc
  · intro g c hc; rw [one c (h c hc)]; exact g c hc
/-- the number in a name -/
def numIn (h s : Str) : Option Nat :=
  let w := s.cps.toList.drop h.length
  if Txt.startswith s h = true ∧ 1 ≤ w.length ∧ w.length ≤ 9 ∧ w.all isDig = true ∧ w.head? ≠ some 48 then some (digitsVal w) else none
theorem starts_app (h y : Str) : Txt.startswith (h ++ y) h = true := by
  have la : h.cps.toList.length = h.length := Array.length_toList
  have s : Builtin.Str.subAt (h ++ y) h 0 = true := by
    rw [StrLaws.subAt_eq, strApp_l, List.drop_zero, ← la, List.take_left]
    exact beq_self_eq_true _
  unfold Txt.startswith
  rw [s, Bool.and_true]
  exact decide_eq_true (by rw [PySem.Str.length_append]; omega)
theorem starts_cut {h s : Str} (e : Txt.startswith s h = true) : s.cps.toList = h.cps.toList ++ s.cps.toList.drop h.length := by
  have la : h.cps.toList.length = h.length := Array.length_toList
  unfold Txt.startswith at e
  rw [Bool.and_eq_true] at e
  have e2 := e.2
  rw [StrLaws.subAt_eq, List.drop_zero] at e2
  have e3 := eq_of_beq e2
  rw [← la] at e3 ⊢
  conv => lhs; rw [← List.take_append_drop h.cps.toList.length s.cps.toList]
  rw [e3]
theorem allDig {w : List Nat} : w.all isDig = true ↔ AllDigits w := by
  simp [AllDigits, isDig]
theorem numIn_app (h : Str) {n : Nat} (h1 : 1 ≤ n) (h2 : n ≤ 999999999) : numIn h (h ++ numS n) = some n := by
  have la : h.cps.toList.length = h.length := Array.length_toList
  have e : (h ++ numS n).cps.toList.drop h.length = (numS n).cps.toList := by rw [strApp_l, ← la, List.drop_left]
  obtain ⟨c, r, e2, hc⟩ := numS_head h1
  have l1 := numS_len1 n
  have l9 := numS_len9 h2
  rw [str_len] at l1 l9
  unfold numIn
  simp only [e]
  rw [if_pos ⟨starts_app _ _, l1, l9, allDig.mpr (numS_digits n), by rw [e2]; simp; exact hc⟩, numS_val]
theorem digitsVal_ltR : ∀ (v : List Nat), AllDigits v.reverse → digitsVal v.reverse < 10 ^ v.length
  | [], _ => by simp [digitsVal]
  | a :: v, p => by
    rw [List.reverse_cons] at p ⊢
    have h1 := digitsVal_ltR v (fun d hd => p d (List.mem_append_left _ hd))
    have h2 := p a (List.mem_append_right _ (List.mem_singleton.mpr rfl))
    rw [PySem.NumText.digitsVal_snoc]
    simp only [List.length_cons, Nat.pow_succ]
    omega
theorem digitsVal_lt (w : List Nat) (h : AllDigits w) : digitsVal w < 10 ^ w.length := by
  have := digitsVal_ltR w.reverse (by rw [List.reverse_reverse]; exact h)
  rw [List.reverse_reverse, List.length_reverse] at this
  exact this
theorem numIn_eq {h s : Str} {n : Nat} (e : numIn h s = some n) : s = h ++ numS n ∧ 1 ≤ n ∧ n ≤ 999999999 := by
  unfold numIn at e
  simp only at e
  split at e
  · rename_i c
    obtain ⟨c1, c2, c3, c4, c5⟩ := c
    have e1 := starts_cut c1
    generalize s.cps.toList.drop h.length = w at *
    cases e
    have ad := allDig.mp c4
    cases hw : w with
    | nil => rw [hw] at c2; simp at c2
    | cons a r =>
      have ha : 49 ≤ a := by
        have := ad a (by rw [hw]; exact List.mem_cons_self)
        have h5 : a ≠ 48 := fun z => c5 (by rw [hw, z]; rfl)
        omega
      have t := PySem.NumText.toDigits_digitsVal r.length w (by rw [hw]; rfl) ad (.inr ⟨a, r, hw, ha⟩)
      have ew : (numS (digitsVal w)).cps.toList = w := by
        rw [numS_l, t, List.map_map]
        have : ∀ c ∈ w, (Char.toNat ∘ Char.ofNat) c = c := by
          intro c hc
          have := ad c hc
          have k : ∀ n : Fin 128, (Char.ofNat n.val).toNat = n.val := by decide +kernel
          exact k ⟨c, by omega⟩
        rw [List.map_congr_left this, List.map_id']
      rw [← hw]
      refine ⟨strL_inj (by rw [strApp_l, ew]; exact e1), ?_, ?_⟩
      · rw [hw]; exact PySem.NumText.digitsVal_pos ha
      · have hb := digitsVal_lt
        have := hb w ad
        have p : 10 ^ w.length ≤ 10 ^ 9 := Nat.pow_le_pow_right (by decide) c3
        omega
  · cases e
theorem numIn_no {h s : Str} (e : Txt.startswith s h = false) : numIn h s = none := by
  unfold numIn
  simp only
  rw [if_neg (by rw [e]; simp)]
end Lt

set_option Elab.async false
set_option linter.all false
set_option maxRecDepth 100000
/-! S15: the program's disks. -/
namespace Lt
open PySem L2
theorem runF_ok {k n : Nat} {b : SC} {ds : List D} {d : D} {m m1 : Mem} (h : ds.length = k) (w : ws (b (evOf n ds) m) ⟨fun _ m' => d = .non ∧ m' = m1, fun d' m' => d' = d ∧ m' = m1, fun _ _ => False, fun _ _ => False, fun _ _ _ => False⟩) : runF k n b ds m = .ok d m1 := by
  rw [runF_eq h, runB]
  cases q : b (evOf n ds) m <;> rw [q] at w <;> simp at w
  · obtain ⟨rfl, rfl⟩ := w; rfl
  · obtain ⟨rfl, rfl⟩ := w; rfl
theorem runF_exc {k n : Nat} {b : SC} {ds : List D} {c : Ecl} {m m1 : Mem} (h : ds.length = k) (w : ws (b (evOf n ds) m) ⟨fun _ _ => False, fun _ _ => False, fun _ _ => False, fun _ _ => False, fun c' _ m' => c' = c ∧ m' = m1⟩) : runF k n b ds m = .exc c m1 := by
  rw [runF_eq h, runB]
  cases q : b (evOf n ds) m <;> rw [q] at w <;> simp at w
  obtain ⟨rfl, rfl⟩ := w; rfl
def useR : Option Nat → Nat → Option Nat
  | none, _ => none
  | some r, k => some (r - min k r)
def useK : Option Nat → Nat → Nat
  | none, k => k
  | some r, k => min k r
def Dk.use (d : Dk) (k : Nat) : Dk := { d with room := useR d.room k }
theorem DiskAt.use {m : Mem} {n : Nat} {d : Dk} (a : DiskAt m n d) (k : Nat) : DiskAt (putDk n (d.use k) m) n (d.use k) := a.put a.nd
theorem sp_use {m : Mem} {n : Nat} {r : Option Nat} {hs ss : List (Key × D)} (a : n + 2 < m.length) (k : Nat) : m_Disk_use [.ref n, .int (k : Nat)] (putDr n r hs ss m) = .ok (.int (useK r k : Nat)) (putDr n (useR r k) hs ss m) := by
  refine runF_ok rfl ?_
  unfold b_Disk_use
  rw [ws_sSeq, ws_sIf]
  simp only [evOf, List.replicate]
  cases r with
  | none => simp [a, rD, useR, useK]
  | some r =>
    simp [a, rD]
    rw [ws_sSeq]
    simp [a, rD]
    rw [ws_sSeq]
    simp [a, rD, useK, useR]
    have e2 : (if r < k then (r : Int) else (k : Int)) = ((min k r : Nat) : Int) := by split <;> omega
    rw [e2]
    refine ⟨rfl, ?_⟩
    have e3 : ((r : Int) - ((min k r : Nat) : Int)) = ((r - min k r : Nat) : Int) := by omega
    rw [e3]
    exact putDr_seti (r' := some (r - min k r)) a
theorem sp_need {m : Mem} {n : Nat} {r : Option Nat} {hs ss : List (Key × D)} (a : n + 2 < m.length) : m_Disk_need [.ref n] (putDr n r hs ss m) = if r = some 0 then .exc .stop (putDr n r hs ss m) else .ok .non (putDr n (useR r 1) hs ss m) := by
  have h1 := sp_use (r := r) (hs := hs) (ss := ss) a 1
  split
  · rename_i hr
    subst hr
    refine runF_exc rfl ?_
    unfold b_Disk_need
    rw [ws_sIf]
    simp [useK, useR] at h1
    simp [evOf, a, h1]
  · rename_i hr
    refine runF_ok rfl ?_
    unfold b_Disk_need
    rw [ws_sIf]
    have hk : ¬ useK r 1 = 0 := by
      cases r with
      | none => simp [useK]
      | some r => have : r ≠ 0 := fun z => hr (by rw [z]); simp [useK]; omega
    simp at h1
    simp [evOf, a, h1, hk]
section
variable {m : Mem} {n : Nat} {d : Dk} {r : Option Nat} {hs ss : List (Key × D)}
theorem sp_look (a : n + 2 < m.length) (k : Str) : m_Disk_look [.ref n, .str k] (putDr n r hs ss m) = if (valD hs (.inr k)).isSome = true then .ok .non (putDr n r hs ss m) else .exc .file (putDr n r hs ss m) := by
  split
  · rename_i h
    obtain ⟨v, hv⟩ := Option.isSome_iff_exists.mp h
    refine runP_ok rfl rfl ?_
    unfold b_Disk_look
    rw [ws_sIf]
    simp [evOf, a, hv]
  · rename_i h
    refine runP_exc rfl ?_
    unfold b_Disk_look
    rw [ws_sIf]
    simp at h
    simp [evOf, a, h]
theorem keys_len {α : Type} (fs : List (Str × α)) : (keysA fs).length = fs.length := by simp [keysA]
def strsD (ss : List Str) : D := .lst (ss.map D.str)
theorem flat0s_strs : ∀ ss : List Str, flat0s (ss.map D.str) = true
  | [] => rfl
  | s :: r => by simp [flat0s, flat0, flat0s_strs r]
@[simp] theorem flat0_strs (ss : List Str) : flat0 (strsD ss) = true := by simp [strsD, flat0, flat0s_strs]
theorem sort_len (ss : List Str) : (sortS ss).length = ss.length := (sortS_perm ss).length_eq
theorem sp_names (a : DiskAt m n d) (hl : d.fs.length < 64) : m_Disk_names [.ref n] m = .ok (strsD (sortS (keysA d.fs))) m := by
  have al := a.at_.lt
  rw [← a.same]
  refine runP_ok rfl (by simp) ?_
  unfold b_Disk_names
  simp [evOf, al, keyS_KD, keys_len, hl, sort_len, strsD]
  omega
def c_small (c : Nat) : Bool := decide (c ∈ c_SMALL.cps.toList)
def nameOk (s : Str) : Bool := decide (1 ≤ s.length) && decide (s.length ≤ 20) && s.cps.toList.all c_small
theorem sp_look_name (s : Str) (hs : s.length ≤ 16777216) (m : Mem) : m_look_name [.str s] m = if nameOk s = true then .ok .non m else .exc .file m := by
  have all : (eB1 bAll (aCons (eLc false [1] (iStr (eVar 0)) (Lt.gName 1) Lt.tYes (eBin oIn (eVar 1) (eC (.str c_SMALL)))) aNil)) [some (.str s), none] m = .ok (.bl (s.cps.toList.all c_small)) m := by
    refine wp_eq ?_
    simp
    refine wp_lcA s.cps.toList _ (fun c => [some (.str s), some (.str ⟨#[c]⟩)]) (fun c => .bl (c_small c)) trivial (by rw [← str_len]; exact hs) (fun c _ => by simp [wipeE]) (fun c _ => by simp [c_small, inD]; exact (Classical.em _).symm) ?_
    rw [allB_map]
    have h2 : s.cps.size ≤ 16777216 := by have := hs; rw [str_len] at this; simpa using this
    simp [h2, hs]
  have ev2 : evOf 2 [.str s] = [some (.str s), none] := rfl
  split
  · rename_i h
    simp only [nameOk, Bool.and_eq_true, decide_eq_true_eq] at h
    obtain ⟨⟨h1, h2⟩, h3⟩ := h
    refine runP_ok rfl rfl ?_
    unfold b_look_name
    generalize (eB1 bAll (aCons (eLc false [1] (iStr (eVar 0)) (Lt.gName 1) Lt.tYes (eBin oIn (eVar 1) (eC (.str c_SMALL)))) aNil)) = ca at all
    rw [ws_sIf, ev2]
    simp [all, hs, h3]
    omega
  · rename_i h
    refine runP_exc rfl ?_
    unfold b_look_name
    generalize (eB1 bAll (aCons (eLc false [1] (iStr (eVar 0)) (Lt.gName 1) Lt.tYes (eBin oIn (eVar 1) (eC (.str c_SMALL)))) aNil)) = ca at all
    rw [ws_sIf, ev2]
    simp only [nameOk, Bool.and_eq_true, decide_eq_true_eq, not_and] at h
    by_cases h1 : 1 ≤ s.length
    · by_cases h2 : s.length ≤ 20
      · have h3 := h ⟨h1, h2⟩
        rw [Bool.not_eq_true] at h3
        simp [all, hs, h3]
        omega
      · simp [all, hs]
        omega
    · simp [all, hs]
      omega
def Dk.getF (d : Dk) (k : Str) : Fl := (lkA d.fs k).getD ⟨[], 0⟩
def Dk.putF (d : Dk) (k : Str) (v : Fl) : Dk := { d with fs := putA d.fs k v }
theorem putH (fs : List (Str × Fl)) (k : Str) (bs : List Int) (su : Nat) : putKD (KD hD fs) (.inr k) (.lst (bs.map .int)) = KD hD (putA fs k ⟨bs, su⟩) := putKD_KD rfl
theorem putS (fs : List (Str × Fl)) (k : Str) (bs : List Int) (su : Nat) : putKD (KD sD fs) (.inr k) (.int (su : Nat)) = KD sD (putA fs k ⟨bs, su⟩) := putKD_KD rfl
/-- bytes behind a file's, as many as there is room for -/
def Dk.wrK (d : Dk) (bs : List Int) : Nat := useK (useR d.room 1) bs.length
def Dk.wr (d : Dk) (k : Str) (bs : List Int) : Dk := ⟨useR (useR d.room 1) bs.length, putA d.fs k ⟨(d.getF k).bs ++ bs.take (d.wrK bs), (d.getF k).su⟩⟩
theorem useK_le (r : Option Nat) (k : Nat) : useK r k ≤ k := by cases r <;> simp [useK]; omega
theorem putA_put {α : Type} {fs : List (Str × α)} {k : Str} {v w : α} : putA (putA fs k v) k w = putA fs k w := by
  cases h : lkA fs k with
  | none =>
    have h2 : lkA (fs ++ [(k, v)]) k = some v := by rw [← putA_out h, lk_put]; simp
    rw [putA_out h, putA_in h2, putA_out h, List.map_append]
    congr 1
    · conv => rhs; rw [← List.map_id fs]
      apply List.map_congr_left
      intro p hp
      have : ¬ p.1 = k := fun e => lk_none.mp h (by rw [← e]; exact List.mem_map_of_mem (f := (·.1)) hp)
      simp [this]
    · simp
  | some u =>
    have h2 : lkA (putA fs k v) k = some v := by rw [lk_put]; simp
    rw [putA_in h2, putA_in h, putA_in h, List.map_map]
    apply List.map_congr_left
    intro p _
    by_cases e : p.1 = k <;> simp [e]
theorem ws_write (a : n + 2 < m.length) {k : Str} (hk : nameOk k = true) {bs : List Int} (hr : d.room ≠ some 0) (hl : d.fs.length < 1000000) (nd : (keysA d.fs).Nodup) (hb : (d.getF k).bs.length + bs.length ≤ 16777216) (P : Po)
    (q : if d.wrK bs < bs.length then P.xc .stop [some (.ref n), some (.str k), some (.lst (bs.map .int)), some (.int (d.wrK bs : Nat))] (putDk n (d.wr k bs) m) else P.nx [some (.ref n), some (.str k), some (.lst (bs.map .int)), some (.int (d.wrK bs : Nat))] (putDk n (d.wr k bs) m)) :
    ws (b_Disk_write [some (.ref n), some (.str k), some (.lst (bs.map .int)), none] (putDk n d m)) P := by
  have hks : k.length ≤ 16777216 := by simp only [nameOk, Bool.and_eq_true, decide_eq_true_eq] at hk; omega
  have hn := sp_look_name k hks (putDk n d m)
  rw [if_pos hk] at hn
  have hd := sp_need (r := d.room) (hs := KD hD d.fs) (ss := KD sD d.fs) a
  rw [if_neg hr] at hd
  have hu := fun hs ss => sp_use (r := useR d.room 1) (hs := hs) (ss := ss) a bs.length
  have hl' : d.fs.length < 16777216 := by omega
  unfold b_Disk_write
  rw [ws_sSeq]
  simp [hn]
  rw [ws_sSeq]
  simp [a, hd]
  refine ws_cut (fun ev m' => ev = [some (.ref n), some (.str k), some (.lst (bs.map .int)), none] ∧ m' = putDk n ⟨useR d.room 1, putA d.fs k (d.getF k)⟩ m) ?_ ?_
  · rw [ws_sIf]
    cases hv : lkA d.fs k with
    | some v =>
      have hf : d.getF k = v := by simp [Dk.getF, hv]
      simp [a, valD_KD, hv, hf]
      show putDr n (useR d.room 1) (KD hD d.fs) (KD sD d.fs) m = putDr n (useR d.room 1) (KD hD (putA d.fs k v)) (KD sD (putA d.fs k v)) m
      rw [KD_put_same nd hv rfl, KD_put_same nd hv rfl]
    | none =>
      have hf : d.getF k = ⟨[], 0⟩ := by simp [Dk.getF, hv]
      simp [a, valD_KD, hv]
      rw [ws_sSeq]
      simp [a, KD_len, hl', hf]
      have e1 := putH d.fs k [] 0
      have e2 := putS d.fs k [] 0
      simp at e1 e2
      rw [e1, e2]
  rintro _ _ ⟨rfl, rfl⟩
  rw [ws_sSeq]
  simp [a, hu]
  rw [ws_sSeq]
  have hw : useK (useR d.room 1) bs.length ≤ bs.length := useK_le _ _
  have hcb : bs.length ≤ 16777216 := by omega
  have hfb : (d.getF k).bs.length + useK (useR d.room 1) bs.length ≤ 16777216 := by omega
  have hk2 : lkA (putA d.fs k (d.getF k)) k = some (d.getF k) := by rw [lk_put]; simp
  have hp2 : (putA d.fs k (d.getF k)).length < 16777216 := by have := len_put (fs := d.fs) (k := k) (v := d.getF k); omega
  simp [a, cutD_to, valD_KD, hk2, hD, KD_len, hp2]
  rw [← List.map_take, ← List.map_append, putH (su := (d.getF k).su), putA_put]
  have e : putDr n (useR (useR d.room 1) bs.length) (KD hD (putA d.fs k ⟨(d.getF k).bs ++ bs.take (d.wrK bs), (d.getF k).su⟩)) (KD sD (putA d.fs k (d.getF k))) m = putDk n (d.wr k bs) m := by
    have e2 : KD sD (putA (putA d.fs k (d.getF k)) k ⟨(d.getF k).bs ++ bs.take (d.wrK bs), (d.getF k).su⟩) = KD sD (putA d.fs k (d.getF k)) := KD_put_same (nd_put nd) hk2 rfl
    rw [putA_put] at e2
    rw [← e2]
    rfl
  rw [show useK (useR d.room 1) bs.length = d.wrK bs from rfl, e, ws_sIf]
  by_cases z : d.wrK bs < bs.length
  · rw [if_pos z] at q
    simp [z]
    first | exact ⟨by omega, q⟩ | exact ⟨by omega, by omega, q⟩
  · rw [if_neg z] at q
    simp [z]
    first | exact ⟨by omega, q⟩ | exact ⟨by omega, by omega, q⟩
theorem sp_write (a : DiskAt m n d) {k : Str} (hk : nameOk k = true) {bs : List Int} (hl : d.fs.length < 1000000) (hb : (d.getF k).bs.length + bs.length ≤ 16777216) :
    m_Disk_write [.ref n, .str k, .lst (bs.map .int)] m = if d.room = some 0 then .exc .stop m else if d.wrK bs < bs.length then .exc .stop (putDk n (d.wr k bs) m) else .ok .non (putDk n (d.wr k bs) m) := by
  have al := a.at_.lt
  by_cases hr : d.room = some 0
  · rw [if_pos hr]
    have hks : k.length ≤ 16777216 := by simp only [nameOk, Bool.and_eq_true, decide_eq_true_eq] at hk; omega
    have hn := sp_look_name k hks m
    rw [if_pos hk] at hn
    have hd := sp_need (r := d.room) (hs := KD hD d.fs) (ss := KD sD d.fs) al
    rw [if_pos hr, a.at_.same] at hd
    refine runF_exc rfl ?_
    unfold b_Disk_write
    rw [ws_sSeq]
    simp [evOf, hn]
    rw [ws_sSeq]
    have rd : rdI .disk (.ref n) m = some (dfs n d.room) := rdI_at a.at_.i
    simp [rd, hd]
  · rw [if_neg hr]
    have w := fun P q => ws_write al hk hr hl a.nd hb P q
    rw [a.same] at w
    by_cases z : d.wrK bs < bs.length
    · rw [if_pos z]
      exact runF_exc rfl (w _ (by rw [if_pos z]; exact ⟨rfl, rfl⟩))
    · rw [if_neg z]
      exact runF_ok rfl (w _ (by rw [if_neg z]; exact ⟨rfl, rfl⟩))
theorem sp_write_bad (a : DiskAt m n d) {k : Str} (hk : nameOk k = false) (hks : k.length ≤ 16777216) {x : D} : m_Disk_write [.ref n, .str k, x] m = .exc .file m := by
  have hn := sp_look_name k hks m
  rw [if_neg (by rw [hk]; simp)] at hn
  refine runF_exc rfl ?_
  unfold b_Disk_write
  rw [ws_sSeq]
  simp [evOf, hn]
/-! the other deeds: those that are there -/
def Dk.sync (d : Dk) (k : Str) : Dk := ⟨useR d.room 1, putA d.fs k ⟨(d.getF k).bs, (d.getF k).bs.length⟩⟩
def Dk.short (d : Dk) (k : Str) (s : Nat) : Dk := ⟨useR d.room 1, putA d.fs k ⟨(d.getF k).bs.take s, s⟩⟩
def Dk.ren (d : Dk) (k j : Str) : Dk := ⟨useR d.room 1, putA (dropA d.fs k) j (d.getF k)⟩
def Dk.rem (d : Dk) (k : Str) : Dk := ⟨useR d.room 1, dropA d.fs k⟩
theorem sp_sync (a : DiskAt m n d) (k : Str) (hl : d.fs.length < 1000000) : m_Disk_sync [.ref n, .str k] m = if (lkA d.fs k).isSome = false then .exc .file m else if d.room = some 0 then .exc .stop m else .ok .non (putDk n (d.sync k) m) := by
  have al := a.at_.lt
  have hlk := sp_look (r := d.room) (hs := KD hD d.fs) (ss := KD sD d.fs) al k
  have hd := sp_need (r := d.room) (hs := KD hD d.fs) (ss := KD sD d.fs) al
  rw [valD_KD] at hlk
  rw [← a.same]
  cases hv : lkA d.fs k with
  | none =>
    refine runF_exc rfl ?_
    unfold b_Disk_sync
    rw [ws_sSeq]
    simp [evOf, al, hlk, hv]
  | some v =>
    have hf : d.getF k = v := by simp [Dk.getF, hv]
    simp only [Option.isSome_some, Bool.true_eq_false, if_false]
    by_cases hr : d.room = some 0
    · rw [if_pos hr] at hd ⊢
      refine runF_exc rfl ?_
      unfold b_Disk_sync
      rw [ws_sSeq]
      simp [evOf, al, hlk, hv]
      rw [ws_sSeq]
      simp [al, hd]
    · rw [if_neg hr] at hd ⊢
      refine runF_ok rfl ?_
      unfold b_Disk_sync
      rw [ws_sSeq]
      simp [evOf, al, hlk, hv]
      rw [ws_sSeq]
      simp [al, hd, valD_KD, hv, hD, KD_len, show d.fs.length < 16777216 by omega]
      rw [putS d.fs k v.bs v.bs.length]
      show _ = putDr n (useR d.room 1) (KD hD (putA d.fs k _)) (KD sD (putA d.fs k _)) m
      rw [hf, KD_put_same (f := hD) (v := ⟨v.bs, v.bs.length⟩) a.nd hv rfl]
theorem sp_shorten (a : DiskAt m n d) (k : Str) (s : Int) (hl : d.fs.length < 1000000) (hb : (d.getF k).bs.length ≤ 16777216) : m_Disk_shorten [.ref n, .str k, .int s] m = if (lkA d.fs k).isSome = false then .exc .file m else if ¬ (0 ≤ s ∧ s ≤ (d.getF k).bs.length) then .exc .size m else if d.room = some 0 then .exc .stop m else .ok .non (putDk n (d.short k s.toNat) m) := by
  have al := a.at_.lt
  have hlk := sp_look (r := d.room) (hs := KD hD d.fs) (ss := KD sD d.fs) al k
  have hd := sp_need (r := d.room) (hs := KD hD d.fs) (ss := KD sD d.fs) al
  rw [valD_KD] at hlk
  rw [← a.same]
  cases hv : lkA d.fs k with
  | none =>
    refine runF_exc rfl ?_
    unfold b_Disk_shorten
    rw [ws_sSeq]
    simp [evOf, al, hlk, hv]
  | some v =>
    have hf : d.getF k = v := by simp [Dk.getF, hv]
    rw [hf] at hb ⊢
    simp only [Option.isSome_some, Bool.true_eq_false, if_false]
    by_cases hs : 0 ≤ s ∧ s ≤ (v.bs.length : Int)
    · simp only [hs, and_self, not_true_eq_false, if_false]
      obtain ⟨t, rfl⟩ := Int.eq_ofNat_of_zero_le hs.1
      have hs2 : t ≤ v.bs.length := by omega
      by_cases hr : d.room = some 0
      · rw [if_pos hr] at hd ⊢
        refine runF_exc rfl ?_
        unfold b_Disk_shorten
        rw [ws_sSeq]
        simp [evOf, al, hlk, hv]
        rw [ws_sSeq, ws_sIf]
        simp [al, valD_KD, hv, hD, hs2]
        rw [ws_sSeq]
        simp [al, hd]
      · rw [if_neg hr] at hd ⊢
        refine runF_ok rfl ?_
        unfold b_Disk_shorten
        rw [ws_sSeq]
        simp [evOf, al, hlk, hv]
        rw [ws_sSeq, ws_sIf]
        simp [al, valD_KD, hv, hD, hs2]
        rw [ws_sSeq]
        simp [al, hd]
        rw [ws_sSeq]
        simp [al, valD_KD, hv, hD, cutD_to, KD_len, show d.fs.length < 16777216 by omega]
        refine ⟨by omega, ?_⟩
        rw [← List.map_take, putH d.fs k (v.bs.take t) t, putS d.fs k (v.bs.take t) t]
        simp [Dk.short, hf]
    · simp only [hs, not_false_eq_true, if_true]
      refine runF_exc rfl ?_
      unfold b_Disk_shorten
      rw [ws_sSeq]
      simp [evOf, al, hlk, hv]
      rw [ws_sSeq, ws_sIf]
      simp [al, valD_KD, hv, hD]
      omega
theorem sp_remove (a : DiskAt m n d) (k : Str) : m_Disk_remove [.ref n, .str k] m = if (lkA d.fs k).isSome = false then .exc .file m else if d.room = some 0 then .exc .stop m else .ok .non (putDk n (d.rem k) m) := by
  have al := a.at_.lt
  have hlk := sp_look (r := d.room) (hs := KD hD d.fs) (ss := KD sD d.fs) al k
  have hd := sp_need (r := d.room) (hs := KD hD d.fs) (ss := KD sD d.fs) al
  rw [valD_KD] at hlk
  rw [← a.same]
  cases hv : lkA d.fs k with
  | none =>
    refine runF_exc rfl ?_
    unfold b_Disk_remove
    rw [ws_sSeq]
    simp [evOf, al, hlk, hv]
  | some v =>
    simp only [Option.isSome_some, Bool.true_eq_false, if_false]
    by_cases hr : d.room = some 0
    · rw [if_pos hr] at hd ⊢
      refine runF_exc rfl ?_
      unfold b_Disk_remove
      rw [ws_sSeq]
      simp [evOf, al, hlk, hv]
      rw [ws_sSeq]
      simp [al, hd]
    · rw [if_neg hr] at hd ⊢
      refine runF_ok rfl ?_
      unfold b_Disk_remove
      rw [ws_sSeq]
      simp [evOf, al, hlk, hv]
      rw [ws_sSeq]
      simp [al, hd]
      rw [ws_sSeq]
      simp [al, valD_KD, hv, dropKD_KD, Dk.rem]
end
/-! making -/
theorem putDr_new {m : Mem} {r : Option Nat} {hs ss : List (Key × D)} : putDr m.length r hs ss (m ++ [.dead, .dead, .dead]) = m ++ [.ins .disk (dfs m.length r), .dic false hs, .dic false ss] := by
  apply List.ext_getElem?
  intro j
  simp only [putDr, get_set, List.length_set, List.length_append, List.length_cons, List.length_nil]
  by_cases h1 : m.length = j
  · subst h1; simp
  by_cases h2 : m.length + 1 = j
  · subst h2; simp
  by_cases h3 : m.length + 2 = j
  · subst h3; simp
  simp only [h1, h2, h3, if_false]
  by_cases h : j < m.length
  · rw [List.getElem?_append_left h, List.getElem?_append_left h]
  · rw [List.getElem?_eq_none (by simp; omega), List.getElem?_eq_none (by simp; omega)]
theorem sp_disk_new (m : Mem) (r : Option Nat) {Q : D → Mem → Prop} {X : Ecl → Mem → Prop} {ev : Ev} {a : EA} (ha : wp (a ev m) (fun xs m' => xs = [rD r] ∧ m' = m) (fun _ _ => False)) (q : Q (.ref m.length) (m ++ [.ins .disk (dfs m.length r), .dic false [], .dic false []])) : wp (eMake .disk m_Disk___init__ a ev m) Q X := by
  rw [wp_eMake]
  refine wp_mono ha ?_ (fun _ _ h => h.elim)
  rintro _ m1 ⟨rfl, e⟩
  rw [e]
  refine wp_runF rfl ?_
  unfold b_Disk___init__
  have i0 : ∀ fs, rdI .disk (.ref m.length) (m ++ [.ins .disk fs]) = some fs := fun fs => rdI_at (by simp)
  rw [ws_sSeq, ws_sIf]
  have rest : ∀ P : Po, P.nx [some (.ref m.length), some (rD r)] (m ++ [.ins .disk (dfs m.length r), .dic false [], .dic false []]) → ws (sSeq (sFldS .disk "room" (eVar 0) (eVar 1)) (sSeq (sFldS .disk "held" (eVar 0) (eDsp [] aNil)) (sFldS .disk "sure" (eVar 0) (eDsp [] aNil))) [some (.ref m.length), some (rD r)] (m ++ [.ins .disk []])) P := fun P q => by
    rw [ws_sSeq]
    simp [i0]
    rw [ws_sSeq]
    have i1 : ∀ fs c, rdI .disk (.ref m.length) (m ++ [.ins .disk fs, c]) = some fs := fun fs c => rdI_at (by simp)
    have i2 : ∀ fs c c', rdI .disk (.ref m.length) (m ++ [.ins .disk fs, c, c']) = some fs := fun fs c c' => rdI_at (by simp)
    simp [i1, putD]
    simp [i2, putD, dfs] at q ⊢
    exact q
  cases r with
  | none =>
    simp [evOf, rD]
    exact rest _ q
  | some r =>
    simp [evOf, rD]
    exact .inl (rest _ q)
theorem new_at (m : Mem) (r : Option Nat) : DiskAt (m ++ [.ins .disk (dfs m.length r), .dic false [], .dic false []]) m.length ⟨r, []⟩ := ⟨⟨by simp, by simp; rfl, by simp; rfl⟩, by simp [keysA]⟩
theorem sp_disk_neg (m : Mem) {r : Int} (hr : r < 0) {ev : Ev} {a : EA} {Q : D → Mem → Prop} {X : Ecl → Mem → Prop} (ha : wp (a ev m) (fun xs m' => xs = [.int r] ∧ m' = m) (fun _ _ => False)) (q : X .size (m ++ [.ins .disk []])) : wp (eMake .disk m_Disk___init__ a ev m) Q X := by
  rw [wp_eMake]
  refine wp_mono ha ?_ (fun _ _ h => h.elim)
  rintro _ m1 ⟨rfl, e⟩
  rw [e]
  refine wp_runF rfl ?_
  unfold b_Disk___init__
  rw [ws_sSeq, ws_sIf]
  simp [evOf, hr, q]
end Lt

set_option Elab.async false
set_option linter.all false
set_option maxRecDepth 100000
/-! N1: numbers in names; a log file's name. -/
namespace Lt
open PySem L2
def optD : Option Nat → D
  | none => .non
  | some n => .int (n : Nat)
theorem cutS_list (z : Str) (k : Nat) : (cutS z (some (k : Int)) none).cps.toList = z.cps.toList.drop k := by rw [cutS_from]
theorem sp_number_in (s h : Str) (m : Mem) (hs : s.length ≤ 1000) (hh : h.length ≤ 1000) (ha : ∀ c ∈ s.cps.toList, c < 128) : m_number_in [.str s, .str h] m = .ok (optD (numIn h s)) m := by
  have hl := cutS_list s h.length
  have hlen : (cutS s (some (h.length : Int)) none).length = (s.cps.toList.drop h.length).length := by rw [str_len, hl]
  have hd := isdigit_of (w := cutS s (some (h.length : Int)) none) (by rw [hl]; exact fun c hc => ha c (List.mem_of_mem_drop hc))
  have sl : s.cps.toList.length ≤ 1000 := by rw [← str_len]; exact hs
  have dl : (s.cps.toList.drop h.length).length ≤ 1000 := by simp; omega
  have fr : ∀ x, flat0 (optD x) = true := fun x => by cases x <;> rfl
  refine runP_ok rfl (fr _) ?_
  unfold b_number_in
  rw [ws_sSeq]
  simp [evOf]
  rw [ws_sSeq, ws_sIf]
  simp
  unfold numIn
  simp only
  generalize hw : cutS s (some (h.length : Int)) none = w at *
  generalize s.cps.toList.drop h.length = ws at *
  rw [hd, hl, hlen]
  refine ⟨by omega, by omega, ?_⟩
  generalize hall : ws.all isDig = al at *
  by_cases c1 : Txt.startswith s h = true
  · simp [c1]
    refine ⟨by omega, ?_⟩
    by_cases c2 : ws.length < 1
    · refine .inl ⟨by omega, ?_⟩
      rw [if_neg (by omega)]; rfl
    · refine .inr ⟨by omega, ?_⟩
      by_cases c3 : 9 < ws.length
      · refine .inl ⟨by omega, ?_⟩
        rw [if_neg (by omega)]; rfl
      · refine .inr ⟨by omega, fun c4 => ?_, fun c4 c5' => ?_⟩
        · rw [if_neg (fun z => by have := c4 (by omega); rw [z.2.2.1] at this; cases this)]; rfl
        · cases hws : ws with
          | nil => rw [hws] at c2; simp at c2
          | cons c r =>
            refine ⟨by rw [← hws]; omega, c, by simp, ?_⟩
            have e0 : ((⟨#[c]⟩ : Str) = Str.ofString "0") ↔ c = 48 := by
              constructor
              · intro e
                have := congrArg (fun s : Str => s.cps.toList) e
                have z : (Str.ofString "0").cps.toList = [48] := by decide +kernel
                simp only [z] at this
                simpa using this
              · intro e; subst e; decide +kernel
            rw [← hws]
            by_cases c5 : c = 48
            · refine .inr ⟨e0.mpr c5, ?_⟩
              rw [if_neg (fun z => z.2.2.2 (by rw [hws, c5]; rfl))]; rfl
            · refine .inl ⟨fun z => c5 (e0.mp z), (PySem.NumText.digitsVal ws : Nat), ?_, by omega, ?_⟩
              · have := PySem.intText_digits (x := w) (by rw [hl]; exact allDig.mp (hall.trans c5')) (by rw [hl, hws]; simp) (by omega)
                rw [hl] at this
                exact this
              · rw [if_pos ⟨by omega, by omega, c5', by rw [hws]; simp; exact c5⟩]; rfl
  · simp [c1, optD]
/-- a log file's name -/
def logN (n : Nat) : Str := c_LOG ++ numS n
theorem sp_log_name (n : Nat) (hn : n ≤ 999999999) (m : Mem) : m_log_name [.int (n : Nat)] m = .ok (.str (logN n)) m := by
  refine runP_ok rfl rfl ?_
  unfold b_log_name
  have h1 : n.log2 < 1920 := by
    by_cases z : n = 0
    · rw [z]; decide
    · have := (Nat.log2_lt (k := 30) z).mpr (by omega)
      omega
  have h2 : c_LOG.length = 4 := by decide +kernel
  have h3 := numS_len9 hn
  have h4 : Str.ofString (n : Int).repr = numS n := rfl
  simp [evOf, h1, h2, h4, logN]
  omega
def numsOf (ks : List Str) : List Nat := ks.filterMap (numIn c_LOG)
def filesI (ks : List Str) : List Int := sortI ((numsOf ks).map Int.ofNat)
theorem filt_opt : ∀ os : List (Option Nat), (os.filter fun o => o.isSome).map optD = (os.filterMap id).map fun n => D.int (n : Nat)
  | [] => rfl
  | none :: r => by simp [filt_opt r]
  | some n :: r => by simp [filt_opt r, optD]
theorem small_lt {c : Nat} (h : c_small c = true) : c < 128 := by
  have : ∀ c ∈ c_SMALL.cps.toList, c < 128 := by decide +kernel
  exact this c (by simpa [c_small] using h)
theorem nameOk_ascii {k : Str} (h : nameOk k = true) : k.length ≤ 20 ∧ ∀ c ∈ k.cps.toList, c < 128 := by
  simp only [nameOk, Bool.and_eq_true, decide_eq_true_eq, List.all_eq_true] at h
  exact ⟨h.1.2, fun c hc => small_lt (h.2 c hc)⟩
theorem wp_numbers {hold : Mem → Prop} {ks : List Str} {ev : Ev} {j : Nat} {m : Mem} {h : Str} {Q : List D → Mem → Prop} {X : Ecl → Mem → Prop} (hh : hold m) (hj : j < ev.length) (hl : ks.length ≤ 1000) (hc : h.length ≤ 1000) (hk : ∀ k ∈ ks, nameOk k = true)
    (q : Q (ks.map fun k => optD (numIn h k)) m) : wp (lcGo hold (gName j) tYes (eCall m_number_in (aCons (eVar j) (aCons (eC (.str h)) aNil))) ev (ks.map D.str) [] m) Q X := by
  refine wp_lcA ks D.str (fun k => ev.set j (some (.str k))) _ hh (by show ks.length ≤ 16777216; omega) (fun k _ => by simp [gName, hj]) (fun k hkk => ?_) q
  obtain ⟨k1, k2⟩ := nameOk_ascii (hk k hkk)
  have := sp_number_in k h m (by omega) hc k2
  have hv : eVar j (ev.set j (some (.str k))) m = .ok (.str k) m := by simp [eVar, hj]
  simp
  rw [hv]
  simp [this]
theorem wp_notNone {hold : Mem → Prop} {os : List (Option Nat)} {ev : Ev} {j : Nat} {m : Mem} {Q : List D → Mem → Prop} {X : Ecl → Mem → Prop} (hh : hold m) (hj : j < ev.length) (hl : os.length ≤ 1000)
    (q : Q ((os.filterMap id).map fun n => D.int (n : Nat)) m) : wp (lcGo hold (gName j) (tOf (eBin oNotN (eVar j) (eC .non))) (eVar j) ev (os.map optD) [] m) Q X := by
  refine wp_lcP os optD (fun o => ev.set j (some (optD o))) (fun o => o.isSome) optD hh (by show os.length ≤ 16777216; omega) (fun k _ => by simp [gName, hj]) (fun o _ => ?_) (fun o _ _ => ?_) (by rw [filt_opt]; exact q)
  · have hv : eVar j (ev.set j (some (optD o))) m = .ok (optD o) m := by simp [eVar, hj]
    simp
    rw [hv]
    cases o <;> simp [optD]
  · have hv : eVar j (ev.set j (some (optD o))) m = .ok (optD o) m := by simp [eVar, hj]
    rw [hv]
    simp
theorem nums_len (ks : List Str) : (numsOf ks).length ≤ ks.length := List.length_filterMap_le _ _
theorem sort_mem {ks : List Str} {k : Str} : k ∈ sortS ks ↔ k ∈ ks := (sortS_perm ks).mem_iff
theorem sortI_perm (ns : List Int) : (sortI ns).Perm ns := List.mergeSort_perm _ _
theorem sortI_pw (ns : List Int) : (sortI ns).Pairwise (· ≤ ·) := by
  have h := List.pairwise_mergeSort (le := fun a b : Int => decide (a ≤ b)) (fun a b c h1 h2 => by simp only [decide_eq_true_eq] at *; omega) (fun a b => by simp only [Bool.or_eq_true, decide_eq_true_eq]; omega) ns
  exact h.imp fun h => of_decide_eq_true h
theorem filesI_len (ks : List Str) : (filesI ks).length ≤ ks.length := by
  unfold filesI
  rw [(sortI_perm _).length_eq, List.length_map]
  exact nums_len ks
theorem ws_files {o : EC} {i0 : Option D} {m : Mem} {ks : List Str} {P : Po} (hl : ks.length ≤ 1000) (hk : ∀ k ∈ ks, nameOk k = true)
    (ho : ∀ {Q : D → Mem → Prop} {X : Ecl → Mem → Prop}, Q (strsD ks) m → wp (o [i0, none, none, none] m) Q X) (q : P.rt (.lst ((filesI ks).map .int)) m) :
    ws (sSeq (sSet 1 (eLc false [2] (iLst o) (Lt.gName 2) Lt.tYes (eCall m_number_in (aCons (eVar 2) (aCons (eC (.str c_LOG)) aNil))))) (sRet (eB1 (bSorted false) (aCons (eLc false [3] (iLst (eVar 1)) (Lt.gName 3) (tOf (eBin oNotN (eVar 3) (eC .non))) (eVar 3)) aNil))) [i0, none, none, none] m) P := by
  rw [ws_sSeq]
  simp
  refine ho ?_
  simp [strsD]
  refine wp_numbers trivial ?_ hl (by decide +kernel) hk ?_
  · exact (by decide : (2 : Nat) < 4)
  simp [show ks.length ≤ 16777216 by omega]
  have e : (ks.map fun k => optD (numIn c_LOG k)) = (ks.map (numIn c_LOG)).map optD := by rw [List.map_map]; rfl
  rw [e]
  refine wp_notNone trivial (by simp [wipeE]) (by simpa using hl) ?_
  have nl := nums_len ks
  have e2 : ((ks.map (numIn c_LOG)).filterMap id) = numsOf ks := by rw [List.filterMap_map]; rfl
  rw [e2]
  have e3 : ((numsOf ks).map fun n => D.int (n : Nat)) = ((numsOf ks).map Int.ofNat).map D.int := by rw [List.map_map]; rfl
  have fl := filesI_len ks
  simp only [List.length_map, show (numsOf ks).length ≤ 16777216 by omega, true_and]
  rw [e3, bSorted_I (x := .lst _) rfl (allI_mapI _)]
  simp
  exact ⟨by unfold filesI at fl; omega, q⟩
end Lt

set_option Elab.async false
set_option linter.all false
set_option maxRecDepth 100000
/-! T5: data that equals itself; logs. -/
namespace Lt
open PySem L2
mutual
def good : Nat → D → Bool
  | _, .non => true
  | _, .bl _ => true
  | _, .int _ => true
  | _, .str s => PyData.strOk s
  | n + 1, .lst xs => goods n xs
  | n + 1, .klst xs => goods n xs
  | n + 1, .tup xs => goods n xs
  | _, _ => false
def goods : Nat → List D → Bool
  | _, [] => true
  | n, x :: xs => good n x && goods n xs
end
mutual
theorem toPy_good (m : Mem) : ∀ (n : Nat) (d : D), good n d = true → ∃ p, toPy m d = some p ∧ p.canLay0 = true ∧ p.depth ≤ n
  | _, .non, _ => ⟨.none, by simp [toPy], rfl, by simp [PyData.depth]⟩
  | _, .bl b, _ => ⟨.bool b, by simp [toPy], rfl, by simp [PyData.depth]⟩
  | _, .int b, _ => ⟨.int b, by simp [toPy], rfl, by simp [PyData.depth]⟩
  | _, .str s, h => ⟨.str s, by simp [toPy], by simpa [good, PyData.canLay0] using h, by simp [PyData.depth]⟩
  | n + 1, .lst xs, h => by
    obtain ⟨p, h1, h2, h3⟩ := toPys_good m n xs (by simpa [good] using h)
    exact ⟨.list p, by simp [toPy, h1], by simpa [PyData.canLay0] using h2, by simp [PyData.depth]; exact h3⟩
  | n + 1, .klst xs, h => by
    obtain ⟨p, h1, h2, h3⟩ := toPys_good m n xs (by simpa [good] using h)
    exact ⟨.list p, by simp [toPy, h1], by simpa [PyData.canLay0] using h2, by simp [PyData.depth]; exact h3⟩
  | n + 1, .tup xs, h => by
    obtain ⟨p, h1, h2, h3⟩ := toPys_good m n xs (by simpa [good] using h)
    exact ⟨.tuple p, by simp [toPy, h1], by simpa [PyData.canLay0] using h2, by simp [PyData.depth]; exact h3⟩
  | 0, .lst xs, h => by simp [good] at h
  | 0, .klst xs, h => by simp [good] at h
  | 0, .tup xs, h => by simp [good] at h
  | _, .dic _, h => by simp [good] at h
  | _, .ref _, h => by simp [good] at h
  | _, .exc _, h => by simp [good] at h
theorem toPys_good (m : Mem) : ∀ (n : Nat) (xs : List D), goods n xs = true → ∃ ps, toPys m xs = some ps ∧ PyData.canLayAll0 ps = true ∧ PyData.depthAll ps ≤ n
  | _, [], _ => ⟨[], by simp [toPys], rfl, by simp [PyData.depthAll]⟩
  | n, x :: xs, h => by
    simp only [goods, Bool.and_eq_true] at h
    obtain ⟨p, h1, h2, h3⟩ := toPy_good m n x h.1
    obtain ⟨ps, g1, g2, g3⟩ := toPys_good m n xs h.2
    refine ⟨p :: ps, by simp [toPys, h1, g1], by simp [PyData.canLayAll0, h2, g2], ?_⟩
    simp [PyData.depthAll]
    omega
end
theorem toPyT_of {d : D} {m : Mem} {p : PyData} (h : toPy m d = some p) : toPyT d m = some p := by
  cases d <;> first | exact h | (simp [toPy] at h)
theorem shaped_of {p : PyData} (h1 : p.canLay0 = true) (h2 : p.depth ≤ 64) : SeqAt.shaped p = true := by
  simp [SeqAt.shaped, h1, h2]
/-- what is good equals itself -/
theorem eqD_good {x : D} {m : Mem} (h : good 60 x = true) : eqD x x m = some true := by
  obtain ⟨p, h1, h2, h3⟩ := toPy_good m 60 x h
  cases x with
  | non => rfl
  | bl b => simp [eqD, scalD]
  | int b => simp [eqD, scalD]
  | str b => simp [eqD, scalD]
  | lst xs => exact eqD_same rfl (toPyT_of h1) (toPyT_of h1) (shaped_of h2 (by omega))
  | klst xs => exact eqD_same rfl (toPyT_of h1) (toPyT_of h1) (shaped_of h2 (by omega))
  | tup xs => exact eqD_same rfl (toPyT_of h1) (toPyT_of h1) (shaped_of h2 (by omega))
  | dic _ => simp [good] at h
  | ref _ => simp [good] at h
  | exc _ => simp [good] at h
theorem goods_map {ι : Type} {n : Nat} {f : ι → D} : ∀ {ys : List ι}, (∀ y ∈ ys, good n (f y) = true) → goods n (ys.map f) = true
  | [], _ => by simp [goods]
  | y :: ys, h => by simp [goods, h y (by simp)]; exact goods_map fun z hz => h z (by simp [hz])
theorem strOk_of {s : Str} (hs : s.cps.toList.all okc = true) : PyData.strOk s = true := by
  show s.cps.all (· < 0x110000) = true
  rw [← Array.all_toList]
  refine List.all_eq_true.mpr fun c hc => ?_
  have := List.all_eq_true.mp hs c hc
  simp [okc] at this
  simp; omega
theorem kind_strOk {k : Str} (h : isKind k = true) : PyData.strOk k = true := by
  rcases isKind_cases h with rfl | rfl | rfl | rfl | rfl <;> decide +kernel
theorem good_row {r : Row} (h : rowOk r = true) (n : Nat) : good (n + 1) (rowD r) = true := by
  have R := rowOk_of h
  have k1 := strOk_of R.kc
  have k2 := strOk_of R.vc
  have k3 := kind_strOk R.kind
  simp [rowD, good, goods, k1, k2, k3]
theorem flat0s_map {ι : Type} {f : ι → D} : ∀ {ys : List ι}, (∀ y ∈ ys, flat0 (f y) = true) → flat0s (ys.map f) = true
  | [], _ => by simp [flat0s]
  | y :: ys, h => by simp [flat0s, h y (by simp)]; exact flat0s_map fun z hz => h z (by simp [hz])
@[simp] theorem flat0_row (r : Row) : flat0 (rowD r) = true := by simp [rowD, flat0, flat0s]
/-- a row with its place -/
def rpD (p : Row × Nat) : D := .tup [rowD p.1, .int (p.2 : Nat)]
@[simp] theorem flat0_rp (p : Row × Nat) : flat0 (rpD p) = true := by simp [rpD, flat0, flat0s]
def rpsD (ps : List (Row × Nat)) : D := .lst (ps.map rpD)
@[simp] theorem flat0_rps (ps : List (Row × Nat)) : flat0 (rpsD ps) = true := by simp [rpsD, flat0]; exact flat0s_map fun _ _ => by simp
theorem good_rp {p : Row × Nat} (h : rowOk p.1 = true) (n : Nat) : good (n + 2) (rpD p) = true := by
  simp [rpD, good, goods, good_row h n]
theorem good_rps {ps : List (Row × Nat)} (h : ∀ p ∈ ps, rowOk p.1 = true) (n : Nat) : good (n + 3) (rpsD ps) = true := by
  simp only [rpsD, good]
  exact goods_map fun p hp => good_rp (h p hp) n
/-! logs -/
def logR (bs : List Int) : Nat → Nat → List (Row × Nat) × Nat
  | 0, a => ([], a)
  | n + 1, a => match rowAt bs a with
    | none => ([], a)
    | some (r, e) => ((r, a) :: (logR bs n e).1, (logR bs n e).2)
def logOf (bs : List Int) : List (Row × Nat) × Nat := logR bs (bs.length + 1) 0
theorem logR_none {bs : List Int} {a : Nat} (h : rowAt bs a = none) : ∀ n, logR bs n a = ([], a)
  | 0 => rfl
  | n + 1 => by simp [logR, h]
theorem logR_some {bs : List Int} {a e : Nat} {r : Row} (h : rowAt bs a = some (r, e)) (n : Nat) : logR bs (n + 1) a = ((r, a) :: (logR bs n e).1, (logR bs n e).2) := by simp [logR, h]
theorem logR_ok {bs : List Int} (hb : Bytes bs) : ∀ (n a : Nat), ∀ p ∈ (logR bs n a).1, rowOk p.1 = true
  | 0, a => by simp [logR]
  | n + 1, a => by
    cases h : rowAt bs a with
    | none => simp [logR_none h]
    | some q =>
      obtain ⟨r, e⟩ := q
      rw [logR_some h]
      intro p hp
      rcases List.mem_cons.mp hp with rfl | hp
      · exact (rowAt_ok hb h).1
      · exact logR_ok hb n e p hp
def salvR (bs : List Int) : Nat → Nat → List (Row × Nat)
  | 0, _ => []
  | n + 1, a => if a < bs.length then (match rowAt bs a with
    | none => salvR bs n (a + 1)
    | some (r, e) => (r, a) :: salvR bs n e) else []
def salvOf (bs : List Int) : List (Row × Nat) := salvR bs (bs.length + 1) 0
theorem salvR_ok {bs : List Int} (hb : Bytes bs) : ∀ (n a : Nat), ∀ p ∈ salvR bs n a, rowOk p.1 = true
  | 0, a => by simp [salvR]
  | n + 1, a => by
    unfold salvR
    split
    · cases h : rowAt bs a with
      | none => exact salvR_ok hb n (a + 1)
      | some q =>
        obtain ⟨r, e⟩ := q
        intro p hp
        rcases List.mem_cons.mp hp with rfl | hp
        · exact (rowAt_ok hb h).1
        · exact salvR_ok hb n e p hp
    · simp
/-- the bytes of rows -/
def encs (rs : List Row) : List Int := (rs.map enc).flatten
theorem frz_last0 {m : Mem} {xs : List D} {x : Option D} {r : Ev} {Q : D → Mem → Prop} {X : Ecl → Mem → Prop} : wp (eFrz 1 (x :: some (.ref m.length) :: r) (m ++ [.lst xs])) Q X = Q (.lst xs) (m ++ [.dead]) := by
  have : eFrz 1 (x :: some (.ref m.length) :: r) (m ++ [.lst xs]) = .ok (.lst xs) (m ++ [.dead]) := by simp [eFrz]
  rw [this, wp_ok]
end Lt

set_option Elab.async false
set_option linter.all false
set_option maxRecDepth 100000
/-! S0: what the first row functions come to. -/
namespace Lt
open PySem L2
theorem sp_number_bytes (n : Int) (k : Nat) (hk : k ≤ 1000) (m : Mem) : m_number_bytes [.int n, .int (k : Int)] m = .ok (.lst ((numB n k).map .int)) m := by
  refine runP_ok rfl (by simp) ?_
  simp only [b_number_bytes, evOf, ws_sSeq, ws_sFor]
  simp [List.replicate]
  refine ⟨smallI_nat (by omega), ?_⟩
  refine ws_forGo (fun j ev m' => ∃ o, ev = [some (.int (n / 256 ^ j)), some (.int k), some (.ref m.length), o] ∧ m' = m ++ [.lst ((numL n j).map .int)]) (fun _ _ _ _ _ => trivial) ?_ ?_ ⟨none, by simp, by simp [numL]⟩
  · rintro j ev m' hj ⟨o, rfl, rfl⟩
    rw [rng0_len] at hj
    refine ⟨_, rfl, ?_⟩
    simp [ws_sSeq, numL_len]
    refine ⟨by omega, ?_, ?_⟩
    · rw [Int.pow_succ, Int.ediv_ediv_of_nonneg (Int.pow_nonneg (by decide))]
    · rw [numL_snoc]; simp
  · rintro ev m' ⟨o, rfl, rfl⟩
    rw [rng0_len]
    simp [numL_len, numB]
    omega
theorem sp_sums_of (bs : List Int) (m : Mem) : m_sums_of [.lst (bs.map .int)] m = .ok (.lst ((sums bs).map .int)) m := by
  refine runP_ok rfl (by simp) ?_
  simp only [b_sums_of, evOf, ws_sSeq, ws_sFor]
  simp [List.replicate]
  refine ws_forGo (fun j ev m' => ∃ o, ev = [some (.lst (bs.map .int)), some (.int (sumF (bs.take j) (1, 0)).1), some (.int (sumF (bs.take j) (1, 0)).2), o] ∧ m' = m) (fun _ _ _ _ _ => trivial) ?_ ?_ ⟨none, by simp [sumF], rfl⟩
  · rintro j ev m' hj ⟨o, rfl, rfl⟩
    rw [List.length_map] at hj
    refine ⟨_, rfl, ?_⟩
    simp [ws_sSeq, sumF, foldl_take _ _ _ hj]
  · rintro ev m' ⟨o, rfl, rfl⟩
    rw [List.length_map, List.take_length]
    have h2 := sp_number_bytes (sumF bs (1, 0)).2 2 (by omega) m'
    have h1 := sp_number_bytes (sumF bs (1, 0)).1 2 (by omega) m'
    simp at h1 h2
    simp [h1, h2, numB_len, sums]

theorem sp_is_text (s : Str) (lo hi : Nat) (hs : s.length ≤ 16777216) (m : Mem) : m_is_text [.str s, .int (lo : Int), .int (hi : Int)] m = .ok (.bl (txtOk s lo hi)) m := by
  refine runP_ok rfl rfl ?_
  simp only [b_is_text, evOf, ws_sSeq, ws_sFor]
  simp [List.replicate, hs]
  by_cases h1 : lo ≤ s.length
  · by_cases h2 : s.length ≤ hi
    · refine .inr ⟨h1, .inr ⟨h2, ?_⟩⟩
      refine wp_lcA s.cps.toList _ (fun c => [some (.str s), some (.int lo), some (.int hi), some (.str ⟨#[c]⟩)]) (fun c => .bl (okc c)) trivial (by rw [← str_len]; exact hs) (fun c _ => by simp [wipeE]) (fun c _ => ?_) ?_
      · simp [okc]
        omega
      · rw [allB_map]
        simp [txtOk, h1, h2, hs]
    · exact .inr ⟨h1, .inl ⟨by omega, by simp [txtOk, h2]⟩⟩
  · exact .inl ⟨by omega, by simp [txtOk, h1]⟩
theorem sp_look_key (s : Str) (hs : s.length ≤ 16777216) (m : Mem) : m_look_key [.str s] m = if txtOk s 1 40 then .ok .non m else .exc .row m := by
  have h := sp_is_text s 1 40 hs m
  simp at h
  split
  · rename_i c
    refine runP_ok rfl rfl ?_
    simp [b_look_key, evOf, ws_sIf, h, c]
  · rename_i c
    refine runP_exc rfl ?_
    simp [b_look_key, evOf, ws_sIf, h, c]
theorem sp_look_value (s : Str) (hs : s.length ≤ 16777216) (m : Mem) : m_look_value [.str s] m = if txtOk s 0 400 then .ok .non m else .exc .row m := by
  have h := sp_is_text s 0 400 hs m
  simp at h
  split
  · rename_i c
    refine runP_ok rfl rfl ?_
    simp [b_look_value, evOf, ws_sIf, h, c]
  · rename_i c
    refine runP_exc rfl ?_
    simp [b_look_value, evOf, ws_sIf, h, c]
theorem kinds_cut : cutD (c_KINDS.map D.str) (some 1) none = [.str "put", .str "drop", .str "begin", .str "end", .str "thin"] := by rfl
theorem sp_look_row (r : Row) (hk : r.key.length ≤ 16777216) (hv : r.val.length ≤ 16777216) (m : Mem) : m_look_row [rowD r] m = if rowOk r then .ok .non m else .exc .row m := by
  obtain ⟨k, n, key, val⟩ := r
  split
  · rename_i c
    refine runP_ok rfl rfl ?_
    simp [b_look_row, evOf, ws_sIf, ws_sSeq, rowD, kinds_cut, sp_look_key, sp_look_value, hk, hv]
    simp only [rowOk, Bool.and_eq_true, decide_eq_true_eq] at c
    obtain ⟨⟨⟨⟨c1, c2⟩, c3⟩, c4⟩, c5⟩ := c
    rcases isKind_cases c1 with rfl | rfl | rfl | rfl | rfl <;> simp_all [isPD]
  · rename_i c
    refine runP_exc rfl ?_
    simp [b_look_row, evOf, ws_sIf, ws_sSeq, rowD, kinds_cut, sp_look_key, sp_look_value, hk, hv]
    by_cases c1 : isKind k = true
    · by_cases c2 : n < 1
      · refine .inr ⟨?_, .inl c2⟩
        rcases isKind_cases c1 with rfl | rfl | rfl | rfl | rfl <;> simp
      · by_cases c3 : 999999999 < n
        · refine .inr ⟨?_, .inr ⟨by omega, .inl c3⟩⟩
          rcases isKind_cases c1 with rfl | rfl | rfl | rfl | rfl <;> simp
        · have c2' : 1 ≤ n := by omega
          have c3' : n ≤ 999999999 := by omega
          simp only [rowOk, c1, c2', c3', decide_true, Bool.true_and] at c
          rcases isKind_cases c1 with rfl | rfl | rfl | rfl | rfl <;> simp [isPD] at c ⊢ <;> simp [c2', c3'] <;> first | exact c | (by_cases e : key = Str.ofString "" <;> simp_all)
    · refine .inl ?_
      simp [isKind] at c1
      exact ⟨fun h => c1.1.1.1.1 h.symm, fun h => c1.1.1.1.2 h.symm, fun h => c1.1.1.2 h.symm, fun h => c1.1.2 h.symm, fun h => c1.2 h.symm⟩
end Lt

set_option Elab.async false
set_option linter.all false
set_option maxRecDepth 100000
/-! S1: what the row functions come to. -/
namespace Lt
open PySem L2
theorem sp_number_of (bs : List Int) (m : Mem) : m_number_of [.lst (bs.map .int)] m = .ok (.int (numOf bs)) m := by
  refine runP_ok rfl rfl ?_
  simp only [b_number_of, evOf, ws_sSeq, ws_sFor]
  simp [List.replicate]
  refine ws_forGo (fun j ev m' => ∃ o, ev = [some (.lst (bs.map .int)), some (.int (numOf (bs.take j))), o] ∧ m' = m) (fun _ _ _ _ _ => trivial) ?_ ?_ ⟨none, by simp [numOf], rfl⟩
  · rintro j ev m' hj ⟨o, rfl, rfl⟩
    rw [List.length_map] at hj
    refine ⟨_, rfl, ?_⟩
    simp [numOf, foldl_take _ _ _ hj]
  · rintro ev m' ⟨o, rfl, rfl⟩
    rw [List.length_map, List.take_length]
    simp
theorem signs_at {b : Int} (h : okI b = true) : atI c_SIGNS.cps.toList (b - 32) = some b.toNat := by
  have key : ∀ j < 95, j ≠ 5 → c_SIGNS.cps.toList[j]? = some (j + 32) := by decide +kernel
  simp [okI] at h
  have e : b - 32 = ((b.toNat - 32 : Nat) : Int) := by omega
  rw [e, atI_nat (key _ (by omega) (by omega))]
  congr 1
  omega
theorem signs_len : c_SIGNS.length = 95 := by decide +kernel
theorem sp_text_of (bs : List Int) (hl : bs.length ≤ 16777216) (m : Mem) : m_text_of [.lst (bs.map .int)] m = .ok (if bs.all okI = true then .str (strOf bs) else .non) m := by
  refine runP_ok rfl (by split <;> rfl) ?_
  simp [b_text_of, evOf, ws_sIf, ws_sSeq, List.replicate]
  refine wp_lcA bs _ (fun b => [some (.lst (bs.map .int)), some (.int b)]) (fun b => .bl (okI b)) trivial (by simpa using hl) (fun c _ => by simp [wipeE]) (fun c _ => by simp [okI]; omega) ?_
  rw [allB_map]
  simp [hl]
  intro h
  refine wp_lcA bs _ (fun b => [some (.lst (bs.map .int)), some (.int b)]) (fun b => .str ⟨#[b.toNat]⟩) trivial (by simpa using hl) (fun c _ => by simp [wipeE]) (fun c hc => ?_) ?_
  · have := signs_at (h c hc)
    simp [this, signs_len]
  · rw [allS_map]
    have e1 : (bs.map fun b => (⟨#[b.toNat]⟩ : Str)) = (bs.map Int.toNat).map fun c => (⟨#[c]⟩ : Str) := by simp
    have e2 : ((bs.map fun b => (⟨#[b.toNat]⟩ : Str)).map (·.length)).sum = bs.length := by
      clear h hl
      have h1 : ∀ c : Nat, (⟨#[c]⟩ : Str).length = 1 := fun _ => rfl
      clear e1
      induction bs with
      | nil => rfl
      | cons b bs ih =>
        rw [List.map_cons, List.map_cons, List.sum_cons, ih, h1, List.length_cons]; omega
    have e3 : ("" : Str).length = 0 := by decide +kernel
    refine ⟨by simpa using hl, _, rfl, by rw [e2, e3]; simp; exact hl, by simp, ?_⟩
    rw [if_pos h, e1, join_chars]
    rfl
theorem kind_at {kd : Int} (h1 : 1 ≤ kd) (h2 : kd < 6) : atI (c_KINDS.map D.str) kd = some (.str (kindAt kd)) := by
  have : kd = 1 ∨ kd = 2 ∨ kd = 3 ∨ kd = 4 ∨ kd = 5 := by omega
  rcases this with rfl | rfl | rfl | rfl | rfl <;> rfl
theorem sp_row_at (x : D) (bs : List Int) (at' : Nat) (m : Mem) (hx : x = .lst (bs.map .int) ∨ ∃ i, x = .ref i ∧ m[i]? = some (.lst (bs.map .int))) (hb : Bytes bs) (hl : bs.length ≤ 16777216) : m_row_at [x, .int (at' : Int)] m = .ok (match rowAt bs at' with | some (r, e) => .tup [rowD r, .int (e : Nat)] | none => .non) m := by
  refine runP_ok rfl (by split <;> rfl) ?_
  have hcn : ∀ (a b : Nat) Q X, wp (oSl false x (some (a : Int)) (some (b : Int)) m) Q X = Q (.lst (((bs.drop a).take (b - a)).map D.int)) m := by
    intro a b Q X
    rw [← cut_ints]
    have : (cutD (bs.map D.int) (some (a : Int)) (some (b : Int))).length ≤ 16777216 := by rw [cut_ints]; simp; omega
    rcases hx with rfl | ⟨i, rfl, hi⟩
    · simp [this]
    · simp [hi, this]
  have hlen : ∀ Q X, wp (bLen [x] m) Q X = Q (.int bs.length) m := by
    intro Q X
    rcases hx with rfl | ⟨i, rfl, hi⟩
    · simp
    · simp [hi]
  have rA : rowAt bs at' = (rowOf (bs.drop at')).map fun p => (p.1, at' + p.2) := rfl
  have hc1 := fun Q X => hcn at' (at' + 12) Q X
  by_cases h12 : (bs.drop at').length < 12
  · rw [rowOf_lt _ h12] at rA
    have h3 : ((min 12 (bs.length - at') : Nat) : Int) < 12 := by simp at h12; omega
    simp at hc1
    unfold b_row_at
    rw [ws_sSeq]
    simp only [List.replicate, evOf]
    simp [hc1]
    rw [ws_sSeq, ws_sIf]
    simp [h3, rA]
  · obtain ⟨c0, c1, c2, c3, kd, n0, n1, n2, n3, kl, v0, v1, t, hs⟩ := ex12 _ (by omega : 12 ≤ (bs.drop at').length)
    have hbs := hb.drop at'
    rw [hs] at hbs
    simp only [bytes_cons] at hbs
    obtain ⟨b0, b1, b2, b3, b4, b5, b6, b7, b8, b9, b10, b11, bt⟩ := hbs
    have hlen2 : bs.length = at' + 12 + t.length := by
      have := congrArg List.length hs
      simp at this h12
      omega
    have d4 : bs.drop (at' + 4) = kd :: n0 :: n1 :: n2 :: n3 :: kl :: v0 :: v1 :: t := by rw [← List.drop_drop, hs]; rfl
    have d12 : bs.drop (at' + 12) = t := by rw [← List.drop_drop, hs]; rfl
    have hn : 0 ≤ numOf [v0, v1] := numOf_nonneg _ (by simp; omega)
    obtain ⟨kn, rfl⟩ := Int.eq_ofNat_of_zero_le b9.1
    obtain ⟨vn, hvn⟩ := Int.eq_ofNat_of_zero_le hn
    have dk : bs.drop (at' + 12 + kn) = t.drop kn := by rw [← List.drop_drop, d12]
    have hc2 := fun Q X => hcn (at' + 4) (at' + 12 + kn + vn) Q X
    have hc3 := fun Q X => hcn (at' + 12) (at' + 12 + kn) Q X
    have hc4 := fun Q X => hcn (at' + 12 + kn) (at' + 12 + kn + vn) Q X
    rw [d4, show at' + 12 + kn + vn - (at' + 4) = kn + vn + 8 by omega] at hc2
    rw [d12, show at' + 12 + kn - (at' + 12) = kn by omega] at hc3
    rw [dk, show at' + 12 + kn + vn - (at' + 12 + kn) = vn by omega] at hc4
    have hno := sp_number_of [v0, v1] m
    have hno4 := sp_number_of [n0, n1, n2, n3] m
    have ht1 := sp_text_of (t.take kn) (by simp; omega) m
    have ht2 := sp_text_of ((t.drop kn).take vn) (by simp; omega) m
    have hsu := sp_sums_of (kd :: n0 :: n1 :: n2 :: n3 :: (kn : Int) :: v0 :: v1 :: t.take (kn + vn)) m
    have hsq : ∀ m : Mem, eqD (.lst ((sums (kd :: n0 :: n1 :: n2 :: n3 :: (kn : Int) :: v0 :: v1 :: t.take (kn + vn))).map .int)) (.lst [.int c0, .int c1, .int c2, .int c3]) m = some (decide (sums (kd :: n0 :: n1 :: n2 :: n3 :: (kn : Int) :: v0 :: v1 :: t.take (kn + vn)) = [c0, c1, c2, c3])) := fun m => eqD_ints (ys := [c0, c1, c2, c3])
    simp only [hvn, List.map_cons, List.map_nil] at hno hno4 hsu
    simp [hs] at hc1
    simp at hc2 hc3 hc4
    have cA : cutD [D.int c0, .int c1, .int c2, .int c3, .int kd, .int n0, .int n1, .int n2, .int n3, .int (kn : Int), .int v0, .int v1] (some 10) (some 12) = [.int v0, .int v1] := rfl
    have cB : cutD [D.int c0, .int c1, .int c2, .int c3, .int kd, .int n0, .int n1, .int n2, .int n3, .int (kn : Int), .int v0, .int v1] (some 5) (some 9) = [.int n0, .int n1, .int n2, .int n3] := rfl
    have cC : cutD [D.int c0, .int c1, .int c2, .int c3, .int kd, .int n0, .int n1, .int n2, .int n3, .int (kn : Int), .int v0, .int v1] none (some 4) = [.int c0, .int c1, .int c2, .int c3] := rfl
    have a9 : atI [D.int c0, .int c1, .int c2, .int c3, .int kd, .int n0, .int n1, .int n2, .int n3, .int (kn : Int), .int v0, .int v1] 9 = some (.int (kn : Int)) := rfl
    have k6 : c_KINDS.length = 6 := rfl
    simp only [List.map_take, List.map_drop, List.map_cons] at hsu hsq ht1 ht2
    have rA2 : rowAt bs at' = (if 1 ≤ kd ∧ kd < 6 ∧ kn + vn ≤ t.length ∧ sums (kd :: n0 :: n1 :: n2 :: n3 :: (kn : Int) :: v0 :: v1 :: t.take (kn + vn)) = [c0, c1, c2, c3] ∧ (t.take kn).all okI = true ∧ ((t.drop kn).take vn).all okI = true then
      (if rowOk ⟨kindAt kd, numOf [n0, n1, n2, n3], strOf (t.take kn), strOf ((t.drop kn).take vn)⟩ = true then some (⟨kindAt kd, numOf [n0, n1, n2, n3], strOf (t.take kn), strOf ((t.drop kn).take vn)⟩, at' + (12 + kn + vn)) else none) else none : Option (Row × Nat)) := by
      rw [rA, hs]
      simp only [rowOf, Int.toNat_natCast, hvn]
      split
      · split <;> rfl
      · rfl
    clear rA
    generalize (t.take kn).all okI = B1 at ht1 rA2
    generalize ((t.drop kn).take vn).all okI = B2 at ht2 rA2
    have hsq' : ∀ m : Mem, eqD (.lst [.int c0, .int c1, .int c2, .int c3]) (.lst [.int c0, .int c1, .int c2, .int c3]) m = some true := fun m => (eqD_ints (xs := [c0, c1, c2, c3]) (ys := [c0, c1, c2, c3])).trans (by simp)
    generalize hr : (⟨kindAt kd, numOf [n0, n1, n2, n3], strOf (t.take kn), strOf ((t.drop kn).take vn)⟩ : Row) = r at rA2
    have lr1 : r.key.length ≤ 16777216 := by rw [← hr]; simp [strOf_len]; omega
    have lr2 : r.val.length ≤ 16777216 := by rw [← hr]; simp [strOf_len]; omega
    have hlr := sp_look_row r lr1 lr2 m
    have hrd : rowD r = .tup [.str (kindAt kd), .int (numOf [n0, n1, n2, n3]), .str (strOf (t.take kn)), .str (strOf ((t.drop kn).take vn))] := by rw [← hr]; rfl
    rw [hrd] at hlr
    unfold b_row_at
    rw [ws_sSeq]
    simp only [List.replicate, evOf]
    simp [hc1]
    rw [ws_sSeq, ws_sIf]
    simp [k6]
    by_cases hk1 : 1 ≤ kd
    · by_cases hk6 : kd < 6
      · have hk6' : ¬ 6 ≤ kd := by omega
        have hk1' : ¬ kd < 1 := by omega
        simp [hk1, hk6, hk1', hk6']
        rw [ws_sSeq]
        simp [a9]
        rw [ws_sSeq]
        simp [cA, hno]
        rw [ws_sSeq, ws_sIf]
        by_cases hlt : kn + vn ≤ t.length
        · have hlI : (at' : Int) + 12 + kn + vn ≤ (bs.length : Int) := by omega
          have hlI' : ¬ (bs.length : Int) < (at' : Int) + 12 + kn + vn := by omega
          by_cases hsm : sums (kd :: n0 :: n1 :: n2 :: n3 :: (kn : Int) :: v0 :: v1 :: t.take (kn + vn)) = [c0, c1, c2, c3]
          · simp [hlen, hc2, hsu, hsq, hsq', cC, hlI, hlI', hsm]
            rw [ws_sSeq]
            simp [kind_at hk1 hk6, hno4, hc3, hc4, ht1, ht2, cB]
            rw [ws_sSeq, ws_sIf]
            cases B1 with
            | true =>
              cases B2 with
              | true =>
                rw [if_pos ⟨hk1, hk6, hlt, hsm, rfl, rfl⟩] at rA2
                simp
                rw [ws_sSeq]
                simp
                rw [ws_sSeq]
                refine ws_sTry ?_
                simp [hlr]
                cases hok : rowOk r with
                | true =>
                  simp [rA2, hok, hrd]
                  omega
                | false => simp [rA2, hok]
              | false => simp [rA2]
            | false => simp [rA2]
          · simp [hlen, hc2, hsu, hsq, cC, hlI, hlI', hsm, rA2]
        · have hlI : ¬ (at' : Int) + 12 + kn + vn ≤ (bs.length : Int) := by omega
          have hlI' : (bs.length : Int) < (at' : Int) + 12 + kn + vn := by omega
          simp [hlen, hlI, hlI', rA2, hlt]
      · have hk6' : 6 ≤ kd := by omega
        simp [hk1, hk6, hk6', rA2]
    · have : kd < 1 := by omega
      simp [hk1, this, rA2]
theorem sp_row_at' (x : D) (bs : List Int) (at' : Nat) (m : Mem) (hx : x = .lst (bs.map .int) ∨ ∃ i, x = .ref i ∧ m[i]? = some (.lst (bs.map .int))) (hb : Bytes bs) (hl : bs.length ≤ 16777216) : m_row_at [x, .int (at' : Int)] m = .ok (atD (rowAt bs at')) m := sp_row_at x bs at' m hx hb hl
end Lt

set_option Elab.async false
set_option linter.all false
set_option maxRecDepth 100000
/-! S7: reading logs. -/
namespace Lt
open PySem L2
def LstAt (x : D) (bs : List Int) (m : Mem) : Prop := x = .lst (bs.map .int) ∨ ∃ i, x = .ref i ∧ m[i]? = some (.lst (bs.map .int))
theorem LstAt.app {x : D} {bs : List Int} {m : Mem} (h : LstAt x bs m) (l : Mem) : LstAt x bs (m ++ l) := by
  rcases h with h | ⟨i, h1, h2⟩
  · exact .inl h
  · refine .inr ⟨i, h1, ?_⟩
    have hi : i < m.length := (List.getElem?_eq_some_iff.mp h2).1
    rw [List.getElem?_append_left hi]; exact h2
theorem LstAt.len {x : D} {bs : List Int} {m : Mem} (h : LstAt x bs m) {Q : D → Mem → Prop} {X : Ecl → Mem → Prop} : wp (bLen [x] m) Q X = Q (.int bs.length) m := by
  rcases h with rfl | ⟨i, rfl, hi⟩
  · simp
  · simp [hi]
def RL (x : D) (bs : List Int) (m : Mem) (n : Nat) (ev : Ev) (m' : Mem) : Prop :=
  ∃ (acc : List (Row × Nat)) (a j : Nat) (o : Option D), n = j + 1 ∧ ev = [some x, some (.ref m.length), some (.int (a : Nat)), o] ∧ m' = m ++ [.lst (acc.map rpD)] ∧ logOf bs = (acc ++ (logR bs j a).1, (logR bs j a).2) ∧ bs.length + 1 ≤ j + a ∧ acc.length ≤ a ∧ a ≤ bs.length
theorem frz_last {m : Mem} {xs : List D} {ev : Ev} {i : Nat} {Q : D → Mem → Prop} {X : Ecl → Mem → Prop} (h : ev[i]? = some (some (.ref m.length))) : wp (eFrz i ev (m ++ [.lst xs])) Q X = Q (.lst xs) (m ++ [.dead]) := by
  have : eFrz i ev (m ++ [.lst xs]) = .ok (.lst xs) (m ++ [.dead]) := by simp [eFrz, h]
  rw [this, wp_ok]
theorem sp_read_log (x : D) (bs : List Int) (m : Mem) (hx : LstAt x bs m) (hb : Bytes bs) (hl : bs.length ≤ 16000000) : m_read_log [x] m = .ok (.tup [rpsD (logOf bs).1, .int ((logOf bs).2 : Nat)]) m := by
  refine runP_ok rfl (by simp [flat0, flat0s]) ?_
  unfold b_read_log
  rw [ws_sSeq]
  simp only [evOf, List.replicate]
  simp
  rw [ws_sSeq]
  simp
  refine ws_sWhile (RL x bs m) (bs.length + 2) (by unfold FUEL; omega) ?_ ⟨[], 0, bs.length + 1, none, rfl, rfl, by simp, rfl, by omega, by simp, by omega⟩
  rintro n ev m' ⟨acc, a, j, o, rfl, rfl, rfl, hlog, hja, hacc, ha⟩
  simp
  rw [ws_sSeq]
  have hr := sp_row_at' x bs a (m ++ [.lst (acc.map rpD)]) (hx.app _) hb (by omega)
  simp [hr]
  rw [ws_sSeq, ws_sIf]
  cases h : rowAt bs a with
  | none =>
    rw [logR_none h] at hlog
    simp [atD, frz_last, hlog, rpsD]
  | some q =>
    obtain ⟨r, e⟩ := q
    have hok := rowAt_ok hb h
    obtain ⟨j', rfl⟩ : ∃ j', j = j' + 1 := ⟨j - 1, by omega⟩
    rw [logR_some h] at hlog
    simp [atD]
    rw [ws_sSeq]
    have hs : acc.length < 16777216 := by omega
    simp [hs]
    exact ⟨acc ++ [(r, a)], e, j', _, rfl, rfl, by simp [rpD], by rw [hlog]; simp, by omega, by simp; omega, hok.2.2⟩
def SV (x : D) (bs : List Int) (m : Mem) (n : Nat) (ev : Ev) (m' : Mem) : Prop :=
  ∃ (acc : List (Row × Nat)) (a j : Nat) (o : Option D), n = j ∧ ev = [some x, some (.ref m.length), some (.int (a : Nat)), o] ∧ m' = m ++ [.lst (acc.map rpD)] ∧ salvOf bs = acc ++ salvR bs j a ∧ bs.length + 1 ≤ j + a ∧ acc.length ≤ a ∧ a ≤ bs.length
end Lt

set_option Elab.async false
set_option linter.all false
set_option maxRecDepth 100000
/-! S26: a file's bytes, where no caller changes them. -/
namespace Lt
open PySem L2
section
variable {m : Mem} {n : Nat}
theorem sp_readP {dk : Dk} (a : DiskAt m n dk) {k : Str} {v : Fl} (hv : lkA dk.fs k = some v) (hb : v.bs.length ≤ 16777216) : m_Disk_read [.ref n, .str k] m = .ok (.lst (v.bs.map .int)) m := by
  have al := a.at_.lt
  have hl := sp_look (r := dk.room) (hs := KD hD dk.fs) (ss := KD sD dk.fs) al k
  rw [valD_KD, hv, a.at_.same] at hl
  simp at hl
  have rd : rdI .disk (.ref n) m = some (dfs n dk.room) := rdI_at a.at_.i
  have ix := fun Q X => oIx_dic (k := k) (Q := Q) (X := X) a.at_.h
  simp only [valD_KD, hv, Option.map_some] at ix
  refine runP_ok rfl (by simp) ?_
  unfold b_Disk_read
  rw [ws_sSeq]
  simp [evOf, rd, hl, ix, hD, hb]
end
end Lt

set_option Elab.async false
set_option linter.all false
set_option maxRecDepth 100000
/-! S22: a file's size, and a piece of it. -/
namespace Lt
open PySem L2
section
variable {m : Mem} {n : Nat} {d : Dk} {r : Option Nat} {hs ss : List (Key × D)}
theorem sp_size (a : DiskAt m n d) (k : Str) : m_Disk_size [.ref n, .str k] m = match lkA d.fs k with | some v => .ok (.int v.bs.length) m | none => .exc .file m := by
  have al := a.at_.lt
  have hl := sp_look (r := d.room) (hs := KD hD d.fs) (ss := KD sD d.fs) al k
  rw [valD_KD] at hl
  rw [← a.same]
  cases hv : lkA d.fs k with
  | none =>
    refine runP_exc rfl ?_
    unfold b_Disk_size
    rw [ws_sSeq]
    simp [evOf, al, hl, hv]
  | some v =>
    refine runP_ok rfl rfl ?_
    unfold b_Disk_size
    rw [ws_sSeq]
    simp [evOf, al, hl, hv, valD_KD, hD]
theorem sp_piece (a : DiskAt m n d) (k : Str) (x y : Int) (hs : ∀ v, lkA d.fs k = some v → v.bs.length ≤ 16777216) : m_Disk_piece [.ref n, .str k, .int x, .int y] m = match lkA d.fs k with | some v => .ok (.lst (cutD (v.bs.map .int) (some x) (some y))) m | none => .exc .file m := by
  have al := a.at_.lt
  have hl := sp_look (r := d.room) (hs := KD hD d.fs) (ss := KD sD d.fs) al k
  rw [valD_KD] at hl
  rw [← a.same]
  cases hv : lkA d.fs k with
  | none =>
    refine runP_exc rfl ?_
    unfold b_Disk_piece
    rw [ws_sSeq]
    simp [evOf, al, hl, hv]
  | some v =>
    have hz := hs v hv
    refine runP_ok rfl ?_ ?_
    · have : ∃ L : List Int, cutD (v.bs.map D.int) (some x) (some y) = L.map D.int := ⟨(v.bs.drop (HT.sIx v.bs.length 0 (some x))).take (HT.sIx v.bs.length v.bs.length (some y) - HT.sIx v.bs.length 0 (some x)), by simp [cutD]⟩
      obtain ⟨L, e⟩ := this
      simp [e]
    · unfold b_Disk_piece
      rw [ws_sSeq]
      simp [evOf, al, hl, hv, valD_KD, hD]
      unfold cutD
      simp
      omega
/-! names -/
end
end Lt

set_option Elab.async false
set_option linter.all false
set_option maxRecDepth 100000
/-! N2: which log files a disk has; those that are hurt. -/
namespace Lt
open PySem L2
theorem mem_nums {ks : List Str} {n : Nat} : n ∈ numsOf ks ↔ 1 ≤ n ∧ n ≤ 999999999 ∧ logN n ∈ ks := by
  unfold numsOf
  rw [List.mem_filterMap]
  constructor
  · rintro ⟨k, hk, e⟩
    obtain ⟨e1, e2, e3⟩ := numIn_eq e
    exact ⟨e2, e3, by unfold logN; rw [← e1]; exact hk⟩
  · rintro ⟨h1, h2, h3⟩
    exact ⟨_, h3, numIn_app _ h1 h2⟩
theorem nums_nodup : ∀ {ks : List Str}, ks.Nodup → (numsOf ks).Nodup
  | [], _ => by simp [numsOf]
  | k :: r, nd => by
    rw [List.nodup_cons] at nd
    have ih := nums_nodup nd.2
    unfold numsOf at ih ⊢
    rw [List.filterMap_cons]
    cases e : numIn c_LOG k with
    | none => exact ih
    | some n =>
      simp only
      rw [List.nodup_cons]
      refine ⟨fun h => nd.1 ?_, ih⟩
      have := (mem_nums (ks := r)).mp h
      rw [(numIn_eq e).1]
      exact this.2.2
theorem logN_inj {a b : Nat} (h : logN a = logN b) : a = b := name_inj h
theorem logN_ok {n : Nat} (h1 : n ≤ 999999999) : nameOk (logN n) = true := by
  have l9 := numS_len9 h1
  have e4 : c_LOG.length = 4 := by decide +kernel
  have el : (logN n).length = 4 + (numS n).length := by unfold logN; rw [PySem.Str.length_append, e4]
  unfold nameOk
  rw [Bool.and_eq_true, Bool.and_eq_true, decide_eq_true_eq, decide_eq_true_eq, List.all_eq_true]
  refine ⟨⟨by omega, by omega⟩, fun c hc => ?_⟩
  unfold logN at hc
  rw [strApp_l] at hc
  rcases List.mem_append.mp hc with h | h
  · have : ∀ c ∈ c_LOG.cps.toList, c_small c = true := by decide +kernel
    exact this c h
  · obtain ⟨h1, h2⟩ := numS_digits n c h
    have : ∀ k : Fin 10, c_small (48 + k.val) = true := by decide +kernel
    have t := this ⟨c - 48, by omega⟩
    simp only at t
    rwa [show 48 + (c - 48) = c by omega] at t
structure LogsAre (ks : List Str) (L : List Nat) : Prop where
  lt : L.Pairwise (· < ·)
  mem : ∀ n, n ∈ L ↔ 1 ≤ n ∧ n ≤ 999999999 ∧ logN n ∈ ks
theorem LogsAre.len {ks : List Str} {L : List Nat} (h : LogsAre ks L) (nd : ks.Nodup) : L.Perm (numsOf ks) := by
  have n1 : L.Nodup := h.lt.imp fun h => Nat.ne_of_lt h
  rw [List.perm_ext_iff_of_nodup n1 (nums_nodup nd)]
  intro n
  rw [h.mem, mem_nums]
theorem files_eq {ks : List Str} {L : List Nat} (nd : ks.Nodup) (h : LogsAre ks L) : filesI (sortS ks) = L.map Int.ofNat := by
  unfold filesI
  refine (sortI_uniq ?_ ?_).symm
  · refine ((h.len nd).map _).trans (List.Perm.map _ ?_)
    exact ((sortS_perm ks).symm.filterMap _)
  · rw [List.pairwise_map]
    exact h.lt.imp fun h => by show (_ : Int) ≤ _; simp; omega
def lookRow (d : Dk) (n : Nat) : Option D :=
  if (logOf (d.getF (logN n)).bs).2 < (d.getF (logN n)).bs.length then some (.tup [.int (n : Nat), .int ((logOf (d.getF (logN n)).bs).2 : Nat), .int ((d.getF (logN n)).bs.length : Nat)]) else none
theorem lookRow_flat {d : Dk} {L : List Nat} : flat0s (L.filterMap (lookRow d)) = true := by
  induction L with
  | nil => rfl
  | cons n r ih =>
    rw [List.filterMap_cons]
    unfold lookRow at ih ⊢
    split
    · exact ih
    · rename_i h
      split at h
      · cases h; simp [flat0s, flat0]; exact ih
      · cases h
theorem filterMap_take {α β : Type} (f : α → Option β) (xs : List α) {j : Nat} (h : j < xs.length) : (xs.take (j + 1)).filterMap f = (xs.take j).filterMap f ++ (f xs[j]).toList := by
  rw [List.take_succ_eq_append_getElem h, List.filterMap_append]
  cases e : f xs[j] <;> simp [List.filterMap_cons, e]
end Lt

set_option Elab.async false
set_option linter.all false
set_option maxRecDepth 100000
/-! N6: a store, and the disk it is over. -/
namespace Lt
open PySem L2
abbrev Loc := Int × Nat × Nat
def locD (l : Loc) : D := .tup [.int l.1, .int (l.2.1 : Nat), .int (l.2.2 : Nat)]
structure Sto where
  most : Nat
  tab : List (Str × Loc)
  last : Int
  thinned : Int
  looks : Int
  th : D
def sfs (n p : Nat) (s : Sto) : List (Str × D) := [("disk", .ref n), ("most", .int (s.most : Nat)), ("table", .ref (p + 1)), ("last", .int s.last), ("thinned", .int s.thinned), ("looks", .int s.looks), ("thinning", s.th)]
section
variable {n p : Nat} {s : Sto}
@[simp] theorem sf_disk : fget (sfs n p s) "disk" = some (.ref n) := rfl
@[simp] theorem sf_most : fget (sfs n p s) "most" = some (.int (s.most : Nat)) := rfl
@[simp] theorem sf_table : fget (sfs n p s) "table" = some (.ref (p + 1)) := rfl
@[simp] theorem sf_last : fget (sfs n p s) "last" = some (.int s.last) := rfl
@[simp] theorem sf_thinned : fget (sfs n p s) "thinned" = some (.int s.thinned) := rfl
@[simp] theorem sf_looks : fget (sfs n p s) "looks" = some (.int s.looks) := rfl
@[simp] theorem sf_th : fget (sfs n p s) "thinning" = some s.th := rfl
@[simp] theorem sf_set_last {v : Int} : putD "last" (.int v) (sfs n p s) = sfs n p { s with last := v } := rfl
@[simp] theorem sf_set_thinned {v : Int} : putD "thinned" (.int v) (sfs n p s) = sfs n p { s with thinned := v } := rfl
@[simp] theorem sf_set_looks {v : Int} : putD "looks" (.int v) (sfs n p s) = sfs n p { s with looks := v } := rfl
@[simp] theorem sf_set_th {v : D} : putD "thinning" v (sfs n p s) = sfs n p { s with th := v } := rfl
@[simp] theorem sf_m_files : fget (sfs n p s) "files" = none := rfl
@[simp] theorem sf_m_wake : fget (sfs n p s) "wake" = none := rfl
@[simp] theorem sf_m_first_file : fget (sfs n p s) "first_file" = none := rfl
@[simp] theorem sf_m_open_file : fget (sfs n p s) "open_file" = none := rfl
@[simp] theorem sf_m_take_hint : fget (sfs n p s) "take_hint" = none := rfl
@[simp] theorem sf_m_learn : fget (sfs n p s) "learn" = none := rfl
@[simp] theorem sf_m_current : fget (sfs n p s) "current" = none := rfl
@[simp] theorem sf_m_make_room : fget (sfs n p s) "make_room" = none := rfl
@[simp] theorem sf_m_append : fget (sfs n p s) "append" = none := rfl
@[simp] theorem sf_m_put : fget (sfs n p s) "put" = none := rfl
@[simp] theorem sf_m_drop : fget (sfs n p s) "drop" = none := rfl
@[simp] theorem sf_m_deal : fget (sfs n p s) "deal" = none := rfl
@[simp] theorem sf_m_sync : fget (sfs n p s) "sync" = none := rfl
@[simp] theorem sf_m_row_of : fget (sfs n p s) "row_of" = none := rfl
@[simp] theorem sf_m_get : fget (sfs n p s) "get" = none := rfl
@[simp] theorem sf_m_all_keys : fget (sfs n p s) "all_keys" = none := rfl
@[simp] theorem sf_m_where : fget (sfs n p s) "where" = none := rfl
@[simp] theorem sf_m_number : fget (sfs n p s) "number" = none := rfl
@[simp] theorem sfs_len : (sfs n p s).length = 7 := rfl
end
structure StoAt (m : Mem) (p n : Nat) (s : Sto) : Prop where
  i : m[p]? = some (.ins .store (sfs n p s))
  t : m[p + 1]? = some (.dic false (KD locD s.tab))
  nd : (keysA s.tab).Nodup
def stk (p n : Nat) : List Nat := [n, n + 1, n + 2, p, p + 1]
@[simp] theorem mem_stk {p n j : Nat} : j ∈ stk p n ↔ j = n ∨ j = n + 1 ∨ j = n + 2 ∨ j = p ∨ j = p + 1 := by simp [stk]
/-- a store at p over a disk at n -/
structure SD (m : Mem) (p n : Nat) (s : Sto) (d : Dk) : Prop where
  st : StoAt m p n s
  dk : DiskAt m n d
  dj : n + 2 < p ∨ p + 1 < n
section
variable {m m' : Mem} {p n : Nat} {s : Sto} {d d' : Dk}
theorem StoAt.fr {ws : List Nat} (a : StoAt m p n s) (f : Fr ws m m') (h : p ∉ ws ∧ p + 1 ∉ ws) : StoAt m' p n s := ⟨f.at a.i h.1, f.at a.t h.2, a.nd⟩
theorem SD.fr {ws : List Nat} (g : SD m p n s d) (f : Fr ws m m') (h : ∀ j ∈ stk p n, j ∉ ws) : SD m' p n s d :=
  ⟨g.st.fr f ⟨h p (by simp), h (p + 1) (by simp)⟩, g.dk.fr f ⟨h n (by simp), h (n + 1) (by simp), h (n + 2) (by simp)⟩, g.dj⟩
theorem SD.app (g : SD m p n s d) (l : Mem) : SD (m ++ l) p n s d := g.fr (Fr.app (ws := [])) (by simp)
theorem SD.fld (g : SD m p n s d) {s' : Sto} (h : s'.tab = s.tab) : SD (m.set p (.ins .store (sfs n p s'))) p n s' d := by
  have F := Fr.set (ws := [p]) (m := m) (i := p) (c := .ins .store (sfs n p s')) (by simp)
  refine ⟨⟨List.getElem?_set_self (lt_of g.st.i), ?_, by rw [h]; exact g.st.nd⟩, g.dk.fr F (by have := g.dj; simp; omega), g.dj⟩
  rw [h]; exact F.at g.st.t (by simp)
theorem SD.tab (g : SD m p n s d) {t : List (Str × Loc)} (h : (keysA t).Nodup) : SD (m.set (p + 1) (.dic false (KD locD t))) p n { s with tab := t } d := by
  have F := Fr.set (ws := [p + 1]) (m := m) (i := p + 1) (c := .dic false (KD locD t)) (by simp)
  exact ⟨⟨F.at g.st.i (by simp), List.getElem?_set_self (lt_of g.st.t), h⟩, g.dk.fr F (by have := g.dj; simp; omega), g.dj⟩
theorem SD.disk (g : SD m p n s d) (h : (keysA d'.fs).Nodup) : SD (putDk n d' m) p n s d' :=
  ⟨g.st.fr (putDr_fr (n := n)) (by have := g.dj; simp; omega), g.dk.put h, g.dj⟩
theorem Fr.fld : Fr (stk p n) m (m.set p (.ins .store (sfs n p s))) := Fr.set (by simp)
theorem Fr.tab {t : List (Str × Loc)} : Fr (stk p n) m (m.set (p + 1) (.dic false (KD locD t))) := Fr.set (by simp)
theorem Fr.disk : Fr (stk p n) m (putDk n d' m) := (putDr_fr (n := n)).mono (by simp)
theorem SD.rd (g : SD m p n s d) : rdI .disk (.ref n) m = some (dfs n d.room) := rdI_at g.dk.at_.i
theorem SD.rs (g : SD m p n s d) : rdI .store (.ref p) m = some (sfs n p s) := rdI_at g.st.i
/-- a disk that a store can be over: names that are names, not too many, bytes that are bytes -/
structure Dok (d : Dk) (B : Nat) : Prop where
  nm : ∀ k ∈ keysA d.fs, nameOk k = true
  len : d.fs.length < 64
  by_ : ∀ k v, lkA d.fs k = some v → Bytes v.bs ∧ v.bs.length ≤ B ∧ v.su ≤ v.bs.length
theorem sp_files (g : SD m p n s d) (ok : Dok d B) : m_Store_files [.ref p] m = .ok (.lst ((filesI (sortS (keysA d.fs))).map .int)) m := by
  have hn := sp_names g.dk ok.len
  refine runP_ok rfl (by simp) ?_
  unfold b_Store_files
  refine ws_files (ks := sortS (keysA d.fs)) (by rw [sort_len, keys_len]; have := ok.len; omega) (fun k h => ok.nm k (sort_mem.mp h)) ?_ ?_
  · intro Q X hq
    simp [g.rs, g.rd, hn]
    exact hq
  · exact ⟨by simp, rfl⟩
end
end Lt

set_option Elab.async false
set_option linter.all false
set_option maxRecDepth 100000
/-! N7: a store: what it learns; its files; room for what is written. -/
namespace Lt
open PySem L2
/-- whether a file begins with a thin -/
def thinAt (bs : List Int) : Bool := match rowAt (bs.take 12) 0 with
  | some (r, _) => decide (r.k = "thin")
  | none => false
def firstOf (d : Dk) (L : List Nat) : Nat := L.foldl (fun f n => if thinAt (d.getF (logN n)).bs = true then n else f) 0
def learnT (t : List (Str × Loc)) (r : Row) (file place : Nat) : List (Str × Loc) := if r.k = "put" then putA t r.key (r.n, file, place) else dropA t r.key
theorem atI_last {α : Type} (xs : List α) (x : α) : atI (xs ++ [x]) (-1) = some x := by
  have h : ixN (xs ++ [x]).length (-1) = some xs.length := by
    simp [ixN]
    omega
  unfold atI
  rw [h]
  simp
theorem set_same {m : Mem} {i : Nat} {c : Cell} (h : m[i]? = some c) : m.set i c = m := by
  apply List.ext_getElem?
  intro j
  rw [List.getElem?_set]
  by_cases e : i = j
  · subst e
    have := lt_of h
    rw [if_pos rfl, if_pos this, h]
  · simp [e]
theorem dropA_none {α : Type} {fs : List (Str × α)} {k : Str} (h : lkA fs k = none) : dropA fs k = fs := by
  unfold dropA
  refine List.filter_eq_self.mpr fun p hp => ?_
  have := lk_none.mp h
  simp
  intro e
  exact this (by rw [← e]; exact List.mem_map_of_mem hp)
section
variable {m m' : Mem} {p n : Nat} {s : Sto} {d d' : Dk} {L : List Nat} {B : Nat}
theorem LogsAre.le63 (F : LogsAre (keysA d.fs) L) (nd : (keysA d.fs).Nodup) (h : d.fs.length < 64) : L.length ≤ 63 := by
  have := (F.len nd).length_eq
  have := nums_len (keysA d.fs)
  rw [keys_len] at this
  omega
theorem sp_filesL (g : SD m p n s d) (ok : Dok d B) (F : LogsAre (keysA d.fs) L) : m_Store_files [.ref p] m = .ok (.lst (L.map fun n => D.int (n : Nat))) m := by
  rw [sp_files g ok, files_eq g.dk.nd F, List.map_map]
  rfl
theorem sp_current (g : SD m p n s d) (ok : Dok d B) {L0 : List Nat} {c : Nat} (F : LogsAre (keysA d.fs) (L0 ++ [c])) : m_Store_current [.ref p] m = .ok (.int (c : Nat)) m := by
  have hf := sp_filesL g ok F
  have l := F.le63 g.dk.nd ok.len
  refine runP_ok rfl rfl ?_
  unfold b_Store_current
  simp [evOf, g.rs, hf, atI_last]
theorem learn_nd (h : (keysA s.tab).Nodup) (r : Row) (a b : Nat) : (keysA (learnT s.tab r a b)).Nodup := by
  unfold learnT
  split
  · exact nd_put h
  · exact nd_drop h
theorem sp_learn (g : SD m p n s d) (hl : s.tab.length < 1000000) (r : Row) (a b : Nat) : m_Store_learn [.ref p, rowD r, .int (a : Nat), .int (b : Nat)] m = .ok .non (m.set (p + 1) (.dic false (KD locD (learnT s.tab r a b)))) := by
  have rs := g.rs
  have rc := rdC_at g.st.t
  refine runF_ok rfl ?_
  unfold b_Store_learn
  rw [ws_sIf]
  unfold learnT
  by_cases h : r.k = "put"
  · simp [evOf, rowD, h, rs, rc, KD_len, show s.tab.length < 16777216 by omega]
    have : D.tup [.int r.n, .int (a : Nat), .int (b : Nat)] = locD (r.n, a, b) := rfl
    rw [this, putKD_KD (v := (r.n, a, b)) rfl]
  · simp [evOf, rowD, h, rs, rc]
    refine ⟨⟨_, rdK_at g.st.t⟩, ?_⟩
    rw [valD_KD]
    cases hv : lkA s.tab r.key with
    | none =>
      refine .inr ⟨rfl, ?_⟩
      rw [dropA_none hv, set_same g.st.t]
    | some v =>
      refine .inl ⟨⟨_, rfl⟩, ?_⟩
      rw [dropKD_KD]
theorem sp_first (g : SD m p n s d) (ok : Dok d B) (hB : B ≤ 1000000) (F : LogsAre (keysA d.fs) L) : m_Store_first_file [.ref p] m = .ok (.int (firstOf d L : Nat)) m := by
  have hf := sp_filesL g ok F
  have l := F.le63 g.dk.nd ok.len
  refine runP_ok rfl rfl ?_
  unfold b_Store_first_file
  rw [ws_sSeq]
  simp only [evOf, List.replicate]
  simp
  refine ws_cut (fun ev m' => ∃ o2 o3, ev = [some (.ref p), some (.int (firstOf d L : Nat)), o2, o3] ∧ m' = m) ?_ ?_
  · rw [ws_sFor]
    simp [g.rs, hf]
    refine ws_forGo (fun j ev m' => ∃ o2 o3, ev = [some (.ref p), some (.int (firstOf d (L.take j) : Nat)), o2, o3] ∧ m' = m) (fun _ _ _ _ _ => trivial) ?_ ?_ ⟨none, none, rfl, rfl⟩
    · rintro j ev m' hj ⟨o2, o3, rfl, rfl⟩
      have hjl : j < L.length := by simpa using hj
      obtain ⟨q1, q2, q3⟩ := (F.mem L[j]).mp (List.getElem_mem _)
      refine ⟨[some (.ref p), some (.int (firstOf d (L.take j) : Nat)), some (.int (L[j] : Nat)), o3], by simp, ?_⟩
      have ft : firstOf d (L.take (j + 1)) = if thinAt (d.getF (logN L[j])).bs = true then L[j] else firstOf d (L.take j) := by
        unfold firstOf
        rw [List.take_succ_eq_append_getElem hjl, List.foldl_append]
        rfl
      generalize L[j] = x at *
      obtain ⟨v, hv⟩ := Option.isSome_iff_exists.mp (mem_keys.mp q3)
      obtain ⟨b1, b2, b3⟩ := ok.by_ _ _ hv
      have gf : d.getF (logN x) = v := by simp [Dk.getF, hv]
      have pc := sp_piece g.dk (logN x) 0 12 (fun w hw => by rw [hv] at hw; cases hw; omega)
      rw [hv] at pc
      simp only at pc
      have e12 : cutD (v.bs.map D.int) (some (0 : Int)) (some (12 : Int)) = (v.bs.take 12).map .int := by
        have := cut_ints v.bs 0 12
        simpa using this
      rw [e12] at pc
      have hr := sp_row_at' (.lst ((v.bs.take 12).map .int)) (v.bs.take 12) 0 m' (.inl rfl) (b1.take 12) (by simp; omega)
      simp at hr
      rw [ws_sSeq]
      simp [g.rs, g.rd, sp_log_name x q2, pc, hr]
      rw [ws_sIf]
      rw [ft, gf]
      unfold thinAt
      cases h : rowAt (v.bs.take 12) 0 with
      | none => simp [atD]
      | some q =>
        obtain ⟨r, e⟩ := q
        by_cases hk : r.k = "thin"
        · simp [atD, rowD, hk]
        · simp [atD, rowD, hk]
    · rintro ev m' h
      simp at h ⊢
      exact h
  · rintro ev m' ⟨o2, o3, rfl, rfl⟩
    simp
end
/-! deeds that a disk may stop at -/
def Dk.tSync (d : Dk) (k : Str) : Dk × Bool := if d.room = some 0 then (d, false) else (d.sync k, true)
def Dk.tShort (d : Dk) (k : Str) (t : Nat) : Dk × Bool := if d.room = some 0 then (d, false) else (d.short k t, true)
def Dk.tRem (d : Dk) (k : Str) : Dk × Bool := if d.room = some 0 then (d, false) else (d.rem k, true)
def Dk.tWr (d : Dk) (k : Str) (bs : List Int) : Dk × Bool := if d.room = some 0 then (d, false) else (d.wr k bs, decide (d.wrK bs = bs.length))
def andZ (a : Dk × Bool) (f : Dk → Dk × Bool) : Dk × Bool := if a.2 = true then f a.1 else a
/-- what a deed leaves: done, or stopped -/
def outZ (n : Nat) (z : Dk × Bool) (m : Mem) : R D := if z.2 = true then .ok .non (putDk n z.1 m) else .exc .stop (putDk n z.1 m)
@[simp] theorem wp_outZ {n : Nat} {z : Dk × Bool} {m : Mem} {Q : D → Mem → Prop} {X : Ecl → Mem → Prop} : wp (outZ n z m) Q X = ((z.2 = true → Q .non (putDk n z.1 m)) ∧ (z.2 = false → X .stop (putDk n z.1 m))) := by
  unfold outZ
  cases h : z.2 <;> simp
def isZ (n : Nat) (z : Dk × Bool) (m : Mem) : D → Mem → Prop := fun x m' => z.2 = true ∧ x = .non ∧ m' = putDk n z.1 m
def exZ (n : Nat) (z : Dk × Bool) (m : Mem) : Ecl → Mem → Prop := fun e m' => z.2 = false ∧ e = .stop ∧ m' = putDk n z.1 m
theorem outZ_eq {n : Nat} {z : Dk × Bool} {m : Mem} {r : R D} (h : wp r (isZ n z m) (exZ n z m)) : r = outZ n z m := by
  cases r with
  | ok d m' => rw [wp_ok] at h; obtain ⟨h1, rfl, rfl⟩ := h; unfold outZ; rw [if_pos h1]
  | exc c m' => rw [wp_exc] at h; obtain ⟨h1, rfl, rfl⟩ := h; unfold outZ; rw [if_neg (by rw [h1]; simp)]
  | stk => rw [wp_stk] at h; exact h.elim
section
variable {m m' : Mem} {p n : Nat} {s : Sto} {d d' : Dk} {L : List Nat} {B : Nat} {k : Str} {v : Fl}
theorem t_sync (a : DiskAt m n d) (hl : d.fs.length < 64) (hv : lkA d.fs k = some v) : m_Disk_sync [.ref n, .str k] m = outZ n (d.tSync k) m := by
  rw [sp_sync a k (by omega), hv, if_neg (by simp)]
  unfold Dk.tSync outZ
  split
  · simp only [Bool.false_eq_true, if_false]; rw [show putDk n d m = m from a.at_.same]
  · rfl
theorem t_rem (a : DiskAt m n d) (hv : lkA d.fs k = some v) : m_Disk_remove [.ref n, .str k] m = outZ n (d.tRem k) m := by
  rw [sp_remove a k, hv, if_neg (by simp)]
  unfold Dk.tRem outZ
  split
  · simp only [Bool.false_eq_true, if_false]; rw [show putDk n d m = m from a.at_.same]
  · rfl
theorem t_short (a : DiskAt m n d) (hl : d.fs.length < 64) (hv : lkA d.fs k = some v) {t : Nat} (ht : t ≤ v.bs.length) (hb : v.bs.length ≤ 16777216) : m_Disk_shorten [.ref n, .str k, .int (t : Nat)] m = outZ n (d.tShort k t) m := by
  have gf : d.getF k = v := by simp [Dk.getF, hv]
  rw [sp_shorten a k (t : Nat) (by omega) (by rw [gf]; exact hb), hv, if_neg (by simp), if_neg (by rw [gf]; omega)]
  unfold Dk.tShort outZ
  split
  · simp only [Bool.false_eq_true, if_false]; rw [show putDk n d m = m from a.at_.same]
  · rfl
theorem t_wr (a : DiskAt m n d) (hl : d.fs.length < 64) (hk : nameOk k = true) {bs : List Int} (hb : (d.getF k).bs.length + bs.length ≤ 16777216) : m_Disk_write [.ref n, .str k, .lst (bs.map .int)] m = outZ n (d.tWr k bs) m := by
  have wk := useK_le (useR d.room 1) bs.length
  rw [sp_write a hk (by omega) hb]
  unfold Dk.tWr outZ
  split
  · simp only [Bool.false_eq_true, if_false]; rw [show putDk n d m = m from a.at_.same]
  · split
    · rename_i h; have : ¬ d.wrK bs = bs.length := by omega
      simp [this]
    · rename_i h; have : d.wrK bs = bs.length := by unfold Dk.wrK at h ⊢; omega
      simp [this]
theorem Dok.mono (o : Dok d B) {C : Nat} (h : B ≤ C) : Dok d C := ⟨o.nm, o.len, fun k v hv => by have := o.by_ k v hv; exact ⟨this.1, by omega, this.2.2⟩⟩
theorem Dok.put (o : Dok d B) {r : Option Nat} {k : Str} {v w : Fl} (hw : lkA d.fs k = some w) (hv : Bytes v.bs ∧ v.bs.length ≤ B ∧ v.su ≤ v.bs.length) : Dok ⟨r, putA d.fs k v⟩ B := by
  have hk := keys_put_in (v := v) hw
  refine ⟨fun j hj => o.nm j (by rw [← hk]; exact hj), ?_, fun j u hu => ?_⟩
  · have := congrArg List.length hk
    rw [keys_len, keys_len] at this
    show (putA d.fs k v).length < 64
    rw [this]
    exact o.len
  · have hu : lkA (putA d.fs k v) j = some u := hu
    rw [lk_put] at hu
    by_cases z : j = k
    · rw [if_pos z] at hu; cases hu; exact hv
    · rw [if_neg z] at hu; exact o.by_ j u hu
theorem Dok.new (o : Dok d B) {r : Option Nat} {k : Str} {v : Fl} (hl : d.fs.length < 63) (hn : nameOk k = true) (hw : lkA d.fs k = none) (hv : Bytes v.bs ∧ v.bs.length ≤ B ∧ v.su ≤ v.bs.length) : Dok ⟨r, putA d.fs k v⟩ B := by
  have hk := keys_put_out (v := v) hw
  refine ⟨fun j hj => ?_, ?_, fun j u hu => ?_⟩
  · have hj : j ∈ keysA (putA d.fs k v) := hj
    rw [hk, List.mem_append] at hj
    rcases hj with hj | hj
    · exact o.nm j hj
    · simp at hj; rw [hj]; exact hn
  · have := congrArg List.length hk
    rw [keys_len, List.length_append, keys_len] at this
    show (putA d.fs k v).length < 64
    simp at this
    omega
  · have hu : lkA (putA d.fs k v) j = some u := hu
    rw [lk_put] at hu
    by_cases z : j = k
    · rw [if_pos z] at hu; cases hu; exact hv
    · rw [if_neg z] at hu; exact o.by_ j u hu
theorem Dok.sync (o : Dok d B) {k : Str} {w : Fl} (hw : lkA d.fs k = some w) : Dok (d.sync k) B := by
  have gf : d.getF k = w := by simp [Dk.getF, hw]
  have := o.by_ _ _ hw
  unfold Dk.sync
  rw [gf]
  exact o.put hw ⟨this.1, this.2.1, Nat.le_refl _⟩
/-- room for so many bytes more, files of so many bytes at most: a new file, or none -/
def roomZ (d : Dk) (c many most : Nat) : Dk × Bool :=
  if 0 < (d.getF (logN c)).bs.length ∧ most < (d.getF (logN c)).bs.length + many then andZ (d.tSync (logN c)) fun d => d.tWr (logN (c + 1)) [] else (d, true)
theorem sp_make_room (g : SD m p n s d) (ok : Dok d B) (hB : B ≤ 1000000) {L0 : List Nat} {c many : Nat} (F : LogsAre (keysA d.fs) (L0 ++ [c])) (hc : c < 999999999) (hm : many ≤ 10000000) : m_Store_make_room [.ref p, .int (many : Nat)] m = outZ n (roomZ d c many s.most) m := by
  obtain ⟨q1, q2, q3⟩ := (F.mem c).mp (by simp)
  obtain ⟨v, hv⟩ := Option.isSome_iff_exists.mp (mem_keys.mp q3)
  obtain ⟨b1, b2, b3⟩ := ok.by_ _ _ hv
  have gf : d.getF (logN c) = v := by simp [Dk.getF, hv]
  have hs := sp_size g.dk (logN c)
  rw [hv] at hs
  simp only at hs
  have hcur := sp_current g ok F
  refine outZ_eq ?_
  refine wp_runF rfl ?_
  unfold b_Store_make_room
  rw [ws_sSeq]
  simp only [evOf, List.replicate]
  simp [g.rs, hcur, sp_log_name c q2]
  rw [ws_sSeq]
  simp [g.rs, g.rd, hs]
  rw [ws_sIf]
  have gt1 : ¬ (v.bs.length : Int) ≤ 0 ↔ 0 < v.bs.length := by omega
  by_cases c1 : 0 < v.bs.length
  · by_cases c2 : s.most < v.bs.length + many
    · have hz : roomZ d c many s.most = andZ (d.tSync (logN c)) fun d => d.tWr (logN (c + 1)) [] := by unfold roomZ; rw [gf, if_pos ⟨c1, c2⟩]
      rw [hz]
      have ts := t_sync g.dk ok.len hv
      have c2i : (s.most : Int) < (v.bs.length : Int) + many := by omega
      simp [c1, g.rs]
      refine .inr ⟨c2i, ?_⟩
      rw [ws_sSeq]
      simp [g.rs, g.rd, ts]
      unfold andZ Dk.tSync
      by_cases hr : d.room = some 0
      · simp [hr]
        exact ⟨rfl, rfl, rfl⟩
      · simp [hr]
        have gS := gf
        have okS := ok.sync hv
        have kS : keysA (d.sync (logN c)).fs = keysA d.fs := keys_put_in hv
        have g1 : SD (putDk n (d.sync (logN c)) m) p n s (d.sync (logN c)) := g.disk (by rw [kS]; exact g.dk.nd)
        have c1' := sp_current g1 okS (by rw [kS]; exact F)
        have sl := sp_log_name (c + 1) (by omega)
        have nm := logN_ok (n := c + 1) (by omega)
        have ge : ((d.sync (logN c)).getF (logN (c + 1))).bs.length ≤ B := by
          unfold Dk.getF
          cases h : lkA (d.sync (logN c)).fs (logN (c + 1)) with
          | none => simp
          | some w => exact (okS.by_ _ _ h).2.1
        have tw := t_wr g1.dk okS.len nm (bs := []) (by simp; omega)
        simp only [List.map_nil] at tw
        have sl' : ∀ m : Mem, m_log_name [.int ((c : Int) + 1)] m = .ok (.str (logN (c + 1))) m := fun m => sl m
        simp [g1.rs, g1.rd, c1', sl', tw]
        exact ⟨fun h => ⟨h, rfl, rfl⟩, fun h => ⟨h, rfl, rfl⟩⟩
    · have hz : roomZ d c many s.most = (d, true) := by unfold roomZ; rw [gf, if_neg (fun z => c2 z.2)]
      rw [hz]
      have c2i : (v.bs.length : Int) + many ≤ (s.most : Int) := by omega
      simp [c1, g.rs]
      exact .inl ⟨c2i, rfl, rfl, g.dk.at_.same.symm⟩
  · have hz : roomZ d c many s.most = (d, true) := by unfold roomZ; rw [gf, if_neg (fun z => c1 z.1)]
    rw [hz]
    simp [c1, g.rs]
    exact ⟨rfl, rfl, g.dk.at_.same.symm⟩
end
end Lt

set_option Elab.async false
set_option linter.all false
set_option maxRecDepth 100000
/-! SW: written rows. -/
namespace Lt
open PySem L2
theorem idx_kind {k : Str} (h : isKind k = true) : ∃ j : Nat, idxF (.str k) (c_KINDS.map D.str) = some j ∧ (j : Int) = kidx k := by
  rcases isKind_cases h with rfl | rfl | rfl | rfl | rfl
  · exact ⟨1, by decide +kernel, by decide +kernel⟩
  · exact ⟨2, by decide +kernel, by decide +kernel⟩
  · exact ⟨3, by decide +kernel, by decide +kernel⟩
  · exact ⟨4, by decide +kernel, by decide +kernel⟩
  · exact ⟨5, by decide +kernel, by decide +kernel⟩
theorem sp_written_row (r : Row) (hk : r.key.length ≤ 16777216) (hv : r.val.length ≤ 16777216) (m : Mem) : m_written_row [rowD r] m = if rowOk r then .ok (.lst ((enc r).map .int)) m else .exc .row m := by
  have hl := sp_look_row r hk hv m
  split
  · rename_i c
    have R := rowOk_of c
    refine runP_ok rfl (by simp) ?_
    have h1 := sp_number_bytes r.n 4 (by omega) m
    have h2 := sp_number_bytes r.val.length 2 (by omega) m
    obtain ⟨j, hj, hj2⟩ := idx_kind R.kind
    simp [c, rowD] at h1 h2 hl
    simp [b_written_row, evOf, ws_sIf, ws_sSeq, hl, hk, hv, c, rowD, h1, h2, List.replicate, hj, hj2, numB_len]
    have kl := R.kl
    have vl := R.vl
    refine ⟨by omega, ?_⟩
    rw [← List.map_append]
    refine wp_lcA _ _ (fun c => [some (.tup [.str r.k, .int r.n, .str r.key, .str r.val]), some (.str r.k), some (.int r.n), some (.str r.key), some (.str r.val), some (.lst (.int (kidx r.k) :: (List.map D.int (numB r.n 4) ++ .int r.key.length :: List.map D.int (numB r.val.length 2)))), some (.str ⟨#[c]⟩)]) (fun c => .int (c : Nat)) trivial (by simp; omega) (fun c _ => by simp [wipeE]) (fun c _ => by simp) ?_
    have hs := sp_sums_of (body r) m
    have hb : (D.int (kidx r.k) :: (List.map D.int (numB r.n 4) ++ D.int r.key.length :: List.map D.int (numB r.val.length 2))) ++ (r.key.cps.toList ++ r.val.cps.toList).map (fun c => D.int (c : Nat)) = (body r).map D.int := by
      simp [body, ords, Function.comp_def]
    simp at hb
    have e : enc r = sums (body r) ++ body r := rfl
    simp [hb, hs, sums_len, body_len, e]
    omega
  · rename_i c
    refine runP_exc rfl ?_
    simp [b_written_row, evOf, ws_sIf, ws_sSeq, hl, hk, hv, c]
end Lt

set_option Elab.async false
set_option linter.all false
set_option maxRecDepth 100000
/-! T6: logs of whole rows, and of what is left of them. -/
namespace Lt
open PySem L2
theorem encs_len (rs : List Row) (h : ∀ r ∈ rs, rowOk r = true) : (encs rs).length ≤ 452 * rs.length := by
  induction rs with
  | nil => simp [encs]
  | cons r rs ih =>
    have R := rowOk_of (h r (by simp))
    have := R.kl
    have := R.vl
    have := ih fun q hq => h q (by simp [hq])
    simp only [encs, List.map_cons, List.flatten_cons, List.length_append, enc_len, List.length_cons] at this ⊢
    omega
theorem encs_app (a b : List Row) : encs (a ++ b) = encs a ++ encs b := by simp [encs]
theorem encs_cons (r : Row) (b : List Row) : encs (r :: b) = enc r ++ encs b := by simp [encs]
@[simp] theorem encs_nil : encs [] = [] := rfl
theorem encs_take {rs : List Row} {j : Nat} (h : j < rs.length) : encs (rs.take (j + 1)) = encs (rs.take j) ++ enc rs[j] := by
  unfold encs
  rw [List.take_succ_eq_append_getElem h, List.map_append, List.flatten_append]
  simp only [List.map_cons, List.map_nil, List.flatten_cons, List.flatten_nil, List.append_nil]
theorem encs_bytes {rs : List Row} (h : ∀ r ∈ rs, rowOk r = true) : Bytes (encs rs) := by
  intro b hb
  obtain ⟨l, hl, hb⟩ := List.mem_flatten.mp hb
  obtain ⟨r, hr, rfl⟩ := List.mem_map.mp hl
  exact enc_bytes (rowOk_of (h r hr)) b hb
theorem encs_ge (rs : List Row) : 12 * rs.length ≤ (encs rs).length := by
  induction rs with
  | nil => simp
  | cons r rs ih =>
    have := enc_len r
    rw [encs_cons, List.length_append, List.length_cons]
    omega
/-- rows with their places, from a place on -/
def placed : List Row → Nat → List (Row × Nat)
  | [], _ => []
  | r :: rs, a => (r, a) :: placed rs (a + (enc r).length)
theorem placed_len : ∀ (rs : List Row) (a : Nat), (placed rs a).length = rs.length
  | [], _ => rfl
  | r :: rs, a => by simp [placed, placed_len rs]
theorem placed_app : ∀ (xs ys : List Row) (a : Nat), placed (xs ++ ys) a = placed xs a ++ placed ys (a + (encs xs).length)
  | [], ys, a => by simp [placed]
  | x :: xs, ys, a => by simp [placed, placed_app xs ys, encs_cons, Nat.add_assoc]
theorem placed_take (rs : List Row) (k : Nat) (a : Nat) : (placed rs a).take k = placed (rs.take k) a := by
  by_cases h : k ≤ rs.length
  · have e := placed_app (rs.take k) (rs.drop k) a
    rw [List.take_append_drop] at e
    have hl : (placed (rs.take k) a).length = k := by rw [placed_len, List.length_take]; omega
    rw [e, List.take_append_of_le_length (by omega), List.take_of_length_le (by omega)]
  · rw [List.take_of_length_le (by rw [placed_len]; omega), List.take_of_length_le (by omega)]
theorem placed_ok {rs : List Row} (h : ∀ r ∈ rs, rowOk r = true) (a : Nat) : ∀ p ∈ placed rs a, rowOk p.1 = true := by
  induction rs generalizing a with
  | nil => intro p hp; cases hp
  | cons r rs ih =>
    intro p hp
    rcases List.mem_cons.mp hp with rfl | hp
    · exact h r (by simp)
    · exact ih (fun q hq => h q (by simp [hq])) _ p hp
theorem rowAt_at {bs t : List Int} {a : Nat} {r : Row} (h : rowOk r = true) (hd : bs.drop a = enc r ++ t) : rowAt bs a = some (r, a + (enc r).length) := by
  unfold rowAt
  rw [hd, rowOf_enc h]
  rfl
theorem logR_placed : ∀ (rs : List Row) (bs t : List Int) (a n : Nat), (∀ r ∈ rs, rowOk r = true) → bs.drop a = encs rs ++ t → logR bs (n + rs.length) a = (placed rs a ++ (logR bs n (a + (encs rs).length)).1, (logR bs n (a + (encs rs).length)).2)
  | [], bs, t, a, n, _, _ => by simp [placed]
  | r :: rs, bs, t, a, n, h, hd => by
    rw [encs_cons, List.append_assoc] at hd
    have h1 := rowAt_at (h r (by simp)) hd
    have hd2 : bs.drop (a + (enc r).length) = encs rs ++ t := by rw [← List.drop_drop, hd, List.drop_left]
    have ih := logR_placed rs bs t (a + (enc r).length) n (fun q hq => h q (by simp [hq])) hd2
    rw [show n + (r :: rs).length = (n + rs.length) + 1 by simp; omega, logR_some h1, ih]
    simp [placed, encs_cons, Nat.add_assoc]
theorem logOf_placed {rs : List Row} {t : List Int} (h : ∀ r ∈ rs, rowOk r = true) : ∃ n, (encs rs ++ t).length + 1 = n + rs.length ∧ logOf (encs rs ++ t) = (placed rs 0 ++ (logR (encs rs ++ t) n (encs rs).length).1, (logR (encs rs ++ t) n (encs rs).length).2) := by
  have hg := encs_ge rs
  refine ⟨(encs rs ++ t).length + 1 - rs.length, by simp; omega, ?_⟩
  have := logR_placed rs (encs rs ++ t) t 0 ((encs rs ++ t).length + 1 - rs.length) h (by simp)
  rw [show (encs rs ++ t).length + 1 - rs.length + rs.length = (encs rs ++ t).length + 1 by simp; omega] at this
  unfold logOf
  rw [this]
  simp
theorem logOf_stop {rs : List Row} {t : List Int} (h : ∀ r ∈ rs, rowOk r = true) (ht : rowOf t = none) : logOf (encs rs ++ t) = (placed rs 0, (encs rs).length) := by
  obtain ⟨n, -, e⟩ := logOf_placed (t := t) h
  rw [e, logR_none (by unfold rowAt; rw [List.drop_left, ht]; rfl)]
  simp
/-- the rows that are whole in the first bytes -/
theorem logOf_cut {rs : List Row} (h : ∀ r ∈ rs, rowOk r = true) {k c : Nat} (hk : k ≤ rs.length) (h1 : (encs (rs.take k)).length ≤ c) (h2 : ∀ hk : k < rs.length, c < (encs (rs.take (k + 1))).length) (hc : c ≤ (encs rs).length) : logOf ((encs rs).take c) = (placed (rs.take k) 0, (encs (rs.take k)).length) := by
  have e : encs rs = encs (rs.take k) ++ encs (rs.drop k) := by rw [← encs_app, List.take_append_drop]
  have e2 : (encs rs).take c = encs (rs.take k) ++ (encs (rs.drop k)).take (c - (encs (rs.take k)).length) := by
    rw [e, List.take_append, List.take_of_length_le h1]
  rw [e2]
  refine logOf_stop (fun r hr => h r (List.mem_of_mem_take hr)) ?_
  by_cases hlt : k < rs.length
  · have h2' := h2 hlt
    rw [encs_take hlt, List.length_append] at h2'
    rw [List.drop_eq_getElem_cons hlt, encs_cons, List.take_append_of_le_length (by omega)]
    exact rowOf_short (h _ (List.getElem_mem _)) (by omega)
  · rw [List.drop_of_length_le (by omega)]
    simp
    rfl
end Lt

set_option Elab.async false
set_option linter.all false
set_option maxRecDepth 100000
/-! N8: rows are written, and learned. -/
namespace Lt
open PySem L2
def pdB (r : Row) : Bool := decide (r.k = "put") || decide (r.k = "drop")
def learnAll (t : List (Str × Loc)) : List Row → Nat → Nat → List (Str × Loc)
  | [], _, _ => t
  | r :: rs, f, a => learnAll (if pdB r = true then learnT t r f a else t) rs f (a + (enc r).length)
/-- the file that is written, behind room made -/
def roomC (d : Dk) (c many most : Nat) : Nat := if 0 < (d.getF (logN c)).bs.length ∧ most < (d.getF (logN c)).bs.length + many then c + 1 else c
def lastN (rs : List Row) (l : Int) : Int := (rs.getLast?.map (·.n)).getD l
def appZ (s : Sto) (d : Dk) (c : Nat) (rs : List Row) : (Sto × Dk) × Bool :=
  if (roomZ d c (encs rs).length s.most).2 = true then
    if ((roomZ d c (encs rs).length s.most).1.tWr (logN (roomC d c (encs rs).length s.most)) (encs rs)).2 = true then
      (({ s with last := lastN rs s.last, tab := learnAll s.tab rs (roomC d c (encs rs).length s.most) ((roomZ d c (encs rs).length s.most).1.getF (logN (roomC d c (encs rs).length s.most))).bs.length },
        ((roomZ d c (encs rs).length s.most).1.tWr (logN (roomC d c (encs rs).length s.most)) (encs rs)).1), true)
    else ((s, ((roomZ d c (encs rs).length s.most).1.tWr (logN (roomC d c (encs rs).length s.most)) (encs rs)).1), false)
  else ((s, (roomZ d c (encs rs).length s.most).1), false)
theorem learnAll_app : ∀ (a b : List Row) (t : List (Str × Loc)) (f at' : Nat), learnAll t (a ++ b) f at' = learnAll (learnAll t a f at') b f (at' + (encs a).length)
  | [], b, t, f, at' => by simp [learnAll]
  | r :: a, b, t, f, at' => by
    rw [List.cons_append, learnAll, learnAll, learnAll_app a b, encs_cons, List.length_append, Nat.add_assoc]
theorem putA_len {α : Type} {fs : List (Str × α)} {k : Str} {v : α} : (putA fs k v).length ≤ fs.length + 1 := by
  unfold putA; split <;> simp
theorem dropA_len {α : Type} {fs : List (Str × α)} {k : Str} : (dropA fs k).length ≤ fs.length := by
  unfold dropA; exact List.length_filter_le _ _
theorem learnAll_len : ∀ {rs : List Row} {t : List (Str × Loc)} {f a : Nat}, (learnAll t rs f a).length ≤ t.length + rs.length
  | [], _, _, _ => by simp [learnAll]
  | r :: rs, t, f, a => by
    rw [learnAll]
    have := learnAll_len (rs := rs) (t := if pdB r = true then learnT t r f a else t) (f := f) (a := a + (enc r).length)
    have h2 : (if pdB r = true then learnT t r f a else t).length ≤ t.length + 1 := by
      split
      · unfold learnT; split
        · exact putA_len
        · exact Nat.le_trans dropA_len (by omega)
      · omega
    simp only [List.length_cons]
    omega
def RowsAt (x : D) (rs : List Row) (p n : Nat) (m : Mem) : Prop := x = .lst (rs.map rowD) ∨ ∃ i, x = .ref i ∧ m[i]? = some (.lst (rs.map rowD)) ∧ i ∉ stk p n
section
variable {m m' : Mem} {p n : Nat} {s : Sto} {d d' : Dk} {L : List Nat} {B : Nat} {x : D} {rs : List Row}
theorem RowsAt.fr (h : RowsAt x rs p n m) (f : Fr (stk p n) m m') : RowsAt x rs p n m' := by
  rcases h with h | ⟨i, h1, h2, h3⟩
  · exact .inl h
  · exact .inr ⟨i, h1, f.at h2 h3, h3⟩
theorem RowsAt.rdL (h : RowsAt x rs p n m) : rdL x m = some (rs.map rowD) := by
  rcases h with rfl | ⟨i, rfl, h2, _⟩
  · rfl
  · simp [Lt.rdL, h2]
theorem RowsAt.len (h : RowsAt x rs p n m) (hl : rs.length ≤ 1000) {Q : D → Mem → Prop} {X : Ecl → Mem → Prop} (q : Q (.int (rs.length : Nat)) m) : wp (bLen [x] m) Q X := by
  rcases h with rfl | ⟨i, rfl, h2, _⟩
  · simp [show rs.length ≤ 16777216 by omega]; exact q
  · simp [h2, show rs.length ≤ 16777216 by omega]; exact q
theorem RowsAt.ix (h : RowsAt x rs p n m) {j : Nat} (hj : j < rs.length) {Q : D → Mem → Prop} {X : Ecl → Mem → Prop} (q : Q (rowD rs[j]) m) : wp (oIx x (.int (j : Nat)) m) Q X := by
  have e : atI (rs.map rowD) (j : Int) = some (rowD rs[j]) := by rw [atI_at (by simpa using hj)]; simp
  rcases h with rfl | ⟨i, rfl, h2, _⟩
  · simp [e]; exact q
  · rw [oIx_r h2]; exact ⟨_, e, q⟩
theorem RowsAt.last (h : RowsAt x rs p n m) {r : Row} {r0 : List Row} (hr : rs = r0 ++ [r]) {Q : D → Mem → Prop} {X : Ecl → Mem → Prop} (q : Q (rowD r) m) : wp (oIx x (.int (-1)) m) Q X := by
  have e : atI (rs.map rowD) (-1) = some (rowD r) := by rw [hr, List.map_append]; exact atI_last _ _
  rcases h with rfl | ⟨i, rfl, h2, _⟩
  · simp [e]; exact q
  · rw [oIx_r h2]; exact ⟨_, e, q⟩
theorem sync_keys {k : Str} {v : Fl} (hv : lkA d.fs k = some v) : keysA (d.sync k).fs = keysA d.fs := keys_put_in hv
theorem LogsAre.new {ks : List Str} {c : Nat} {L0 : List Nat} (F : LogsAre ks (L0 ++ [c])) (hc : c < 999999999) : LogsAre (ks ++ [logN (c + 1)]) (L0 ++ [c] ++ [c + 1]) := by
  have c1 := (F.mem c).mp (by simp)
  have lt := F.lt
  refine ⟨?_, fun n => ?_⟩
  · rw [List.pairwise_append]
    refine ⟨lt, by simp, fun a ha b hb => ?_⟩
    simp at hb
    subst hb
    rw [List.pairwise_append] at lt
    rcases List.mem_append.mp ha with h | h
    · have := lt.2.2 a h c (by simp)
      omega
    · simp at h; omega
  · rw [List.mem_append, F.mem]
    constructor
    · rintro (h | h)
      · exact ⟨h.1, h.2.1, List.mem_append_left _ h.2.2⟩
      · simp at h; subst h; exact ⟨by omega, by omega, List.mem_append_right _ (by simp)⟩
    · rintro ⟨h1, h2, h3⟩
      rcases List.mem_append.mp h3 with h3 | h3
      · exact .inl ⟨h1, h2, h3⟩
      · simp at h3; exact .inr (by simp; exact logN_inj h3)
theorem wr_nd {k : Str} {bs : List Int} (h : (keysA d.fs).Nodup) : (keysA (d.wr k bs).fs).Nodup := nd_put h
theorem tWr_nd {k : Str} {bs : List Int} (h : (keysA d.fs).Nodup) : (keysA (d.tWr k bs).1.fs).Nodup := by
  unfold Dk.tWr; split
  · exact h
  · exact wr_nd h
theorem roomZ_nd {c many most : Nat} (h : (keysA d.fs).Nodup) : (keysA (roomZ d c many most).1.fs).Nodup := by
  unfold roomZ
  split
  · unfold andZ Dk.tSync
    by_cases hr : d.room = some 0
    · simp [hr]; exact h
    · simp only [if_neg hr, if_true]
      exact tWr_nd (d := d.sync (logN c)) (nd_put h)
  · exact h
theorem roomZ_ok {c many most : Nat} {L0 : List Nat} (ok : Dok d B) (hl : d.fs.length < 63) (F : LogsAre (keysA d.fs) (L0 ++ [c])) (hc : c < 999999998) (h : (roomZ d c many most).2 = true) :
    Dok (roomZ d c many most).1 B ∧ ∃ L1, LogsAre (keysA (roomZ d c many most).1.fs) (L1 ++ [roomC d c many most]) := by
  unfold roomZ roomC at *
  split
  · rename_i hh
    rw [if_pos hh] at h
    obtain ⟨q1, q2, q3⟩ := (F.mem c).mp (by simp)
    obtain ⟨v, hv⟩ := Option.isSome_iff_exists.mp (mem_keys.mp q3)
    unfold andZ Dk.tSync at h ⊢
    by_cases hr : d.room = some 0
    · rw [if_pos hr] at h; simp at h
    · simp only [if_neg hr, if_true] at h ⊢
      unfold Dk.tWr at h ⊢
      by_cases hr2 : (d.sync (logN c)).room = some 0
      · rw [if_pos hr2] at h; simp at h
      · simp only [if_neg hr2] at h ⊢
        have o1 := ok.sync hv
        have k1 := sync_keys hv
        have hno : lkA (d.sync (logN c)).fs (logN (c + 1)) = none := by
          rw [lk_none, k1]
          intro h
          have h2 := (F.mem (c + 1)).mpr ⟨by omega, by omega, h⟩
          have lt := F.lt
          rw [List.pairwise_append] at lt
          rcases List.mem_append.mp h2 with h3 | h3
          · have := lt.2.2 (c + 1) h3 c (by simp); omega
          · simp at h3
        have gf : (d.sync (logN c)).getF (logN (c + 1)) = ⟨[], 0⟩ := by simp [Dk.getF, hno]
        have l1 : (d.sync (logN c)).fs.length < 63 := by
          have := congrArg List.length k1
          rw [keys_len, keys_len] at this
          omega
        refine ⟨?_, L0 ++ [c], ?_⟩
        · unfold Dk.wr
          rw [gf]
          exact o1.new l1 (logN_ok (by omega)) hno ⟨by simp [Bytes], by simp, by simp⟩
        · have : keysA ((d.sync (logN c)).wr (logN (c + 1)) []).fs = keysA d.fs ++ [logN (c + 1)] := by
            unfold Dk.wr
            simp only
            rw [keys_put_out hno, k1]
          rw [this]
          exact F.new (by omega)
  · exact ⟨ok, L0, F⟩
theorem sp_append (g : SD m p n s d) (ok : Dok d B) (hB : B ≤ 1000000) {L0 : List Nat} {c : Nat} (F : LogsAre (keysA d.fs) (L0 ++ [c])) (hc : c < 999999998) (hx : RowsAt x rs p n m) (h0 : rs ≠ []) (hr : ∀ r ∈ rs, rowOk r = true) (hl : rs.length ≤ 1000) (ht : s.tab.length ≤ 10000) (hlen : d.fs.length < 63)
    {Q : D → Mem → Prop} {X : Ecl → Mem → Prop}
    (fin : ∀ m', SD m' p n (appZ s d c rs).1.1 (appZ s d c rs).1.2 → Fr (stk p n) m m' → (appZ s d c rs).2 = true → Q .non m')
    (stop : ∀ m', SD m' p n (appZ s d c rs).1.1 (appZ s d c rs).1.2 → Fr (stk p n) m m' → (appZ s d c rs).2 = false → X .stop m') : wp (m_Store_append [.ref p, x] m) Q X := by
  have el := encs_len rs hr
  refine wp_runF rfl ?_
  unfold b_Store_append
  rw [ws_sSeq]
  simp only [evOf, List.replicate]
  simp
  rw [ws_sSeq]
  simp
  refine ws_cut (fun ev m' => ∃ o4, ev = [some (.ref p), some x, some (.lst ((encs rs).map .int)), some (.ref m.length), o4, none, none, none] ∧ m' = m ++ [.lst ((List.range rs.length).map fun j => D.int ((encs (rs.take j)).length : Nat))]) ?_ ?_
  · rw [ws_sFor]
    have loop : ∀ (hold : Mem → Prop) (P : Po), (∀ c, hold (m ++ [c])) → (∀ o, P.nx [some (.ref p), some x, some (.lst ((encs rs).map .int)), some (.ref m.length), o, none, none, none] (m ++ [.lst ((List.range rs.length).map fun j => D.int ((encs (rs.take j)).length : Nat))])) → ws (forGo hold (gName 4) (sSeq (sExpr (eML mAppend (eVar 3) (aCons (eB1 bLen (aCons (eVar 2) aNil)) aNil))) (sSet 2 (eBin (oAdd false) (eVar 2) (eCall m_written_row (aCons (eVar 4) aNil))))) (rs.map rowD) [some (.ref p), some x, some (.lst []), some (.ref m.length), none, none, none, none] (m ++ [.lst []])) P := by
      intro hold P hh hq
      refine ws_forGo (fun j ev m' => ∃ o, ev = [some (.ref p), some x, some (.lst ((encs (rs.take j)).map .int)), some (.ref m.length), o, none, none, none] ∧ m' = m ++ [.lst ((List.range j).map fun j => D.int ((encs (rs.take j)).length : Nat))]) ?_ ?_ ?_ ⟨none, by simp [encs], by simp⟩
      · rintro j ev m' hj ⟨o, rfl, rfl⟩
        exact hh _
      · rintro j ev m' hj ⟨o, rfl, rfl⟩
        rw [List.length_map] at hj
        refine ⟨_, rfl, ?_⟩
        have hok := hr rs[j] (List.getElem_mem _)
        have R := rowOk_of hok
        have b2 := fun m => (sp_written_row rs[j] (by have := R.kl; omega) (by have := R.vl; omega) m).trans (if_pos hok)
        have h1 := encs_len (rs.take j) fun r h => hr r (List.mem_of_mem_take h)
        have h2 := enc_len rs[j]
        have := R.kl
        have := R.vl
        rw [ws_sSeq]
        have lt : (rs.take j).length ≤ 1000 := by simp; omega
        simp [show (encs (rs.take j)).length ≤ 16777216 by omega, show j < 16777216 by omega, b2]
        refine ⟨by omega, ?_, ?_⟩
        · rw [encs_take hj, List.map_append]
        · rw [List.range_succ, List.map_append]; rfl
      · rintro ev m' ⟨o, rfl, rfl⟩
        rw [List.length_map, List.take_length]
        exact hq o
    rcases hx with rfl | ⟨i, rfl, h2, h3⟩
    · simp
      refine loop _ _ (fun _ => trivial) fun o => ?_
      exact ⟨⟨o, rfl⟩, rfl⟩
    · have h5 : ∀ c, (m ++ [c])[i]? = some (.lst (rs.map rowD)) := fun c => (Fr.app (ws := [])).at h2 (by simp)
      simp [h5]
      refine loop _ _ (fun c => h5 c) fun o => ?_
      exact ⟨⟨o, rfl⟩, rfl⟩
  rintro ev m1 ⟨o4, rfl, hm1⟩
  have F1 : Fr (stk p n) m m1 := by rw [hm1]; exact Fr.app
  have g1 := g.app [.lst ((List.range rs.length).map fun j => D.int ((encs (rs.take j)).length : Nat))]
  rw [← hm1] at g1
  have x1 := hx.fr F1
  have c1 : m1[m.length]? = some (.lst ((List.range rs.length).map fun j => D.int ((encs (rs.take j)).length : Nat))) := by rw [hm1]; simp
  have np : m.length ∉ stk p n := by
    have := lt_of g.st.t
    have := g.dk.at_.lt
    simp
    omega
  clear hm1 hx
  generalize m.length = i at *
  have rl : rs.length ≠ 0 := fun h => h0 (List.length_eq_zero_iff.mp h)
  have mk := sp_make_room g1 ok hB F (many := (encs rs).length) (by omega) (by omega)
  rw [ws_sSeq]
  simp [show (encs rs).length ≤ 16777216 by omega, g1.rs, mk]
  have hnd := roomZ_nd (c := c) (many := (encs rs).length) (most := s.most) g.dk.nd
  have gz : SD (putDk n (roomZ d c (encs rs).length s.most).1 m1) p n s (roomZ d c (encs rs).length s.most).1 := g1.disk hnd
  refine ⟨fun hz => ?_, fun hz => ?_⟩
  rotate_left
  · have az : appZ s d c rs = ((s, (roomZ d c (encs rs).length s.most).1), false) := by unfold appZ; rw [if_neg (by rw [hz]; simp)]
    rw [az] at stop
    exact stop _ gz (F1.trans Fr.disk) rfl
  obtain ⟨ok2, L1, F2⟩ := roomZ_ok ok hlen F hc hz
  have az : appZ s d c rs = if ((roomZ d c (encs rs).length s.most).1.tWr (logN (roomC d c (encs rs).length s.most)) (encs rs)).2 = true then
      (({ s with last := lastN rs s.last, tab := learnAll s.tab rs (roomC d c (encs rs).length s.most) ((roomZ d c (encs rs).length s.most).1.getF (logN (roomC d c (encs rs).length s.most))).bs.length },
        ((roomZ d c (encs rs).length s.most).1.tWr (logN (roomC d c (encs rs).length s.most)) (encs rs)).1), true)
    else ((s, ((roomZ d c (encs rs).length s.most).1.tWr (logN (roomC d c (encs rs).length s.most)) (encs rs)).1), false) := by unfold appZ; rw [if_pos hz]
  have cc : roomC d c (encs rs).length s.most ≤ c + 1 := by unfold roomC; split <;> omega
  rw [az] at fin stop
  clear az hz F
  have x2 := x1.fr (Fr.disk (d' := (roomZ d c (encs rs).length s.most).1))
  have c2 := (Fr.disk (d' := (roomZ d c (encs rs).length s.most).1) (m := m1) (n := n) (p := p)).at c1 np
  have F3 := F1.trans (Fr.disk (d' := (roomZ d c (encs rs).length s.most).1) (m := m1) (n := n) (p := p))
  clear mk x1 c1 g1 F1 hnd
  generalize roomC d c (encs rs).length s.most = cw at *
  generalize putDk n (roomZ d c (encs rs).length s.most).1 m1 = m2 at *
  generalize (roomZ d c (encs rs).length s.most).1 = d2 at *
  obtain ⟨q1, q2, q3⟩ := (F2.mem cw).mp (by simp)
  obtain ⟨v, hv⟩ := Option.isSome_iff_exists.mp (mem_keys.mp q3)
  obtain ⟨b1, b2, b3⟩ := ok2.by_ _ _ hv
  have gf : d2.getF (logN cw) = v := by simp [Dk.getF, hv]
  rw [gf] at fin stop
  have hcur := sp_current gz ok2 F2
  have hs := sp_size gz.dk (logN cw)
  rw [hv] at hs
  simp only at hs
  have tw := t_wr gz.dk ok2.len (logN_ok q2) (bs := encs rs) (by rw [gf]; omega)
  rw [ws_sSeq]
  simp [gz.rs, hcur]
  rw [ws_sSeq]
  simp [gz.rs, gz.rd, sp_log_name cw q2, hs]
  rw [ws_sSeq]
  simp [gz.rs, gz.rd, sp_log_name cw q2, tw]
  have g3 : SD (putDk n (d2.tWr (logN cw) (encs rs)).1 m2) p n s (d2.tWr (logN cw) (encs rs)).1 := gz.disk (tWr_nd gz.dk.nd)
  refine ⟨fun hz => ?_, fun hz => ?_⟩
  rotate_left
  · rw [if_neg (by rw [hz]; simp)] at stop
    exact stop _ g3 (F3.trans Fr.disk) rfl
  rw [if_pos hz] at fin
  have x3 := x2.fr (Fr.disk (d' := (d2.tWr (logN cw) (encs rs)).1))
  have c3 := (Fr.disk (d' := (d2.tWr (logN cw) (encs rs)).1) (m := m2) (n := n) (p := p)).at c2 np
  have F4 := F3.trans (Fr.disk (d' := (d2.tWr (logN cw) (encs rs)).1) (m := m2) (n := n) (p := p))
  clear stop x2 c2 gz F3 hz hcur hs tw ok2 F2
  generalize putDk n (d2.tWr (logN cw) (encs rs)).1 m2 = m3 at *
  generalize (d2.tWr (logN cw) (encs rs)).1 = d3 at *
  obtain ⟨r0, rl', er⟩ : ∃ r0 r, rs = r0 ++ [r] := ⟨_, _, (List.dropLast_concat_getLast h0).symm⟩
  have eln : lastN rs s.last = rl'.n := by unfold lastN; rw [er]; simp
  rw [ws_sSeq]
  simp
  refine x3.last er ?_
  simp [rowD, g3.rs]
  rw [← eln]
  have g5 : SD (m3.set p (.ins .store (sfs n p { s with last := lastN rs s.last }))) p n { s with last := lastN rs s.last } d3 := g3.fld rfl
  have x5 := x3.fr (Fr.fld (s := { s with last := lastN rs s.last }))
  have c5 := (Fr.fld (m := m3) (n := n) (p := p) (s := { s with last := lastN rs s.last })).at c3 np
  have F5 := F4.trans (Fr.fld (m := m3) (n := n) (p := p) (s := { s with last := lastN rs s.last }))
  generalize m3.set p (.ins .store (sfs n p { s with last := lastN rs s.last })) = m5 at *
  clear c3 x3 g3 F4
  rw [ws_sFor]
  simp
  refine x5.len hl ?_
  have lrn : ∀ {j : Nat}, j ≤ rs.length → learnAll s.tab rs cw v.bs.length = learnAll (learnAll s.tab (rs.take j) cw v.bs.length) (rs.drop j) cw (v.bs.length + (encs (rs.take j)).length) := by
    intro j hj
    rw [← learnAll_app, List.take_append_drop]
  simp
  refine ⟨smallI_lt (by omega) (by omega), ?_⟩
  refine ws_forGo (fun j ev m' => ∃ o7, ev = [some (.ref p), some x, some (.lst ((encs rs).map .int)), some (.ref i), o4, some (.int (cw : Nat)), some (.int (v.bs.length : Nat)), o7] ∧ SD m' p n { s with last := lastN rs s.last, tab := learnAll s.tab (rs.take j) cw v.bs.length } d3 ∧ Fr (stk p n) m5 m') (fun _ _ _ _ _ => trivial) ?_ ?_ ⟨none, rfl, by simpa [learnAll] using g5, .refl⟩
  · rintro j ev m' hj ⟨o7, rfl, g', f'⟩
    have hjl : j < rs.length := by simpa using hj
    refine ⟨[some (.ref p), some x, some (.lst ((encs rs).map .int)), some (.ref i), o4, some (.int (cw : Nat)), some (.int (v.bs.length : Nat)), some (.int (j : Nat))], by simp, ?_⟩
    have x6 := x5.fr f'
    have c6 := f'.at c5 np
    have lt : learnAll s.tab (rs.take (j + 1)) cw v.bs.length = if pdB rs[j] = true then learnT (learnAll s.tab (rs.take j) cw v.bs.length) rs[j] cw (v.bs.length + (encs (rs.take j)).length) else learnAll s.tab (rs.take j) cw v.bs.length := by
      rw [List.take_succ_eq_append_getElem hjl, learnAll_app]
      rfl
    have tl := learnAll_len (t := s.tab) (rs := rs.take j) (f := cw) (a := v.bs.length)
    rw [List.length_take] at tl
    have cj : atI ((List.range rs.length).map fun j => D.int ((encs (rs.take j)).length : Nat)) (j : Int) = some (.int ((encs (rs.take j)).length : Nat)) := by
      rw [atI_at (by simpa using hjl)]; simp
    rw [ws_sIf]
    rw [lt]
    simp
    refine x6.ix hjl ?_
    simp [rowD]
    by_cases hpd : rs[j].k = "put" ∨ rs[j].k = "drop"
    · have hb : pdB rs[j] = true := by simp [pdB, hpd]
      refine .inr ⟨hpd.imp Eq.symm Eq.symm, ?_⟩
      simp [g'.rs]
      refine x6.ix hjl ?_
      simp [oIx_r c6]
      refine ⟨_, cj, ?_⟩
      have lr := sp_learn g' (by simp; omega) rs[j] cw (v.bs.length + (encs (rs.take j)).length)
      simp only [Int.natCast_add] at lr
      simp [lr, hb]
      have nd' := learn_nd g'.st.nd rs[j] cw (v.bs.length + (encs (rs.take j)).length)
      exact ⟨g'.tab nd', f'.trans Fr.tab⟩
    · have hb : pdB rs[j] = false := by simp [pdB]; simpa using hpd
      refine .inl ⟨by simp at hpd; exact ⟨fun e => hpd.1 e.symm, fun e => hpd.2 e.symm⟩, ?_⟩
      simp [hb]
      exact ⟨g', f'⟩
  · rintro ev m' ⟨o7, rfl, g', f'⟩
    rw [rng0_len, List.take_length] at g'
    exact fin _ g' (F5.trans f') rfl
end
end Lt

set_option Elab.async false
set_option linter.all false
set_option maxRecDepth 100000
/-! N9: puts, drops, syncs of a store. -/
namespace Lt
open PySem L2
theorem putOk {n : Int} {k v : Str} (hk : txtOk k 1 40 = true) (hv : txtOk v 0 400 = true) (h1 : 1 ≤ n) (h2 : n ≤ 999999999) : rowOk ⟨"put", n, k, v⟩ = true := by
  have e1 : isKind "put" = true := by decide +kernel
  have e2 : isPD "put" = true := by decide +kernel
  simp [rowOk, e1, e2, hk, hv, h1, h2]
theorem dropOk {n : Int} {k : Str} (hk : txtOk k 1 40 = true) (h1 : 1 ≤ n) (h2 : n ≤ 999999999) : rowOk ⟨"drop", n, k, ""⟩ = true := by
  have e1 : isKind "drop" = true := by decide +kernel
  have e2 : isPD "drop" = true := by decide +kernel
  simp [rowOk, e1, e2, hk, h1, h2]
theorem beginOk {n : Int} (h1 : 1 ≤ n) (h2 : n ≤ 999999999) : rowOk ⟨"begin", n, "", ""⟩ = true := by
  have e1 : isKind "begin" = true := by decide +kernel
  have e2 : isPD "begin" = false := by decide +kernel
  simp [rowOk, e1, e2, h1, h2]
theorem endOk {n : Int} (h1 : 1 ≤ n) (h2 : n ≤ 999999999) : rowOk ⟨"end", n, "", ""⟩ = true := by
  have e1 : isKind "end" = true := by decide +kernel
  have e2 : isPD "end" = false := by decide +kernel
  simp [rowOk, e1, e2, h1, h2]
section
variable {m m' : Mem} {p n : Nat} {s : Sto} {d d' : Dk} {L : List Nat} {B : Nat} {rs : List Row}
theorem sp_put (g : SD m p n s d) (ok : Dok d B) (hB : B ≤ 1000000) {L0 : List Nat} {c : Nat} (F : LogsAre (keysA d.fs) (L0 ++ [c])) (hc : c < 999999998) {k v : Str} (hk : txtOk k 1 40 = true) (hkl : k.length ≤ 1000) (hv : txtOk v 0 400 = true) (hvl : v.length ≤ 1000) (h1 : 0 ≤ s.last) (h2 : s.last < 999999999) (ht : s.tab.length ≤ 10000) (hlen : d.fs.length < 63)
    {Q : D → Mem → Prop} {X : Ecl → Mem → Prop}
    (fin : ∀ m', SD m' p n (appZ s d c [⟨"put", s.last + 1, k, v⟩]).1.1 (appZ s d c [⟨"put", s.last + 1, k, v⟩]).1.2 → Fr (stk p n) m m' → (appZ s d c [⟨"put", s.last + 1, k, v⟩]).2 = true → Q (.int (appZ s d c [⟨"put", s.last + 1, k, v⟩]).1.1.last) m')
    (stop : ∀ m', SD m' p n (appZ s d c [⟨"put", s.last + 1, k, v⟩]).1.1 (appZ s d c [⟨"put", s.last + 1, k, v⟩]).1.2 → Fr (stk p n) m m' → (appZ s d c [⟨"put", s.last + 1, k, v⟩]).2 = false → X .stop m') : wp (m_Store_put [.ref p, .str k, .str v] m) Q X := by
  have lk := sp_look_key k (by omega) m
  have lv := sp_look_value v (by omega) m
  rw [if_pos hk] at lk
  rw [if_pos hv] at lv
  refine wp_runF rfl ?_
  unfold b_Store_put
  rw [ws_sSeq]
  simp only [evOf, List.replicate]
  simp [lk]
  rw [ws_sSeq]
  simp [lv]
  rw [ws_sSeq]
  simp [g.rs]
  refine sp_append (rs := [⟨"put", s.last + 1, k, v⟩]) g ok hB F hc (.inl rfl) (by simp) (fun r hr => ?_) (by simp) ht hlen (fun m' g' f' z => ?_) (fun m' g' f' z => ?_)
  · simp at hr; rw [hr]; exact putOk hk hv (by omega) (by omega)
  · simp [g'.rs]
    exact fin m' g' f' z
  · exact stop m' g' f' z
theorem sp_drop (g : SD m p n s d) (ok : Dok d B) (hB : B ≤ 1000000) {L0 : List Nat} {c : Nat} (F : LogsAre (keysA d.fs) (L0 ++ [c])) (hc : c < 999999998) {k : Str} (hk : txtOk k 1 40 = true) (hkl : k.length ≤ 1000) (h1 : 0 ≤ s.last) (h2 : s.last < 999999999) (ht : s.tab.length ≤ 10000) (hlen : d.fs.length < 63)
    {Q : D → Mem → Prop} {X : Ecl → Mem → Prop}
    (non : lkA s.tab k = none → Q .non m)
    (fin : ∀ m', (lkA s.tab k).isSome = true → SD m' p n (appZ s d c [⟨"drop", s.last + 1, k, ""⟩]).1.1 (appZ s d c [⟨"drop", s.last + 1, k, ""⟩]).1.2 → Fr (stk p n) m m' → (appZ s d c [⟨"drop", s.last + 1, k, ""⟩]).2 = true → Q (.int (appZ s d c [⟨"drop", s.last + 1, k, ""⟩]).1.1.last) m')
    (stop : ∀ m', (lkA s.tab k).isSome = true → SD m' p n (appZ s d c [⟨"drop", s.last + 1, k, ""⟩]).1.1 (appZ s d c [⟨"drop", s.last + 1, k, ""⟩]).1.2 → Fr (stk p n) m m' → (appZ s d c [⟨"drop", s.last + 1, k, ""⟩]).2 = false → X .stop m') : wp (m_Store_drop [.ref p, .str k] m) Q X := by
  have lk := sp_look_key k (by omega) m
  rw [if_pos hk] at lk
  have inh := inD_dic (k := k) g.st.t
  rw [valD_KD] at inh
  refine wp_runF rfl ?_
  unfold b_Store_drop
  rw [ws_sSeq]
  simp only [evOf, List.replicate]
  simp [lk]
  rw [ws_sSeq, ws_sIf]
  cases hv : lkA s.tab k with
  | none =>
    rw [hv] at inh
    simp [g.rs, inh]
    exact non hv
  | some l =>
    rw [hv] at inh
    simp [g.rs, inh]
    rw [ws_sSeq]
    simp [g.rs]
    refine sp_append (rs := [⟨"drop", s.last + 1, k, ""⟩]) g ok hB F hc (.inl rfl) (by simp) (fun r hr => ?_) (by simp) ht hlen (fun m' g' f' z => ?_) (fun m' g' f' z => ?_)
    · simp at hr; rw [hr]; exact dropOk hk (by omega) (by omega)
    · simp [g'.rs]
      exact fin m' (by rw [hv]; rfl) g' f' z
    · exact stop m' (by rw [hv]; rfl) g' f' z
/-! deals -/
/-- a deed of a deal: a key, and the value it gets, if it is put -/
abbrev Deed := Str × Option Str
def deedD (x : Deed) : D := match x.2 with
  | some v => .tup [.str "put", .str x.1, .str v]
  | none => .tup [.str "drop", .str x.1]
def deedR (x : Deed) (n : Int) : Row := match x.2 with
  | some v => ⟨"put", n, x.1, v⟩
  | none => ⟨"drop", n, x.1, ""⟩
def midR : Int → List Deed → List Row
  | _, [] => []
  | l, x :: r => deedR x (l + 1) :: midR (l + 1) r
def dealR (l : Int) (xs : List Deed) : List Row := ⟨"begin", l + 1, "", ""⟩ :: (midR (l + 1) xs ++ [⟨"end", l + 2 + xs.length, "", ""⟩])
def deedOk (x : Deed) : Prop := txtOk x.1 1 40 = true ∧ x.1.length ≤ 1000 ∧ ∀ v, x.2 = some v → txtOk v 0 400 = true ∧ v.length ≤ 1000
theorem midR_app : ∀ (xs ys : List Deed) (l : Int), midR l (xs ++ ys) = midR l xs ++ midR (l + xs.length) ys
  | [], _, _ => by simp [midR]
  | x :: xs, ys, l => by
    rw [List.cons_append, midR, midR, midR_app xs ys, List.cons_append, List.length_cons]
    congr 3
    omega
theorem midR_len : ∀ (xs : List Deed) (l : Int), (midR l xs).length = xs.length
  | [], _ => rfl
  | x :: xs, l => by simp [midR, midR_len xs]
theorem midR_ok : ∀ {xs : List Deed} {l : Int}, (∀ x ∈ xs, deedOk x) → 0 ≤ l → l + xs.length ≤ 999999999 → ∀ r ∈ midR l xs, rowOk r = true
  | [], _, _, _, _, _, h => by cases h
  | x :: xs, l, hx, h0, h1, r, hr => by
    rw [midR] at hr
    simp only [List.length_cons, Int.natCast_add] at h1
    rcases List.mem_cons.mp hr with rfl | hr
    · obtain ⟨a, b, c⟩ := hx x (by simp)
      unfold deedR
      cases h : x.2 with
      | none => exact dropOk a (by omega) (by omega)
      | some v => exact putOk a (c v h).1 (by omega) (by omega)
    · exact midR_ok (fun y hy => hx y (by simp [hy])) (by omega) (by omega) r hr
theorem dealR_ok {xs : List Deed} {l : Int} (hx : ∀ x ∈ xs, deedOk x) (h0 : 0 ≤ l) (h1 : l + 2 + xs.length ≤ 999999999) : ∀ r ∈ dealR l xs, rowOk r = true := by
  intro r hr
  unfold dealR at hr
  rcases List.mem_cons.mp hr with rfl | hr
  · exact beginOk (by omega) (by omega)
  · rcases List.mem_append.mp hr with hr | hr
    · exact midR_ok hx (by omega) (by omega) r hr
    · simp at hr; rw [hr]; exact endOk (by omega) (by omega)
end
end Lt

set_option Elab.async false
set_option linter.all false
set_option maxRecDepth 100000
/-! N10: deals of a store. -/
namespace Lt
open PySem L2
section
variable {m m' : Mem} {p n : Nat} {s : Sto} {d d' : Dk} {L : List Nat} {B : Nat} {rs : List Row}
def numsR (l : Int) (k : Nat) : List Int := (List.range k).map fun (j : Nat) => l + 1 + j
def DL (m : Mem) (p n : Nat) (s : Sto) (d : Dk) (xs : List Deed) (j : Nat) (ev : Ev) (m' : Mem) : Prop := ∃ o3, ev = [some (.ref p), some (.lst (xs.map deedD)), some (.ref m.length), o3, none] ∧
  SD m' p n s d ∧ m'[m.length]? = some (.lst ((⟨"begin", s.last + 1, "", ""⟩ :: midR (s.last + 1) (xs.take j)).map rowD)) ∧ Fr (stk p n) m m'
theorem last_mid (r : Row) (xs : List Deed) (l : Int) (h : r.n = l) : ∃ r0 r', r :: midR l xs = r0 ++ [r'] ∧ r'.n = l + xs.length := by
  rcases List.eq_nil_or_concat xs with rfl | ⟨ys, y, rfl⟩
  · exact ⟨[], r, rfl, by simp [h]⟩
  · refine ⟨r :: midR l ys, deedR y (l + ys.length + 1), ?_, ?_⟩
    · rw [List.concat_eq_append, midR_app]; rfl
    · unfold deedR; cases y.2 <;> simp <;> omega
def DD : List (Key × D) := [(Sum.inr "put", .int 3), (Sum.inr "drop", .int 2)]
theorem deal_step {m m' : Mem} {p n i : Nat} {s : Sto} {d : Dk} {R : List Row} (g : SD m' p n s d) (c : m'[i]? = some (.lst (R.map rowD))) (f : Fr (stk p n) m m') (hi : m.length ≤ i) (r : Row) :
    SD ((m' ++ [Cell.dic false DD]).set i (.lst ((R ++ [r]).map rowD))) p n s d ∧ ((m' ++ [Cell.dic false DD]).set i (.lst ((R ++ [r]).map rowD)))[i]? = some (.lst ((R ++ [r]).map rowD)) ∧ Fr (stk p n) m ((m' ++ [Cell.dic false DD]).set i (.lst ((R ++ [r]).map rowD))) := by
  have li := lt_of c
  refine ⟨?_, List.getElem?_set_self (by simp; omega), (f.appR).setN (.inl hi)⟩
  have g2 := g.app [Cell.dic false DD]
  refine g2.fr (ws := [i]) (Fr.set (by simp)) ?_
  intro j hj h
  simp at h
  subst h
  have h1 := g.st.i
  have h2 := g.st.t
  have h3 := g.dk.at_
  simp at hj
  rcases hj with rfl | rfl | rfl | rfl | rfl
  · rw [h3.i] at c; cases c
  · rw [h3.h] at c; cases c
  · rw [h3.s] at c; cases c
  · rw [h1] at c; cases c
  · rw [h2] at c; cases c
theorem cutD_mid (xs : List D) (a b : D) : cutD (a :: (xs ++ [b])) (some 1) (some (-1)) = xs := by
  unfold cutD
  simp [HT.sIx]
  rw [show ((-1 + ((xs.length : Int) + 1 + 1)).toNat - 1) = xs.length by omega, List.take_left]
theorem midR_n : ∀ (xs : List Deed) (l : Int), (midR l xs).map (fun r => D.int r.n) = (numsR l xs.length).map .int
  | [], _ => rfl
  | x :: xs, l => by
    have e : (deedR x (l + 1)).n = l + 1 := by unfold deedR; cases x.2 <;> rfl
    have f : numsR l (xs.length + 1) = (l + 1) :: numsR (l + 1) xs.length := by
      unfold numsR
      rw [List.range_succ_eq_map, List.map_cons, List.map_map]
      congr 1
      · simp
      · refine List.map_congr_left fun j _ => ?_
        simp [Function.comp]
        omega
    rw [midR, List.map_cons, List.length_cons, f, List.map_cons, midR_n xs, e]
end
end Lt

set_option Elab.async false
set_option linter.all false
set_option maxRecDepth 100000
/-! N11: what a store tells: a row read, a value, a place, all keys. -/
namespace Lt
open PySem L2
section
variable {m m' : Mem} {p n : Nat} {s : Sto} {d d' : Dk} {L : List Nat} {B : Nat}
/-- the row at a place of a file's bytes -/
def rowIn (bs : List Int) (at' : Nat) : Option Row := (rowAt bs at').map (·.1)
theorem sp_read_row (a : DiskAt m n d) (ok : Dok d B) (hB : B ≤ 1000000) {f : Nat} (hf : f ≤ 999999999) {v : Fl} (hv : lkA d.fs (logN f) = some v) {at' : Nat} {r : Row} {e : Nat} (hr : rowAt v.bs at' = some (r, e)) : m_read_row [.ref n, .int (f : Nat), .int (at' : Nat)] m = .ok (rowD r) m := by
  obtain ⟨b1, b2, b3⟩ := ok.by_ _ _ hv
  obtain ⟨rok, he, t, hd⟩ := (rowAt_iff b1).mp hr
  have R := rowOk_of rok
  have rd : rdI .disk (.ref n) m = some (dfs n d.room) := rdI_at a.at_.i
  have pc := fun x y => sp_piece a (logN f) x y (fun w hw => by rw [hv] at hw; cases hw; omega)
  simp only [hv] at pc
  have el := enc_len r
  have hlen : (enc r).length + t.length = v.bs.length - at' := by
    have := congrArg List.length hd
    simp at this
    omega
  -- the head, and the whole row
  have c1 : cutD (v.bs.map D.int) (some (at' : Int)) (some ((at' : Int) + 12)) = ((enc r).take 12).map .int := by
    have := cut_ints v.bs at' (at' + 12)
    simp only [Int.natCast_add] at this
    rw [show ((12 : Nat) : Int) = 12 from rfl] at this
    rw [this, hd, show at' + 12 - at' = 12 by omega, List.take_append_of_le_length (by omega)]
  have c2 : cutD (v.bs.map D.int) (some (at' : Int)) (some ((at' : Int) + ((enc r).length : Nat))) = (enc r).map .int := by
    have := cut_ints v.bs at' (at' + (enc r).length)
    simp only [Int.natCast_add] at this
    rw [this, hd, show at' + (enc r).length - at' = (enc r).length by omega, List.take_left]
  have hd9 : ∃ a0 a1 a2 a3 a4 a5 a6 a7 a8, (enc r).take 12 = [a0, a1, a2, a3, a4, a5, a6, a7, a8, (r.key.length : Int), (r.val.length : Int) / 256, (r.val.length : Int) % 256] := by
    have hv : (r.val.length : Int) / 256 % 256 = (r.val.length : Int) / 256 := by have := R.vl; omega
    simp [enc, sums, body, numB, numL, hv]
  have ra := sp_row_at' (.lst ((enc r).map .int)) (enc r) 0 m (.inl rfl) (enc_bytes R) (by omega)
  have re := rowAt_enc (a := []) (b := []) rok
  simp at re ra
  rw [re] at ra
  obtain ⟨a0, a1, a2, a3, a4, a5, a6, a7, a8, h12⟩ := hd9
  rw [h12] at c1
  refine runP_ok rfl (by simp) ?_
  unfold b_read_row
  rw [ws_sSeq]
  simp only [evOf, List.replicate]
  simp [sp_log_name f hf]
  rw [ws_sSeq]
  simp [rd, pc, c1]
  have i9 : atI [D.int a0, .int a1, .int a2, .int a3, .int a4, .int a5, .int a6, .int a7, .int a8, .int (r.key.length : Nat), .int ((r.val.length : Int) / 256), .int ((r.val.length : Int) % 256)] 9 = some (.int (r.key.length : Nat)) := atI_nat (j := 9) rfl
  have i10 : atI [D.int a0, .int a1, .int a2, .int a3, .int a4, .int a5, .int a6, .int a7, .int a8, .int (r.key.length : Nat), .int ((r.val.length : Int) / 256), .int ((r.val.length : Int) % 256)] 10 = some (.int ((r.val.length : Int) / 256)) := atI_nat (j := 10) rfl
  have i11 : atI [D.int a0, .int a1, .int a2, .int a3, .int a4, .int a5, .int a6, .int a7, .int a8, .int (r.key.length : Nat), .int ((r.val.length : Int) / 256), .int ((r.val.length : Int) % 256)] 11 = some (.int ((r.val.length : Int) % 256)) := atI_nat (j := 11) rfl
  rw [ws_sSeq]
  simp [i9, i10, i11]
  have en : (12 : Int) + r.key.length + 256 * ((r.val.length : Int) / 256) + (r.val.length : Int) % 256 = ((enc r).length : Nat) := by omega
  rw [en]
  rw [ws_sSeq]
  simp [rd, pc, c2, ra, sp_log_name f hf]
  rw [ws_sSeq, ws_sIf]
  simp [atD]
/-- what a store has: each key's place is a place of its row -/
def PlaceOk (s : Sto) (d : Dk) (k : Str) (r : Row) : Prop := ∃ f a v e, lkA s.tab k = some (r.n, f, a) ∧ f ≤ 999999999 ∧ lkA d.fs (logN f) = some v ∧ rowAt v.bs a = some (r, e)
theorem sp_get_none (g : SD m p n s d) {k : Str} (hk : txtOk k 1 40 = true) (hkl : k.length ≤ 1000) (hn : lkA s.tab k = none) : m_Store_get [.ref p, .str k] m = .ok .non m := by
  have lk := sp_look_key k (by omega) m
  rw [if_pos hk] at lk
  have inh := inD_dic (k := k) g.st.t
  rw [valD_KD, hn] at inh
  have ro : m_Store_row_of [.ref p, .str k] m = .ok .non m := by
    refine runP_ok rfl rfl ?_
    unfold b_Store_row_of
    rw [ws_sSeq]
    simp only [evOf, List.replicate]
    simp [lk]
    rw [ws_sSeq, ws_sIf]
    simp [g.rs, inh]
  refine runP_ok rfl rfl ?_
  unfold b_Store_get
  rw [ws_sSeq]
  simp [evOf, g.rs, ro]
theorem sp_get (g : SD m p n s d) (ok : Dok d B) (hB : B ≤ 1000000) {k : Str} (hk : txtOk k 1 40 = true) (hkl : k.length ≤ 1000) {r : Row} (hr : PlaceOk s d k r) : m_Store_get [.ref p, .str k] m = .ok (.str r.val) m := by
  obtain ⟨f, a, v, e, h1, h2, h3, h4⟩ := hr
  have lk := sp_look_key k (by omega) m
  rw [if_pos hk] at lk
  have inh := inD_dic (k := k) g.st.t
  rw [valD_KD, h1] at inh
  have ix := fun Q X => oIx_dic (k := k) (Q := Q) (X := X) g.st.t
  simp only [valD_KD, h1, Option.map_some] at ix
  have rr := sp_read_row g.dk ok hB h2 h3 h4
  have ro : m_Store_row_of [.ref p, .str k] m = .ok (rowD r) m := by
    refine runP_ok rfl (by simp) ?_
    unfold b_Store_row_of
    rw [ws_sSeq]
    simp only [evOf, List.replicate]
    simp [lk]
    rw [ws_sSeq, ws_sIf]
    simp [g.rs, inh]
    rw [ws_sSeq]
    simp [g.rs, ix, locD, rr]
  refine runP_ok rfl rfl ?_
  unfold b_Store_get
  rw [ws_sSeq]
  simp [evOf, g.rs, ro, rowD]
theorem sp_all_keys (g : SD m p n s d) (ht : s.tab.length < 64) : m_Store_all_keys [.ref p] m = .ok (strsD (sortS (keysA s.tab))) m := by
  have rk := rdK_at g.st.t
  have sl := sort_len (keysA s.tab)
  rw [keys_len] at sl
  refine runP_ok rfl (by simp) ?_
  unfold b_Store_all_keys
  simp [evOf, g.rs, rk, keyS_KD, keys_len, ht, strsD]
  omega
end
end Lt

set_option Elab.async false
set_option linter.all false
set_option maxRecDepth 100000
/-! T7: deals that count, in plain Lean. -/
namespace Lt
open PySem L2
/-- what parted holds between two rows: found, held, start, last -/
structure PS where
  found : List (Row × Nat)
  held : List (Row × Nat)
  start : Option Nat
  last : Int
def pstep (s : PS) (p : Row × Nat) : PS :=
  let st := if s.start ≠ none ∧ p.1.n ≠ s.last + 1 then none else s.start
  if p.1.k = "begin" then ⟨s.found, [], some p.2, p.1.n⟩
  else if p.1.k = "end" then ⟨s.found ++ (if st = none then [] else s.held), s.held, none, p.1.n⟩
  else if p.1.k = "thin" then ⟨s.found, s.held, none, p.1.n⟩
  else if st = none then ⟨s.found ++ [p], s.held, none, p.1.n⟩
  else ⟨s.found, s.held ++ [p], st, p.1.n⟩
def pF (s : PS) (ps : List (Row × Nat)) : List (Row × Nat) := (ps.foldl pstep s).found
theorem pF_cons (s : PS) (p : Row × Nat) (ps) : pF s (p :: ps) = pF (pstep s p) ps := rfl
theorem pF_none : ∀ (ps : List (Row × Nat)) (f h h' : List (Row × Nat)) (l l' : Int), pF ⟨f, h, none, l⟩ ps = pF ⟨f, h', none, l'⟩ ps
  | [], _, _, _, _, _ => rfl
  | p :: ps, f, h, h', l, l' => by
    rw [pF_cons, pF_cons]
    unfold pstep
    simp only [ne_eq, not_true_eq_false, false_and, if_false, if_true]
    by_cases h1 : p.1.k = "begin"
    · simp only [h1, if_true]
    · by_cases h2 : p.1.k = "end"
      · simp only [h1, h2, if_true, if_false]; simp; exact pF_none ps _ _ _ _ _
      · by_cases h3 : p.1.k = "thin"
        · simp only [h1, h2, h3, if_true, if_false]; simp; exact pF_none ps _ _ _ _ _
        · simp only [h1, h2, h3, if_true, if_false]; exact pF_none ps _ _ _ _ _
theorem pd_not {k : Str} (h : k = "put" ∨ k = "drop") : ¬ k = "begin" ∧ ¬ k = "end" ∧ ¬ k = "thin" := by
  rcases h with rfl | rfl <;> simp
/-- outside of a deal: a put or drop counts -/
theorem pF_pd {f h : List (Row × Nat)} {l : Int} {p : Row × Nat} {ps} (hk : p.1.k = "put" ∨ p.1.k = "drop") : pF ⟨f, h, none, l⟩ (p :: ps) = pF ⟨f ++ [p], h, none, l⟩ ps := by
  obtain ⟨h1, h2, h3⟩ := pd_not hk
  rw [pF_cons]; unfold pstep; simp [h1, h2, h3]
  exact pF_none _ _ _ _ _ _
theorem pF_begin {f h : List (Row × Nat)} {l : Int} {p : Row × Nat} {ps} (hk : p.1.k = "begin") : pF ⟨f, h, none, l⟩ (p :: ps) = pF ⟨f, [], some p.2, p.1.n⟩ ps := by
  rw [pF_cons]; unfold pstep; simp [hk]
theorem pF_else {f h : List (Row × Nat)} {l : Int} {p : Row × Nat} {ps} (hk : p.1.k = "end" ∨ p.1.k = "thin") : pF ⟨f, h, none, l⟩ (p :: ps) = pF ⟨f, h, none, l⟩ ps := by
  rw [pF_cons]; unfold pstep
  rcases hk with hk | hk <;> simp [hk]
  all_goals exact pF_none _ _ _ _ _ _
/-- within a deal -/
theorem pF_in {f h : List (Row × Nat)} {s : Nat} {l : Int} {p : Row × Nat} {ps} (hk : p.1.k = "put" ∨ p.1.k = "drop") (hn : p.1.n = l + 1) : pF ⟨f, h, some s, l⟩ (p :: ps) = pF ⟨f, h ++ [p], some s, l + 1⟩ ps := by
  obtain ⟨h1, h2, h3⟩ := pd_not hk
  rw [pF_cons]; unfold pstep; simp [h1, h2, h3, hn]
theorem pF_end {f h : List (Row × Nat)} {s : Nat} {l : Int} {p : Row × Nat} {ps} (hk : p.1.k = "end") (hn : p.1.n = l + 1) : pF ⟨f, h, some s, l⟩ (p :: ps) = pF ⟨f ++ h, h, none, l⟩ (p :: ps) := by
  rw [pF_cons, pF_else (.inl hk)]; unfold pstep; simp [hk, hn]
  exact pF_none _ _ _ _ _ _
theorem pF_out {f h : List (Row × Nat)} {s : Nat} {l : Int} {p : Row × Nat} {ps} (ho : p.1.n ≠ l + 1 ∨ p.1.k = "begin" ∨ p.1.k = "thin") : pF ⟨f, h, some s, l⟩ (p :: ps) = pF ⟨f, h, none, l⟩ (p :: ps) := by
  rw [pF_cons, pF_cons]
  rcases ho with ho | ho | ho
  · unfold pstep; simp [ho]
  · unfold pstep; simp [ho]
  · unfold pstep; simp [ho]
def settledOf (ps : List (Row × Nat)) : List (Row × Nat) := pF ⟨[], [], none, 0⟩ ps
theorem pF_ok : ∀ (ps : List (Row × Nat)) (s : PS), (∀ p ∈ ps, rowOk p.1 = true) → (∀ p ∈ s.found, rowOk p.1 = true) → (∀ p ∈ s.held, rowOk p.1 = true) → ∀ p ∈ pF s ps, rowOk p.1 = true
  | [], s, _, h2, _ => h2
  | q :: ps, s, h1, h2, h3 => by
    rw [pF_cons]
    have hq := h1 q (by simp)
    have ha : ∀ l : List (Row × Nat), (∀ p ∈ l, rowOk p.1 = true) → ∀ p ∈ l ++ [q], rowOk p.1 = true := fun l hl p hp => by
      rcases List.mem_append.mp hp with hp | hp
      · exact hl p hp
      · simp at hp; rw [hp]; exact hq
    refine pF_ok ps (pstep s q) (fun p hp => h1 p (by simp [hp])) ?_ ?_
    · unfold pstep
      simp only []
      generalize (if s.start ≠ none ∧ q.1.n ≠ s.last + 1 then none else s.start) = st
      by_cases k1 : q.1.k = "begin"
      · rw [if_pos k1]; exact h2
      · by_cases k2 : q.1.k = "end"
        · rw [if_neg k1, if_pos k2]
          intro p hp
          rcases List.mem_append.mp hp with hp | hp
          · exact h2 p hp
          · split at hp
            · cases hp
            · exact h3 p hp
        · by_cases k3 : q.1.k = "thin"
          · rw [if_neg k1, if_neg k2, if_pos k3]; exact h2
          · rw [if_neg k1, if_neg k2, if_neg k3]
            split
            · exact ha _ h2
            · exact h2
    · unfold pstep
      simp only []
      generalize (if s.start ≠ none ∧ q.1.n ≠ s.last + 1 then none else s.start) = st
      by_cases k1 : q.1.k = "begin"
      · rw [if_pos k1]; intro p hp; cases hp
      · by_cases k2 : q.1.k = "end"
        · rw [if_neg k1, if_pos k2]; exact h3
        · by_cases k3 : q.1.k = "thin"
          · rw [if_neg k1, if_neg k2, if_pos k3]; exact h3
          · rw [if_neg k1, if_neg k2, if_neg k3]
            split
            · exact h3
            · exact ha _ h3
end Lt

set_option Elab.async false
set_option linter.all false
set_option maxRecDepth 100000
/-! S11: deals that count: the program's parted. -/
namespace Lt
open PySem L2
def Ext (m m' : Mem) : Prop := m'.take m.length = m ∧ m.length ≤ m'.length
theorem Ext.refl (m : Mem) : Ext m m := ⟨by simp, Nat.le_refl _⟩
theorem Ext.app {m m' : Mem} (h : Ext m m') (l : Mem) : Ext m (m' ++ l) := ⟨by rw [List.take_append_of_le_length h.2]; exact h.1, by simp; have := h.2; omega⟩
theorem Ext.set {m m' : Mem} (h : Ext m m') {i : Nat} (hi : m.length ≤ i) (c : Cell) : Ext m (m'.set i c) := ⟨by rw [List.take_set_of_le hi]; exact h.1, by simp; exact h.2⟩
theorem Ext.get {m m' : Mem} (h : Ext m m') {i : Nat} {c : Cell} (hc : m[i]? = some c) : m'[i]? = some c := by
  have hi : i < m.length := (List.getElem?_eq_some_iff.mp hc).1
  rw [← h.1, List.getElem?_take_of_lt hi] at hc
  exact hc
def PsAt (x : D) (ps : List (Row × Nat)) (m : Mem) : Prop := x = .lst (ps.map rpD) ∨ ∃ i, x = .ref i ∧ m[i]? = some (.lst (ps.map rpD))
def startD : Option Nat → D
  | none => .non
  | some a => .int (a : Int)
def PI (x : D) (ps : List (Row × Nat)) (m : Mem) (j : Nat) (ev : Ev) (m' : Mem) : Prop :=
  ∃ (s : PS) (fi hi : Nat) (o5 o6 : Option D), s = (ps.take j).foldl pstep ⟨[], [], none, 0⟩ ∧ ev = [some x, some (.ref fi), some (.ref hi), some (startD s.start), some (.int s.last), o5, o6] ∧
    m'[fi]? = some (.lst (s.found.map rpD)) ∧ m'[hi]? = some (.lst (s.held.map rpD)) ∧ m.length ≤ fi ∧ m.length ≤ hi ∧ fi ≠ hi ∧ Ext m m'
theorem PI_mk {x : D} {ps : List (Row × Nat)} {m m' : Mem} {j fi hi : Nat} {sd : D} {l : Int} {o5 o6 : Option D} (s : PS) (hs : (ps.take j).foldl pstep ⟨[], [], none, 0⟩ = s) (hsd : sd = startD s.start) (hl : l = s.last)
    (hf : m'[fi]? = some (.lst (s.found.map rpD))) (hh : m'[hi]? = some (.lst (s.held.map rpD))) (f1 : m.length ≤ fi) (f2 : m.length ≤ hi) (f3 : fi ≠ hi) (hE : Ext m m') : PI x ps m j [some x, some (.ref fi), some (.ref hi), some sd, some (.int l), o5, o6] m' :=
  ⟨s, fi, hi, o5, o6, hs.symm, by rw [hsd, hl], hf, hh, f1, f2, f3, hE⟩
theorem pstep_len (s : PS) (p : Row × Nat) (j : Nat) (h1 : s.found.length + (if s.start = none then 0 else s.held.length) ≤ j) (h2 : s.held.length ≤ j) : (pstep s p).found.length + (if (pstep s p).start = none then 0 else (pstep s p).held.length) ≤ j + 1 ∧ (pstep s p).held.length ≤ j + 1 := by
  unfold pstep
  by_cases hs : s.start = none
  · rw [if_pos hs] at h1
    by_cases k1 : p.1.k = "begin"
    · simp [k1]; omega
    · by_cases k2 : p.1.k = "end"
      · simp [k2, hs]; omega
      · by_cases k3 : p.1.k = "thin"
        · simp [k3]; omega
        · simp [k1, k2, k3, hs]; omega
  · rw [if_neg hs] at h1
    by_cases hn : p.1.n = s.last + 1
    · by_cases k1 : p.1.k = "begin"
      · simp [k1]; omega
      · by_cases k2 : p.1.k = "end"
        · simp [k2, hs, hn]; omega
        · by_cases k3 : p.1.k = "thin"
          · simp [k3]; omega
          · simp [k1, k2, k3, hs, hn]; omega
    · by_cases k1 : p.1.k = "begin"
      · simp [k1]; omega
      · by_cases k2 : p.1.k = "end"
        · simp [k2, hs, hn]; omega
        · by_cases k3 : p.1.k = "thin"
          · simp [k3]; omega
          · simp [k1, k2, k3, hs, hn]; omega
theorem pfold_len (ps : List (Row × Nat)) (j : Nat) : ((ps.take j).foldl pstep ⟨[], [], none, 0⟩).found.length ≤ j ∧ ((ps.take j).foldl pstep ⟨[], [], none, 0⟩).held.length ≤ j := by
  have key : ∀ (qs : List (Row × Nat)) (s : PS) (j : Nat), s.found.length + (if s.start = none then 0 else s.held.length) ≤ j → s.held.length ≤ j → (qs.foldl pstep s).found.length + (if (qs.foldl pstep s).start = none then 0 else (qs.foldl pstep s).held.length) ≤ j + qs.length ∧ (qs.foldl pstep s).held.length ≤ j + qs.length := by
    intro qs
    induction qs with
    | nil => intro s j h1 h2; exact ⟨h1, h2⟩
    | cons q qs ih =>
      intro s j h1 h2
      have := pstep_len s q j h1 h2
      have := ih (pstep s q) (j + 1) this.1 this.2
      simp only [List.foldl_cons, List.length_cons]
      rw [show j + (qs.length + 1) = j + 1 + qs.length by omega]
      exact this
  have := key (ps.take j) ⟨[], [], none, 0⟩ 0 (by simp) (by simp)
  have hl := List.length_take_le j ps
  omega
theorem mExtend_r {n k : Nat} {m : Mem} {xs zs : List D} {Q : D → Mem → Prop} {X : Ecl → Mem → Prop} (h1 : m[n]? = some (.lst xs)) (h2 : m[k]? = some (.lst zs)) (hl : xs.length + zs.length ≤ 16777216) : wp (mExtend (.ref n) [.ref k] m) Q X = Q .non (m.set n (.lst (xs ++ zs))) := by
  have : mExtend (.ref n) [.ref k] m = .ok .non (m.set n (.lst (xs ++ zs))) := by
    show (match m[n]? with | some (.lst xs) => (match rdW (.ref k) m with | some zs => if xs.length + zs.length ≤ SZ then R.ok D.non (m.set n (.lst (xs ++ zs))) else .stk | none => .stk) | _ => .stk) = _
    rw [h1, rdW_rf.mpr h2]
    exact if_pos hl
  rw [this, wp_ok]
theorem sp_parted (x : D) (ps : List (Row × Nat)) (m : Mem) (hx : PsAt x ps m) (hl : ps.length ≤ 1000000) : m_parted [x] m = .ok (.tup [rpsD (settledOf ps), startD (ps.foldl pstep ⟨[], [], none, 0⟩).start]) m := by
  refine runP_ok rfl (by cases (ps.foldl pstep ⟨[], [], none, 0⟩).start <;> simp [flat0, flat0s, startD]) ?_
  unfold b_parted
  rw [ws_sSeq]
  simp only [evOf, List.replicate]
  simp
  rw [ws_sSeq]
  simp
  rw [ws_sSeq]
  simp
  rw [ws_sSeq]
  simp
  rw [ws_sSeq, ws_sFor]
  have loop : ∀ (hold : Mem → Prop) (P : Po), (∀ m', Ext m m' → hold m') → (∀ ev m', PI x ps m ps.length ev m' → P.nx ev m') → ∀ b, (∀ (j : Nat) ev m' (h : j < ps.length) (r : Row) (a : Nat), ps[j] = (r, a) → (∃ (s : PS) (fi hi : Nat), s = (ps.take j).foldl pstep ⟨[], [], none, 0⟩ ∧ ev = [some x, some (.ref fi), some (.ref hi), some (startD s.start), some (.int s.last), some (rowD r), some (.int (a : Nat))] ∧
    m'[fi]? = some (.lst (s.found.map rpD)) ∧ m'[hi]? = some (.lst (s.held.map rpD)) ∧ m.length ≤ fi ∧ m.length ≤ hi ∧ fi ≠ hi ∧ Ext m m') → ws (b ev m') ⟨PI x ps m (j + 1), P.rt, P.nx, PI x ps m (j + 1), P.xc⟩) → ws (forGo hold (gTup [5, 6]) b (ps.map rpD) [some x, some (.ref m.length), some (.ref (m.length + 1)), some .non, some (.int 0), none, none] (m ++ [.lst [], .lst []])) P := by
    intro hold P hh hq b hb
    refine ws_forGo (PI x ps m) ?_ ?_ ?_ ⟨⟨[], [], none, 0⟩, m.length, m.length + 1, none, none, rfl, rfl, by simp, by simp, by omega, by omega, by omega, (Ext.refl m).app _⟩
    · rintro j ev m' hj ⟨s, fi, hi, o5, o6, -, -, -, -, -, -, -, h⟩
      exact hh _ h
    · rintro j ev m' hj ⟨s, fi, hi, o5, o6, h1, rfl, h2⟩
      rw [List.length_map] at hj
      obtain ⟨⟨r, a⟩, hra⟩ : ∃ q, ps[j] = q := ⟨_, rfl⟩
      refine ⟨_, by rw [List.getElem_map, hra]; rfl, hb j _ m' hj r a hra ⟨s, fi, hi, h1, rfl, h2⟩⟩
    · rintro ev m' h
      rw [List.length_map] at h
      exact hq ev m' h
  have fin : ∀ (P : Po), (∀ m', m'.take m.length = m → P.rt (D.tup [rpsD (settledOf ps), startD (ps.foldl pstep ⟨[], [], none, 0⟩).start]) m') → ∀ (ev : Ev) (m' : Mem), PI x ps m ps.length ev m' → ws (sRet (eTup (aCons (eFrz 1) (aCons (eVar 3) aNil))) ev m') P := by
    intro P hP
    rintro ev m' ⟨s, fi, hi, o5, o6, hs, rfl, hf, hh, f1, f2, f3, hE⟩
    rw [List.take_length] at hs
    have ef : ∀ (ev : Ev), eFrz 1 (some x :: some (.ref fi) :: ev) m' = .ok (.lst (s.found.map rpD)) (m'.set fi .dead) := by
      intro ev; simp [eFrz, hf]
    have := (hE.set f1 .dead).1
    have hP' := hP _ this
    simp [rpsD, settledOf, pF, ← hs] at hP'
    simp [ef, hP']
  have body : ∀ (P : Po) (j : Nat) (ev : Ev) (m' : Mem) (h : j < ps.length) (r : Row) (a : Nat), ps[j] = (r, a) → (∃ (s : PS) (fi hi : Nat), s = (ps.take j).foldl pstep ⟨[], [], none, 0⟩ ∧ ev = [some x, some (.ref fi), some (.ref hi), some (startD s.start), some (.int s.last), some (rowD r), some (.int (a : Nat))] ∧
    m'[fi]? = some (.lst (s.found.map rpD)) ∧ m'[hi]? = some (.lst (s.held.map rpD)) ∧ m.length ≤ fi ∧ m.length ≤ hi ∧ fi ≠ hi ∧ Ext m m') → ws (sSeq
            (sIf
              (tAnd (tOf (eBin oNotN (eVar 3) (eC D.non)))
                (tOf (eBin oNe (eBin oIx (eVar 5) (eC (D.int 1))) (eBin (oAdd false) (eVar 4) (eC (D.int 1))))))
              (sSet 3 (eC D.non)) sNop)
            (sSeq (sSet 4 (eBin oIx (eVar 5) (eC (D.int 1))))
              (sIf (tOf (eBin oEq (eBin oIx (eVar 5) (eC (D.int 0))) (eC (D.str (Str.ofString "begin")))))
                (sSeq (sSet 2 (eLst true aNil)) (sSet 3 (eVar 6)))
                (sIf (tOf (eBin oEq (eBin oIx (eVar 5) (eC (D.int 0))) (eC (D.str (Str.ofString "end")))))
                  (sSeq
                    (sExpr
                      (eML mExtend (eVar 1)
                        (aCons (eIf (tOf (eBin oIsN (eVar 3) (eC D.non))) (eLst false aNil) (eVar 2)) aNil)))
                    (sSet 3 (eC D.non)))
                  (sIf (tOf (eBin oEq (eBin oIx (eVar 5) (eC (D.int 0))) (eC (D.str (Str.ofString "thin")))))
                    (sSet 3 (eC D.non))
                    (sIf (tOf (eBin oIsN (eVar 3) (eC D.non)))
                      (sExpr (eML mAppend (eVar 1) (aCons (eTup (aCons (eVar 5) (aCons (eVar 6) aNil))) aNil)))
                      (sExpr (eML mAppend (eVar 2) (aCons (eTup (aCons (eVar 5) (aCons (eVar 6) aNil))) aNil)))))))) ev m') ⟨PI x ps m (j + 1), P.rt, P.nx, PI x ps m (j + 1), P.xc⟩ := by
    rintro P j ev m' hj r a hra ⟨s, fi, hi, hs, rfl, hf, hh, f1, f2, f3, hE⟩
    have hnext : (ps.take (j + 1)).foldl pstep ⟨[], [], none, 0⟩ = pstep s (r, a) := by
      rw [foldl_take _ _ _ hj, ← hs, hra]
    have hlen := pfold_len ps j
    rw [← hs] at hlen
    have hn1 : s.found.length < 16777216 := by omega
    have hn2 : s.held.length < 16777216 := by omega
    have hn3 : s.found.length + s.held.length ≤ 16777216 := by omega
    have hfl : fi < m'.length := (List.getElem?_eq_some_iff.mp hf).1
    have hhl : hi < m'.length := (List.getElem?_eq_some_iff.mp hh).1
    have rl0 : rowD r = .tup [.str r.k, .int r.n, .str r.key, .str r.val] := rfl
    refine ws_cut (fun ev m2 => m2 = m' ∧ ev = [some x, some (.ref fi), some (.ref hi), some (startD (if s.start ≠ none ∧ r.n ≠ s.last + 1 then none else s.start)), some (.int s.last), some (rowD r), some (.int (a : Nat))]) ?_ ?_
    · rw [ws_sIf]
      cases hst : s.start with
      | none => simp [startD]
      | some b =>
        by_cases hn : r.n = s.last + 1
        · simp [startD, rl0, hn]
        · simp [startD, rl0, hn]
    rintro _ _ ⟨rfl, rfl⟩
    generalize hst : (if s.start ≠ none ∧ r.n ≠ s.last + 1 then none else s.start) = st
    have hps : pstep s (r, a) = (if r.k = "begin" then ⟨s.found, [], some a, r.n⟩
      else if r.k = "end" then ⟨s.found ++ (if st = none then [] else s.held), s.held, none, r.n⟩
      else if r.k = "thin" then ⟨s.found, s.held, none, r.n⟩
      else if st = none then ⟨s.found ++ [(r, a)], s.held, none, r.n⟩
      else ⟨s.found, s.held ++ [(r, a)], st, r.n⟩) := by rw [← hst]; rfl
    rw [ws_sSeq]
    simp only [rl0]
    simp
    rw [ws_sIf]
    by_cases k1 : r.k = "begin"
    · rw [if_pos k1] at hps
      simp [k1]
      rw [ws_sSeq]
      simp
      exact PI_mk _ (hnext.trans hps) rfl rfl (by rw [List.getElem?_append_left hfl]; exact hf) (by simp) f1 hE.2 (by omega) (hE.app _)
    · rw [if_neg k1] at hps
      simp [k1]
      rw [ws_sIf]
      by_cases k2 : r.k = "end"
      · rw [if_pos k2] at hps
        simp [k2]
        rw [ws_sSeq]
        cases hsn : st with
        | none =>
          rw [hsn, if_pos rfl, List.append_nil] at hps
          have hnl : s.found.length ≤ 16777216 := by omega
          simp [startD, hf, hnl]
          exact PI_mk _ (hnext.trans hps) rfl rfl (by simp [hfl]) (by rw [List.getElem?_set_ne (by omega)]; exact hh) f1 f2 f3 (hE.set f1 _)
        | some b =>
          rw [hsn, if_neg (by simp)] at hps
          simp [startD]
          rw [mExtend_r hf hh (by simpa using hn3)]
          refine ⟨⟨_, hf⟩, PI_mk _ (hnext.trans hps) rfl rfl ?_ ?_ f1 f2 f3 (hE.set f1 _)⟩
          · simp [hfl]
          · rw [List.getElem?_set_ne (by omega)]; exact hh
      · rw [if_neg k2] at hps
        simp [k2]
        rw [ws_sIf]
        by_cases k3 : r.k = "thin"
        · rw [if_pos k3] at hps
          simp [k3]
          exact PI_mk _ (hnext.trans hps) rfl rfl hf hh f1 f2 f3 hE
        · rw [if_neg k3] at hps
          simp [k3]
          rw [ws_sIf]
          cases hsn : st with
          | none =>
            rw [hsn, if_pos rfl] at hps
            simp [startD, hf, hn1]
            exact PI_mk _ (hnext.trans hps) rfl rfl (by simp [hfl, rpD, rl0]) (by rw [List.getElem?_set_ne (by omega)]; exact hh) f1 f2 f3 (hE.set f1 _)
          | some b =>
            rw [hsn, if_neg (by simp)] at hps
            simp [startD, hh, hn2]
            exact PI_mk _ (hnext.trans hps) rfl rfl (by rw [List.getElem?_set_ne (by omega)]; exact hf) (by simp [hhl, rpD, rl0]) f1 f2 f3 (hE.set f2 _)
  rcases hx with rfl | ⟨i, rfl, hi⟩
  · rw [wp_iLst, eVar_z]
    exact ⟨_, rfl, loop _ _ (fun _ _ => trivial) (fin _ fun m' h => by simp [h]) _ (body _)⟩
  · have hi' : (m ++ [Cell.lst [], .lst []])[i]? = some (.lst (ps.map rpD)) := ((Ext.refl m).app _).get hi
    rw [wp_iLst, eVar_z]
    exact ⟨_, hi', loop _ _ (fun m' hE => hE.get hi) (fin _ fun m' h => by simp [h]) _ (body _)⟩
theorem sp_settled (x : D) (ps : List (Row × Nat)) (m : Mem) (hx : PsAt x ps m) (hl : ps.length ≤ 1000000) : m_settled [x] m = .ok (rpsD (settledOf ps)) m := by
  refine runP_ok rfl (by simp) ?_
  have := sp_parted x ps m hx hl
  unfold b_settled
  simp only [evOf, List.replicate]
  simp [this]
end Lt

set_option Elab.async false
set_option linter.all false
set_option maxRecDepth 100000
/-! N12: a store wakes: a file that is whole is read. -/
namespace Lt
open PySem L2
def lastF (l : Int) (ps : List (Row × Nat)) : Int := ps.foldl (fun l q => if q.1.n > l then q.1.n else l) l
def thinF (t : Int) (ps : List (Row × Nat)) : Int := ps.foldl (fun t (q : Row × Nat) => if q.1.k = ("thin" : Str) then q.1.n else t) t
def tabF (t : List (Str × Loc)) (ps : List (Row × Nat)) (f : Nat) : List (Str × Loc) := ps.foldl (fun t q => learnT t q.1 f q.2) t
def openS (s : Sto) (ps : List (Row × Nat)) (f : Nat) : Sto := { s with last := lastF s.last ps, thinned := thinF s.thinned ps, tab := tabF s.tab (settledOf ps) f }
def startOf (ps : List (Row × Nat)) : Option Nat := (ps.foldl pstep ⟨[], [], none, 0⟩).start
theorem inF_strs (k : Str) : ∀ ks : List Str, inF (.str k) (ks.map .str) = decide (k ∈ ks)
  | [] => by simp
  | a :: r => by
    rw [List.map_cons, inF_cons, inF_strs k r]
    by_cases h : a = k
    · simp [h]
    · have h' : ¬ k = a := fun e => h e.symm
      simp [h, h']
theorem inD_strs (k : Str) (ks : List Str) (m : Mem) : inD (.str k) (.lst (ks.map .str)) m = some (decide (k ∈ ks)) := by
  rw [inD_l, if_pos, inF_strs]
  refine ⟨rfl, ?_⟩
  rw [List.all_eq_true]
  intro x hx
  obtain ⟨k, _, rfl⟩ := List.mem_map.mp hx
  rfl
section
variable {m m' : Mem} {p n : Nat} {s : Sto} {d d' : Dk} {L : List Nat} {B : Nat}
theorem sp_deal_start (ps : List (Row × Nat)) (m : Mem) (hl : ps.length ≤ 1000000) : m_deal_start [rpsD ps] m = .ok (startD (startOf ps)) m := by
  have h := sp_parted (rpsD ps) ps m (.inl rfl) hl
  refine runP_ok rfl (by cases startOf ps <;> rfl) ?_
  unfold b_deal_start
  simp [evOf, h, startOf]
theorem logR_len {bs : List Int} (hb : Bytes bs) : ∀ (n a : Nat), 12 * (logR bs n a).1.length ≤ bs.length - a
  | 0, a => by simp [logR]
  | n + 1, a => by
    cases h : rowAt bs a with
    | none => simp [logR_none h]
    | some q =>
      obtain ⟨r, e⟩ := q
      have h1 := rowAt_ok hb h
      have := logR_len hb n e
      rw [logR_some h]
      simp only [List.length_cons]
      omega
theorem logOf_len {bs : List Int} (hb : Bytes bs) : (logOf bs).1.length ≤ bs.length := by
  have := logR_len hb (bs.length + 1) 0
  unfold logOf
  omega
theorem tabF_len {ps : List (Row × Nat)} {t : List (Str × Loc)} {f : Nat} : (tabF t ps f).length ≤ t.length + ps.length := by
  unfold tabF
  induction ps generalizing t with
  | nil => simp
  | cons q r ih =>
    rw [List.foldl_cons]
    have h := ih (t := learnT t q.1 f q.2)
    have h2 : (learnT t q.1 f q.2).length ≤ t.length + 1 := by
      unfold learnT; split
      · exact putA_len
      · exact Nat.le_trans dropA_len (by omega)
    simp only [List.length_cons]
    omega
theorem tabF_nd {ps : List (Row × Nat)} {t : List (Str × Loc)} {f : Nat} (h : (keysA t).Nodup) : (keysA (tabF t ps f)).Nodup := by
  unfold tabF
  induction ps generalizing t with
  | nil => exact h
  | cons q r ih =>
    rw [List.foldl_cons]
    refine ih ?_
    unfold learnT; split
    · exact nd_put h
    · exact nd_drop h
def psM (s : PS) : Nat := s.found.length + (if s.start = none then 0 else s.held.length)
theorem pstep_M (s : PS) (q : Row × Nat) : psM (pstep s q) ≤ psM s + 1 := by
  unfold pstep psM
  simp only
  by_cases h0 : s.start = none
  · simp only [h0]
    simp
    repeat' split
    all_goals first | (simp; done) | simp_all
  · by_cases h1 : q.1.n = s.last + 1
    · simp only [h1]
      simp [h0]
      repeat' split
      all_goals simp_all
      all_goals omega
    · simp only [h0]
      simp [h1, h0]
      repeat' split
      all_goals simp
      all_goals omega
theorem pF_len : ∀ (ps : List (Row × Nat)) (s : PS), (pF s ps).length ≤ psM s + ps.length
  | [], s => by show s.found.length ≤ _; unfold psM; omega
  | q :: ps, s => by
    rw [pF_cons]
    have h := pF_len ps (pstep s q)
    have h2 := pstep_M s q
    simp only [List.length_cons]
    omega
theorem settled_len (ps : List (Row × Nat)) : (settledOf ps).length ≤ ps.length := by
  have := pF_len ps ⟨[], [], none, 0⟩
  unfold settledOf
  simpa [psM] using this
theorem sp_open (g : SD m p n s d) (ok : Dok d B) (hB : B ≤ 100000) {L0 : List Nat} {c f : Nat} (F : LogsAre (keysA d.fs) (L0 ++ [c])) (hf : f ∈ L0 ++ [c]) {v : Fl} (hv : lkA d.fs (logN f) = some v) (hint : c_HINT ++ numS f ∉ keysA d.fs)
    (hw : (logOf v.bs).2 = v.bs.length) (hs : startOf (logOf v.bs).1 = none) (ht : s.tab.length + v.bs.length ≤ 900000)
    {Q : D → Mem → Prop} {X : Ecl → Mem → Prop} (fin : ∀ m', SD m' p n (openS s (logOf v.bs).1 f) d → Fr (stk p n) m m' → Q .non m') : wp (m_Store_open_file [.ref p, .int (f : Nat)] m) Q X := by
  obtain ⟨q1, q2, q3⟩ := (F.mem f).mp hf
  obtain ⟨b1, b2, b3⟩ := ok.by_ _ _ hv
  have ll := logOf_len b1
  have hn := sp_names g.dk ok.len
  have l63 := F.le63 g.dk.nd ok.len
  have strf : f.log2 < 1920 := by
    have := (Nat.log2_lt (k := 30) (show f ≠ 0 by omega)).mpr (by omega)
    omega
  have hl : c_HINT.length = 5 := by decide +kernel
  have l9 := numS_len9 q2
  have sl : c_HINT.length + (Str.ofString (f : Int).repr).length ≤ 16777216 := by
    have h4 : Str.ofString (f : Int).repr = numS f := rfl
    rw [h4]; omega
  have sn : c_HINT ++ Str.ofString (f : Int).repr = c_HINT ++ numS f := rfl
  refine wp_runF rfl ?_
  unfold b_Store_open_file
  rw [ws_sSeq]
  simp only [evOf, List.replicate]
  simp [sp_log_name f q2]
  rw [ws_sSeq, ws_sIf]
  simp [strf, sl, sn, g.rs, g.rd, hn]
  have inn : inD (.str (c_HINT ++ numS f)) (strsD (sortS (keysA d.fs))) m = some false := by
    rw [show strsD (sortS (keysA d.fs)) = .lst ((sortS (keysA d.fs)).map .str) from rfl, inD_strs]
    simp [sort_mem, hint]
  refine .inl ⟨inn, ?_⟩
  rw [ws_sSeq]
  have rp := sp_readP g.dk hv (by omega)
  have rl := sp_read_log (.lst (v.bs.map .int)) v.bs m (.inl rfl) b1 (by omega)
  rw [hw] at rl
  simp [g.rs, g.rd, rp, rl, rpsD]
  -- the rows are all of the file's
  refine ws_cut (fun ev m' => ev = [some (.ref p), some (.int (f : Nat)), some (.str (logN f)), none, some (.lst ((logOf v.bs).1.map rpD)), some (.int (v.bs.length : Nat)), ev.getD 6 none, none, none, none] ∧ m' = m) ?_ ?_
  · rw [ws_sIf]
    have hfl := sp_filesL g ok F
    have al : atI ((L0 ++ [c]).map fun n => D.int (n : Nat)) (-1) = some (.int (c : Nat)) := by rw [List.map_append]; exact atI_last _ _
    have hs' := sp_size g.dk (logN f)
    rw [hv] at hs'
    simp only at hs'
    have ds := sp_deal_start (logOf v.bs).1 m (by omega)
    rw [hs] at ds
    simp [rpsD, startD] at ds
    simp [g.rs, hfl]
    simp at al
    refine ⟨_, al, ?_⟩
    by_cases hc : f = c
    · subst hc
      refine .inr ⟨eqD_good rfl, ?_⟩
      rw [ws_sSeq]
      simp [ds]
      rw [ws_sSeq]
      refine ws_sWhile (fun n ev m' => ev = [some (.ref p), some (.int (f : Nat)), some (.str (logN f)), none, some (.lst ((logOf v.bs).1.map rpD)), some (.int (v.bs.length : Nat)), some .non, none, none, none] ∧ m' = m) 1 (by unfold FUEL; omega) ?_ ⟨rfl, rfl⟩
      rintro n' ev m' ⟨rfl, rfl⟩
      simp
      rw [ws_sIf]
      simp [g.rs, g.rd, hs']
    · have ne : eqD (.int (f : Nat)) (.int (c : Nat)) m = some false := by
        have : ¬ (f : Int) = c := by omega
        simp [eqD, scalD, this]
      exact .inl ne
  rintro ev m1 ⟨hev, hm1⟩
  rw [hm1]
  generalize ev.getD 6 none = o6 at hev
  rw [hev]
  clear hev hm1
  have okp := logR_ok b1 (v.bs.length + 1) 0
  refine ws_cut (fun ev m' => ∃ o7 o8, ev = [some (.ref p), some (.int (f : Nat)), some (.str (logN f)), none, some (.lst ((logOf v.bs).1.map rpD)), some (.int (v.bs.length : Nat)), o6, o7, o8, none] ∧ SD m' p n { s with last := lastF s.last (logOf v.bs).1, thinned := thinF s.thinned (logOf v.bs).1 } d ∧ Fr (stk p n) m m') ?_ ?_
  · rw [ws_sFor]
    simp
    refine ws_forGo (fun j ev m' => ∃ o7 o8, ev = [some (.ref p), some (.int (f : Nat)), some (.str (logN f)), none, some (.lst ((logOf v.bs).1.map rpD)), some (.int (v.bs.length : Nat)), o6, o7, o8, none] ∧ SD m' p n { s with last := lastF s.last ((logOf v.bs).1.take j), thinned := thinF s.thinned ((logOf v.bs).1.take j) } d ∧ Fr (stk p n) m m') (fun _ _ _ _ _ => trivial) ?_ ?_ ⟨none, none, rfl, g, .refl⟩
    · rintro j ev m' hj ⟨o7, o8, rfl, g', f'⟩
      have hjl : j < (logOf v.bs).1.length := by simpa using hj
      have e1 : lastF s.last ((logOf v.bs).1.take (j + 1)) = if (logOf v.bs).1[j].1.n > lastF s.last ((logOf v.bs).1.take j) then (logOf v.bs).1[j].1.n else lastF s.last ((logOf v.bs).1.take j) := by
        unfold lastF; rw [foldl_take _ _ _ hjl]
      have e2 : thinF s.thinned ((logOf v.bs).1.take (j + 1)) = if (logOf v.bs).1[j].1.k = ("thin" : Str) then (logOf v.bs).1[j].1.n else thinF s.thinned ((logOf v.bs).1.take j) := by
        unfold thinF; rw [foldl_take _ _ _ hjl]
      refine ⟨[some (.ref p), some (.int (f : Nat)), some (.str (logN f)), none, some (.lst ((logOf v.bs).1.map rpD)), some (.int (v.bs.length : Nat)), o6, some (rowD (logOf v.bs).1[j].1), some (.int ((logOf v.bs).1[j].2 : Nat)), none], by simp [rpD], ?_⟩
      rw [e1, e2]
      generalize (logOf v.bs).1[j] = q at *
      generalize lastF s.last ((logOf v.bs).1.take j) = l at *
      generalize thinF s.thinned ((logOf v.bs).1.take j) = t at *
      obtain ⟨r, a⟩ := q
      rw [ws_sSeq]
      have g2 := g'.fld (s' := { s with last := (if r.n > l then r.n else l), thinned := t }) rfl
      simp [g'.rs, rowD]
      rw [ws_sIf]
      by_cases hk : r.k = "thin"
      · simp [hk]
        simp only [gt_iff_lt] at g2
        have rs2 := g2.rs
        have g3 := g2.fld (s' := { s with last := (if l < r.n then r.n else l), thinned := r.n }) rfl
        refine ⟨_, rs2, by simp, ?_, ?_⟩
        · rw [List.set_set] at g3
          exact g3
        · rw [sf_set_thinned]; exact f'.trans Fr.fld
      · simp [hk]
        exact ⟨g2, f'.trans Fr.fld⟩
    · rintro ev m' ⟨o7, o8, rfl, g', f'⟩
      rw [List.length_map, List.take_length] at g'
      exact ⟨⟨o7, o8, rfl⟩, g', f'⟩
  rintro ev m1 ⟨o7, o8, rfl, g1, f1⟩
  have sett := sp_settled (.lst ((logOf v.bs).1.map rpD)) (logOf v.bs).1 m1 (.inl rfl) (by omega)
  have sl2 := settled_len (logOf v.bs).1
  rw [ws_sFor]
  simp [sett, rpsD]
  refine ws_forGo (fun j ev m' => ∃ o7 o8, ev = [some (.ref p), some (.int (f : Nat)), some (.str (logN f)), none, some (.lst ((logOf v.bs).1.map rpD)), some (.int (v.bs.length : Nat)), o6, o7, o8, none] ∧ SD m' p n { s with last := lastF s.last (logOf v.bs).1, thinned := thinF s.thinned (logOf v.bs).1, tab := tabF s.tab ((settledOf (logOf v.bs).1).take j) f } d ∧ Fr (stk p n) m m') (fun _ _ _ _ _ => trivial) ?_ ?_ ⟨o7, o8, rfl, g1, f1⟩
  · rintro j ev m' hj ⟨o7, o8, rfl, g', f'⟩
    have hjl : j < (settledOf (logOf v.bs).1).length := by simpa using hj
    have e1 : tabF s.tab ((settledOf (logOf v.bs).1).take (j + 1)) f = learnT (tabF s.tab ((settledOf (logOf v.bs).1).take j) f) (settledOf (logOf v.bs).1)[j].1 f (settledOf (logOf v.bs).1)[j].2 := by
      unfold tabF; rw [foldl_take _ _ _ hjl]
    have tl := tabF_len (ps := (settledOf (logOf v.bs).1).take j) (t := s.tab) (f := f)
    rw [List.length_take] at tl
    refine ⟨[some (.ref p), some (.int (f : Nat)), some (.str (logN f)), none, some (.lst ((logOf v.bs).1.map rpD)), some (.int (v.bs.length : Nat)), o6, some (rowD (settledOf (logOf v.bs).1)[j].1), some (.int ((settledOf (logOf v.bs).1)[j].2 : Nat)), none], by simp [rpD], ?_⟩
    rw [e1]
    have lr := sp_learn g' (by simp; omega) (settledOf (logOf v.bs).1)[j].1 f (settledOf (logOf v.bs).1)[j].2
    have nd' := learn_nd g'.st.nd (settledOf (logOf v.bs).1)[j].1 f (settledOf (logOf v.bs).1)[j].2
    simp [g'.rs, lr]
    exact ⟨g'.tab nd', f'.trans Fr.tab⟩
  · rintro ev m' ⟨o7, o8, rfl, g', f'⟩
    rw [List.length_map, List.take_length] at g'
    exact fin _ g' f'
end
end Lt

set_option Elab.async false
set_option linter.all false
set_option maxRecDepth 100000
/-! N13: a store begins, over a disk of whole log files, or an empty one. -/
namespace Lt
open PySem L2
def sto0 (most : Nat) : Sto := ⟨most, [], 0, 0, 0, .non⟩
def wakeS (s : Sto) (d : Dk) (L : List Nat) : Sto := L.foldl (fun s f => openS s (logOf (d.getF (logN f)).bs).1 f) s
structure PlainD (d : Dk) (L : List Nat) : Prop where
  logs : LogsAre (keysA d.fs) L
  only : ∀ k ∈ keysA d.fs, ∃ i, i ∈ L ∧ k = logN i
  whole : ∀ i v, i ∈ L → lkA d.fs (logN i) = some v → (logOf v.bs).2 = v.bs.length ∧ startOf (logOf v.bs).1 = none ∧ thinAt v.bs = false
theorem head_no {h : Str} {c : Nat} {t : List Nat} (hh : h.cps.toList = c :: t) (hc : c ≠ 108) (n : Nat) : Txt.startswith (logN n) h = false := by
  cases e : Txt.startswith (logN n) h with
  | false => rfl
  | true =>
    have := starts_cut e
    rw [hh] at this
    unfold logN at this
    rw [strApp_l] at this
    have e4 : c_LOG.cps.toList = [108, 111, 103, 46] := by decide +kernel
    rw [e4] at this
    simp at this
    exact absurd this.1.symm hc
theorem no_new (n : Nat) : numIn c_NEW (logN n) = none := numIn_no (head_no (h := c_NEW) (c := 110) (t := [101, 119, 46]) (by decide +kernel) (by decide) n)
theorem no_hint (n : Nat) : numIn c_HINT (logN n) = none := numIn_no (head_no (h := c_HINT) (c := 104) (t := [105, 110, 116, 46]) (by decide +kernel) (by decide) n)
theorem hint_ne (f n : Nat) : c_HINT ++ numS f ≠ logN n := by
  intro e
  have h1 := starts_app c_HINT (numS f)
  rw [e, head_no (h := c_HINT) (c := 104) (t := [105, 110, 116, 46]) (by decide +kernel) (by decide) n] at h1
  cases h1
section
variable {m m' : Mem} {p n : Nat} {s : Sto} {d d' : Dk} {L : List Nat} {B : Nat}
theorem wakeS_len {ps : List Nat} {B : Nat} (hb : ∀ i ∈ ps, Bytes (d.getF (logN i)).bs ∧ (d.getF (logN i)).bs.length ≤ B) : (wakeS s d ps).tab.length ≤ s.tab.length + B * ps.length := by
  unfold wakeS
  induction ps generalizing s with
  | nil => simp
  | cons i r ih =>
    rw [List.foldl_cons]
    have h := ih (s := openS s (logOf (d.getF (logN i)).bs).1 i) (fun j hj => hb j (by simp [hj]))
    obtain ⟨b1, b2⟩ := hb i (by simp)
    have h2 := tabF_len (ps := settledOf (logOf (d.getF (logN i)).bs).1) (t := s.tab) (f := i)
    have h3 := settled_len (logOf (d.getF (logN i)).bs).1
    have h4 := logOf_len b1
    have e : (openS s (logOf (d.getF (logN i)).bs).1 i).tab = tabF s.tab (settledOf (logOf (d.getF (logN i)).bs).1) i := rfl
    rw [e] at h
    simp only [List.length_cons, Nat.mul_add]
    omega
theorem sp_wake (g : SD m p n s d) (ok : Dok d B) (hB : B ≤ 10000) (ht : s.tab = []) {L0 : List Nat} {c : Nat} (P : PlainD d (L0 ++ [c]))
    {Q : D → Mem → Prop} {X : Ecl → Mem → Prop} (fin : ∀ m', SD m' p n (wakeS s d (L0 ++ [c])) d → Fr (stk p n) m m' → Q .non m') : wp (m_Store_wake [.ref p] m) Q X := by
  have F0 := P.logs
  obtain ⟨LL, hLL⟩ : ∃ LL, L0 ++ [c] = LL := ⟨_, rfl⟩
  rw [hLL] at P fin
  have hn := sp_names g.dk ok.len
  have F := P.logs
  have l63 := F.le63 g.dk.nd ok.len
  have hfl := sp_filesL g ok F
  have num : ∀ (h : Str), h.length ≤ 1000 → ∀ k ∈ sortS (keysA d.fs), ∀ m : Mem, m_number_in [.str k, .str h] m = .ok (optD (numIn h k)) m := by
    intro h hh k hk m
    have := nameOk_ascii (ok.nm k (sort_mem.mp hk))
    exact sp_number_in k h m (by omega) hh this.2
  refine wp_runF rfl ?_
  unfold b_Store_wake
  simp only [evOf, List.replicate]
  -- no half-done files
  refine ws_cut (fun ev m' => ∃ o1, ev = [some (.ref p), o1, none, none] ∧ m' = m) ?_ ?_
  · rw [ws_sFor]
    simp [g.rs, g.rd, hn, strsD]
    refine ws_forGo (fun j ev m' => ∃ o1, ev = [some (.ref p), o1, none, none] ∧ m' = m) (fun _ _ _ _ _ => trivial) ?_ ?_ ⟨none, rfl, rfl⟩
    · rintro j ev m' hj ⟨o1, rfl, rfl⟩
      have hjl : j < (sortS (keysA d.fs)).length := by simpa using hj
      refine ⟨[some (.ref p), some (.str (sortS (keysA d.fs))[j]), none, none], by simp, ?_⟩
      have hk : (sortS (keysA d.fs))[j] ∈ sortS (keysA d.fs) := List.getElem_mem _
      generalize (sortS (keysA d.fs))[j] = k at *
      obtain ⟨i, hi, rfl⟩ := P.only k (sort_mem.mp hk)
      rw [ws_sIf]
      simp [num c_NEW (by decide +kernel) _ hk, no_new, optD]
    · rintro ev m' h
      simp at h ⊢
      exact h
  rintro ev m1 ⟨o1, rfl, hm1⟩
  rw [hm1]
  clear hm1
  have f0 : firstOf d LL = 0 := by
    have : ∀ (l : List Nat), (∀ i ∈ l, thinAt (d.getF (logN i)).bs = false) → ∀ x, l.foldl (fun f n => if thinAt (d.getF (logN n)).bs = true then n else f) x = x := by
      intro l
      induction l with
      | nil => intro _ _; rfl
      | cons a r ih =>
        intro h x
        rw [List.foldl_cons, if_neg (by rw [h a (by simp)]; simp)]
        exact ih (fun i hi => h i (by simp [hi])) x
    refine this _ (fun i hi => ?_) 0
    obtain ⟨q1, q2, q3⟩ := (F.mem i).mp hi
    obtain ⟨v, hv⟩ := Option.isSome_iff_exists.mp (mem_keys.mp q3)
    have gf : d.getF (logN i) = v := by simp [Dk.getF, hv]
    rw [gf]
    exact (P.whole i v hi hv).2.2
  have fst := sp_first g ok (by omega) F
  rw [f0] at fst
  rw [ws_sSeq]
  simp [g.rs, fst]
  refine ws_cut (fun ev m' => ∃ o3, ev = [some (.ref p), o1, some (.int 0), o3] ∧ m' = m) ?_ ?_
  · rw [ws_sFor]
    simp [g.rs, hfl]
    refine ws_forGo (xs := LL.map fun n => D.int (n : Nat)) (fun j ev m' => ∃ o3, ev = [some (.ref p), o1, some (.int 0), o3] ∧ m' = m) (fun _ _ _ _ _ => trivial) ?_ ?_ ⟨none, rfl, rfl⟩
    · rintro j ev m' hj ⟨o3, rfl, rfl⟩
      have hjl : j < LL.length := by simpa using hj
      refine ⟨[some (.ref p), o1, some (.int 0), some (.int (LL[j] : Nat))], by simp, ?_⟩
      rw [ws_sIf]
      simp
    · rintro ev m' h
      simp at h ⊢
      exact h
  rintro ev m2 ⟨o3, rfl, hm2⟩
  rw [hm2]
  clear hm2
  refine ws_cut (fun ev m' => ∃ o1, ev = [some (.ref p), o1, some (.int 0), o3] ∧ m' = m) ?_ ?_
  · rw [ws_sFor]
    simp [g.rs, g.rd, hn, strsD]
    refine ws_forGo (fun j ev m' => ∃ o1, ev = [some (.ref p), o1, some (.int 0), o3] ∧ m' = m) (fun _ _ _ _ _ => trivial) ?_ ?_ ⟨o1, rfl, rfl⟩
    · rintro j ev m' hj ⟨o1, rfl, rfl⟩
      have hjl : j < (sortS (keysA d.fs)).length := by simpa using hj
      refine ⟨[some (.ref p), some (.str (sortS (keysA d.fs))[j]), some (.int 0), o3], by simp, ?_⟩
      have hk : (sortS (keysA d.fs))[j] ∈ sortS (keysA d.fs) := List.getElem_mem _
      generalize (sortS (keysA d.fs))[j] = k at *
      obtain ⟨i, hi, rfl⟩ := P.only k (sort_mem.mp hk)
      rw [ws_sIf]
      simp [num c_HINT (by decide +kernel) _ hk, no_hint, optD]
    · rintro ev m' h
      simp at h ⊢
      exact h
  rintro ev m3 ⟨o1', rfl, hm3⟩
  rw [hm3]
  clear hm3
  have gB : ∀ i ∈ LL, Bytes (d.getF (logN i)).bs ∧ (d.getF (logN i)).bs.length ≤ B := by
    intro i hi
    obtain ⟨q1, q2, q3⟩ := (F.mem i).mp hi
    obtain ⟨v, hv⟩ := Option.isSome_iff_exists.mp (mem_keys.mp q3)
    have gf : d.getF (logN i) = v := by simp [Dk.getF, hv]
    rw [gf]
    exact ⟨(ok.by_ _ _ hv).1, (ok.by_ _ _ hv).2.1⟩
  refine ws_cut (fun ev m' => ∃ o3, ev = [some (.ref p), o1', some (.int 0), o3] ∧ SD m' p n (wakeS s d LL) d ∧ Fr (stk p n) m m') ?_ ?_
  · rw [ws_sFor]
    simp [g.rs, hfl]
    refine ws_forGo (xs := LL.map fun n => D.int (n : Nat)) (fun j ev m' => ∃ o3, ev = [some (.ref p), o1', some (.int 0), o3] ∧ SD m' p n (wakeS s d (LL.take j)) d ∧ Fr (stk p n) m m') (fun _ _ _ _ _ => trivial) ?_ ?_ ⟨o3, rfl, g, .refl⟩
    · rintro j ev m' hj ⟨o3, rfl, g', f'⟩
      have hjl : j < LL.length := by simpa using hj
      refine ⟨[some (.ref p), o1', some (.int 0), some (.int (LL[j] : Nat))], by simp, ?_⟩
      have hi : LL[j] ∈ LL := List.getElem_mem _
      have e1 : wakeS s d (LL.take (j + 1)) = openS (wakeS s d (LL.take j)) (logOf (d.getF (logN LL[j])).bs).1 LL[j] := by
        unfold wakeS; rw [foldl_take _ _ _ hjl]
      have wl := wakeS_len (s := s) (d := d) (ps := LL.take j) (B := B) (fun i hi => gB i (List.mem_of_mem_take hi))
      rw [ht] at wl
      have l2 : (LL.take j).length ≤ 63 := by rw [List.length_take]; omega
      have w3 : B * (LL.take j).length ≤ 10000 * 63 := Nat.mul_le_mul hB l2
      rw [e1]
      generalize LL[j] = i at *
      obtain ⟨q1, q2, q3⟩ := (F.mem i).mp hi
      obtain ⟨v, hv⟩ := Option.isSome_iff_exists.mp (mem_keys.mp q3)
      have gf : d.getF (logN i) = v := by simp [Dk.getF, hv]
      obtain ⟨w1, w2, _⟩ := P.whole i v hi hv
      have vb := (ok.by_ _ _ hv).2.1
      have hin : c_HINT ++ numS i ∉ keysA d.fs := by
        intro h
        obtain ⟨k, _, e⟩ := P.only _ h
        exact hint_ne i k e
      rw [gf]
      simp [g'.rs]
      refine sp_open g' ok (by omega) F0 (by rw [hLL]; exact hi) hv hin w1 w2 (by simp only [List.length_nil] at wl; omega) fun m2 g2 f2 => ?_
      exact ⟨g2, f'.trans f2⟩
    · rintro ev m' ⟨o3, rfl, g', f'⟩
      rw [List.length_map, List.take_length] at g'
      exact ⟨⟨_, rfl⟩, g', f'⟩
  rintro ev m4 ⟨o3', rfl, g4, f4⟩
  have hfl4 := sp_filesL g4 ok F
  rw [ws_sIf]
  simp [g4.rs, hfl4]
  refine ⟨fun h => ?_, fun _ => fin _ g4 f4⟩
  rw [h] at hLL
  simp at hLL
theorem filesI_nil : filesI (sortS (keysA ([] : List (Str × Fl)))) = [] := by
  simp [filesI, numsOf, sortI, keysA, sortS]
theorem sp_wake0 (g : SD m p n s d) (hd : d.fs = [])
    {Q : D → Mem → Prop} {X : Ecl → Mem → Prop} (fin : ∀ m', m' = putDk n (d.tWr (logN 1) []).1 m → SD m' p n s (d.tWr (logN 1) []).1 → Fr (stk p n) m m' → (d.tWr (logN 1) []).2 = true → Q .non m')
    (stop : ∀ m', SD m' p n s (d.tWr (logN 1) []).1 → Fr (stk p n) m m' → (d.tWr (logN 1) []).2 = false → X .stop m') : wp (m_Store_wake [.ref p] m) Q X := by
  have ok : Dok d 0 := ⟨fun k hk => by rw [hd] at hk; simp [keysA] at hk, by rw [hd]; simp, fun k v hv => by rw [hd] at hv; simp [lkA] at hv⟩
  have hn := sp_names g.dk ok.len
  have hk : sortS (keysA d.fs) = [] := by rw [hd]; simp [keysA, sortS]
  rw [hk] at hn
  have F : LogsAre (keysA d.fs) [] := ⟨by simp, fun i => by rw [hd]; simp [keysA]⟩
  have hfl := sp_filesL g ok F
  have fst := sp_first g ok (by omega) F
  have f0 : firstOf d [] = 0 := rfl
  rw [f0] at fst
  have gf : d.getF (logN 1) = ⟨[], 0⟩ := by simp [Dk.getF, hd, lkA]
  have tw := t_wr g.dk ok.len (logN_ok (n := 1) (by omega)) (bs := []) (by rw [gf]; simp)
  have g1 : SD (putDk n (d.tWr (logN 1) []).1 m) p n s (d.tWr (logN 1) []).1 := g.disk (tWr_nd g.dk.nd)
  have l1 := sp_log_name 1 (by omega) m
  simp only [List.map_nil] at tw hfl
  refine wp_runF rfl ?_
  unfold b_Store_wake
  simp only [evOf, List.replicate]
  rw [ws_sSeq, ws_sFor]
  simp [g.rs, g.rd, hn, strsD, forGo]
  rw [ws_sSeq]
  simp [g.rs, fst]
  rw [ws_sSeq, ws_sFor]
  simp [g.rs, hfl, forGo]
  rw [ws_sSeq, ws_sFor]
  simp [g.rs, g.rd, hn, strsD, forGo]
  rw [ws_sSeq, ws_sFor]
  simp [g.rs, hfl, forGo]
  rw [ws_sIf]
  simp at l1
  simp [g.rs, g.rd, hfl, l1, tw]
  exact ⟨fun h => fin _ rfl g1 Fr.disk h, fun h => stop _ g1 Fr.disk h⟩
theorem sp_store_new {most : Nat} (hm : 64 ≤ most) (a : DiskAt m n d) {Q : D → Mem → Prop} {X : Ecl → Mem → Prop} {ev : Ev} {e : EA} (ha : wp (e ev m) (fun xs m' => xs = [.ref n, .int (most : Nat)] ∧ m' = m) (fun _ _ => False))
    (wk : ∀ m0, SD m0 m.length n (sto0 most) d → Fr [] m m0 → wp (m_Store_wake [.ref m.length] m0) (fun x m' => Q (.ref m.length) m') X) : wp (eMake .store m_Store___init__ e ev m) Q X := by
  rw [wp_eMake]
  refine wp_mono ha ?_ (fun _ _ h => h.elim)
  rintro _ m1 ⟨rfl, e⟩
  rw [e]
  clear e
  refine wp_runF rfl ?_
  unfold b_Store___init__
  have i0 : ∀ fs, rdI .store (.ref m.length) (m ++ [.ins .store fs]) = some fs := fun fs => rdI_at (by simp)
  have i1 : ∀ fs c, rdI .store (.ref m.length) (m ++ [.ins .store fs, c]) = some fs := fun fs c => rdI_at (by simp)
  rw [ws_sSeq, ws_sIf]
  simp only [evOf, List.replicate]
  have hm' : ¬ (most : Int) < 64 := by omega
  simp [hm']
  rw [ws_sSeq]
  simp [i0, putD]
  rw [ws_sSeq]
  simp [i0, putD]
  rw [ws_sSeq]
  simp [i0, i1, putD]
  rw [ws_sSeq]
  simp [i1, putD]
  rw [ws_sSeq]
  simp [i1, putD]
  rw [ws_sSeq]
  simp [i1, putD]
  rw [ws_sSeq]
  simp [i1, putD]
  have g0 : SD (m ++ [.ins .store (sfs n m.length (sto0 most)), .dic false []]) m.length n (sto0 most) d :=
    ⟨⟨by simp, by simp; rfl, by simp [sto0, keysA]⟩, a.fr (Fr.app (ws := [])) (by simp), .inl a.at_.lt⟩
  have w := wk _ g0 Fr.app
  simp only [sfs, sto0] at w
  exact ⟨rfl, w⟩
end
end Lt

set_option Elab.async false
set_option linter.all false
set_option maxRecDepth 100000
/-! N14: the laws' own store: files of rows, a table, the last number. -/
namespace Lt
open PySem L2
structure Ent where
  num : Nat
  size : Nat
  rows : List (Row × Nat)
abbrev MLoc := Int × Nat × Nat × Str
def mlocD (l : MLoc) : D := .tup [.int l.1, .int (l.2.1 : Nat), .int (l.2.2.1 : Nat), .str l.2.2.2]
structure Mst where
  most : Nat
  old : List Ent
  cur : Ent
  tab : List (Str × MLoc)
  last : Int
/-- where its cells are: its own, the files', the table's; each entry's and its rows' -/
structure Mix where
  o : Nat
  f : Nat
  t : Nat
  old : List (Nat × Nat)
  b : Nat
  a : Nat
def Mix.mut (x : Mix) : List Nat := [x.o, x.f, x.t, x.b, x.a]
def Mix.all (x : Mix) : List Nat := x.mut ++ x.old.flatMap fun e => [e.1, e.2]
def mofs (x : Mix) (s : Mst) : List (Key × D) := [(.inr "most", .int (s.most : Nat)), (.inr "files", .ref x.f), (.inr "table", .ref x.t), (.inr "last", .int s.last)]
def entD (E : Ent) (a : Nat) : List D := [.int (E.num : Nat), .int (E.size : Nat), .ref a]
def EntAt (m : Mem) (e : Nat × Nat) (E : Ent) : Prop := m[e.1]? = some (.lst (entD E e.2)) ∧ m[e.2]? = some (.lst (E.rows.map rpD))
inductive All2 {α β : Type} (R : α → β → Prop) : List α → List β → Prop
  | nil : All2 R [] []
  | cons {a : α} {b : β} {as : List α} {bs : List β} : R a b → All2 R as bs → All2 R (a :: as) (b :: bs)
theorem All2.snoc {α β : Type} {R : α → β → Prop} {as : List α} {bs : List β} {a : α} {b : β} (h : All2 R as bs) (r : R a b) : All2 R (as ++ [a]) (bs ++ [b]) := by
  induction h with
  | nil => exact .cons r .nil
  | cons h1 _ ih => exact .cons h1 ih
theorem All2.len {α β : Type} {R : α → β → Prop} {as : List α} {bs : List β} (h : All2 R as bs) : as.length = bs.length := by
  induction h with
  | nil => rfl
  | cons _ _ ih => simp [ih]
structure MoS (m : Mem) (x : Mix) (s : Mst) : Prop where
  o : m[x.o]? = some (.dic false (mofs x s))
  f : m[x.f]? = some (.lst ((x.old.map fun e => D.ref e.1) ++ [.ref x.b]))
  t : m[x.t]? = some (.dic false (KD mlocD s.tab))
  e : EntAt m (x.b, x.a) s.cur
  old : All2 (EntAt m) x.old s.old
  nd : (keysA s.tab).Nodup
  dj : x.all.Nodup
def mRow (s : Mst) (r : Row) : Mst := { s with cur := ⟨s.cur.num, s.cur.size + (enc r).length, s.cur.rows ++ [(r, s.cur.size)]⟩, tab := if r.k = "put" then putA s.tab r.key (r.n, s.cur.num, s.cur.size, r.val) else if r.k = "drop" then dropA s.tab r.key else s.tab, last := r.n }
def mRoom (s : Mst) (many : Nat) : Mst := if 0 < s.cur.size ∧ s.most < s.cur.size + many then { s with old := s.old ++ [s.cur], cur := ⟨s.cur.num + 1, 0, []⟩ } else s
def mApp (s : Mst) (rs : List Row) : Mst := rs.foldl mRow (mRoom s (encs rs).length)
section
variable {m m' : Mem} {x : Mix} {s : Mst}
@[simp] theorem mo_most : valD (mofs x s) (.inr "most") = some (.int (s.most : Nat)) := by simp [mofs, valD]
@[simp] theorem mo_files : valD (mofs x s) (.inr "files") = some (.ref x.f) := by simp [mofs, valD]
@[simp] theorem mo_table : valD (mofs x s) (.inr "table") = some (.ref x.t) := by simp [mofs, valD]
@[simp] theorem mo_last : valD (mofs x s) (.inr "last") = some (.int s.last) := by simp [mofs, valD]
theorem mo_put {l : Int} : putKD (mofs x s) (.inr "last") (.int l) = mofs x { s with last := l } := by simp [mofs, putKD]
theorem EntAt.fr {ws : List Nat} {e : Nat × Nat} {E : Ent} (h : EntAt m e E) (f : Fr ws m m') (n : e.1 ∉ ws ∧ e.2 ∉ ws) : EntAt m' e E := ⟨f.at h.1 n.1, f.at h.2 n.2⟩
theorem forall2_fr {ws : List Nat} : ∀ {es : List (Nat × Nat)} {Es : List Ent}, All2 (EntAt m) es Es → Fr ws m m' → (∀ e ∈ es, e.1 ∉ ws ∧ e.2 ∉ ws) → All2 (EntAt m') es Es
  | _, _, .nil, _, _ => .nil
  | e :: es, E :: Es, .cons h t, f, n => .cons (h.fr f (n e (by simp))) (forall2_fr t f fun e he => n e (by simp [he]))
theorem MoS.fr {ws : List Nat} (g : MoS m x s) (f : Fr ws m m') (h : ∀ j ∈ x.all, j ∉ ws) : MoS m' x s := by
  have hm : ∀ j ∈ x.mut, j ∉ ws := fun j hj => h j (List.mem_append_left _ hj)
  have ho : ∀ e ∈ x.old, e.1 ∉ ws ∧ e.2 ∉ ws := fun e he => ⟨h _ (List.mem_append_right _ (List.mem_flatMap.mpr ⟨e, he, by simp⟩)), h _ (List.mem_append_right _ (List.mem_flatMap.mpr ⟨e, he, by simp⟩))⟩
  exact ⟨f.at g.o (hm _ (by simp [Mix.mut])), f.at g.f (hm _ (by simp [Mix.mut])), f.at g.t (hm _ (by simp [Mix.mut])), g.e.fr f ⟨hm _ (by simp [Mix.mut]), hm _ (by simp [Mix.mut])⟩, forall2_fr g.old f ho, g.nd, g.dj⟩
theorem MoS.ne (g : MoS m x s) : x.o ≠ x.f ∧ x.o ≠ x.t ∧ x.o ≠ x.b ∧ x.o ≠ x.a ∧ x.f ≠ x.t ∧ x.f ≠ x.b ∧ x.f ≠ x.a ∧ x.t ≠ x.b ∧ x.t ≠ x.a ∧ x.b ≠ x.a := by
  have h := (List.nodup_append.mp g.dj).1
  simp [Mix.mut] at h
  omega
theorem MoS.old_ne (g : MoS m x s) : ∀ e ∈ x.old, ∀ j ∈ x.mut, e.1 ≠ j ∧ e.2 ≠ j := by
  intro e he j hj
  have h := (List.nodup_append.mp g.dj).2.2
  have h1 := h j hj e.1 (List.mem_flatMap.mpr ⟨e, he, by simp⟩)
  have h2 := h j hj e.2 (List.mem_flatMap.mpr ⟨e, he, by simp⟩)
  exact ⟨fun z => h1 z.symm, fun z => h2 z.symm⟩
/-- the cells of what changes are written anew -/
def putM (x : Mix) (s : Mst) (m : Mem) : Mem := (((m.set x.a (.lst (s.cur.rows.map rpD))).set x.t (.dic false (KD mlocD s.tab))).set x.b (.lst (entD s.cur x.a))).set x.o (.dic false (mofs x s))
theorem putM_fr : Fr x.mut m (putM x s m) := by
  unfold putM Mix.mut
  exact (((Fr.set (by simp)).trans (Fr.set (by simp))).trans (Fr.set (by simp))).trans (Fr.set (by simp))
theorem putM_at (g : MoS m x s) {s' : Mst} (ho : s'.old = s.old) (nd : (keysA s'.tab).Nodup) : MoS (putM x s' m) x s' := by
  obtain ⟨n1, n2, n3, n4, n5, n6, n7, n8, n9, n10⟩ := g.ne
  have l1 := lt_of g.o
  have l2 := lt_of g.t
  have l3 := lt_of g.e.1
  have l4 := lt_of g.e.2
  simp only at l3 l4
  refine ⟨?_, ?_, ?_, ⟨?_, ?_⟩, ?_, nd, g.dj⟩
  · simp [putM, l1]
  · have := g.f
    unfold putM
    rw [List.getElem?_set_ne (by omega), List.getElem?_set_ne (by omega), List.getElem?_set_ne (by omega), List.getElem?_set_ne (by omega)]
    exact this
  · unfold putM
    rw [List.getElem?_set_ne (by omega), List.getElem?_set_ne (by omega), List.getElem?_set_self (by simp; omega)]
  · unfold putM
    simp only
    rw [List.getElem?_set_ne (by omega), List.getElem?_set_self (by simp; omega)]
  · unfold putM
    simp only
    rw [List.getElem?_set_ne (by omega), List.getElem?_set_ne (by omega), List.getElem?_set_ne (by omega), List.getElem?_set_self (by omega)]
  · rw [ho]
    exact forall2_fr g.old putM_fr fun e he => ⟨fun h => (g.old_ne e he _ h).1 rfl, fun h => (g.old_ne e he _ h).2 rfl⟩
theorem ixr {m : Mem} {n : Nat} {xs : List D} {i : Int} {d : D} (h : m[n]? = some (.lst xs)) (e : atI xs i = some d) (Q : D → Mem → Prop) (X : Ecl → Mem → Prop) : wp (oIx (.ref n) (.int i) m) Q X = Q d m := by
  rw [oIx_r h, e]; simp
end
end Lt

set_option Elab.async false
set_option linter.all false
set_option maxRecDepth 100000
/-! N15: the laws' own store: rows are appended. -/
namespace Lt
open PySem L2
section
variable {m m' : Mem} {x : Mix} {s : Mst} {rs : List Row}
theorem all2_lt : ∀ {es : List (Nat × Nat)} {Es : List Ent}, All2 (EntAt m) es Es → ∀ e ∈ es, e.1 < m.length ∧ e.2 < m.length
  | _, _, .nil, _, h => by cases h
  | _, _, .cons a t, e, h => by
    rcases List.mem_cons.mp h with rfl | h
    · exact ⟨lt_of a.1, lt_of a.2⟩
    · exact all2_lt t e h
theorem MoS.lt (g : MoS m x s) : ∀ j ∈ x.all, j < m.length := by
  intro j hj
  unfold Mix.all at hj
  rcases List.mem_append.mp hj with h | h
  · simp [Mix.mut] at h
    rcases h with rfl | rfl | rfl | rfl | rfl
    · exact lt_of g.o
    · exact lt_of g.f
    · exact lt_of g.t
    · exact lt_of g.e.1
    · exact lt_of g.e.2
  · obtain ⟨e, he, h⟩ := List.mem_flatMap.mp h
    have := all2_lt g.old e he
    simp at h
    rcases h with rfl | rfl <;> omega
def growX (m : Mem) (x : Mix) : Mix := { x with old := x.old ++ [(x.b, x.a)], b := m.length + 1, a := m.length }
def growS (s : Mst) : Mst := { s with old := s.old ++ [s.cur], cur := ⟨s.cur.num + 1, 0, []⟩ }
def growM (x : Mix) (s : Mst) (m : Mem) : Mem := List.set (m ++ [Cell.lst [], Cell.lst (entD ⟨s.cur.num + 1, 0, []⟩ m.length)]) x.f (Cell.lst ((x.old.map fun (e : Nat × Nat) => D.ref e.1) ++ [D.ref x.b] ++ [D.ref (m.length + 1)]))
theorem grow_all {m : Mem} {x : Mix} : (growX m x).all.Perm ([m.length + 1, m.length] ++ x.all) := by
  refine List.perm_iff_count.mpr fun a => ?_
  simp [growX, Mix.all, Mix.mut, List.count_cons, List.count_append]
  omega
theorem growM_fr : Fr [x.f] m (growM x s m) := by
  unfold growM
  exact (Fr.app (ws := [x.f])).trans (Fr.set (by simp))
theorem MoS.grow (g : MoS m x s) : MoS (growM x s m) (growX m x) (growS s) := by
  obtain ⟨n1, n2, n3, n4, n5, n6, n7, n8, n9, n10⟩ := g.ne
  have F := growM_fr (m := m) (x := x) (s := s)
  have lf := lt_of g.f
  have hl := g.lt
  refine ⟨show (growM x s m)[x.o]? = _ from F.at g.o (by simp; omega), ?_, show (growM x s m)[x.t]? = _ from F.at g.t (by simp; omega), ⟨?_, ?_⟩, ?_, g.nd, ?_⟩
  · show (growM x s m)[x.f]? = _
    unfold growM
    rw [List.getElem?_set_self (by simp; omega)]
    simp [growX]
  · show (growM x s m)[m.length + 1]? = _
    unfold growM
    rw [List.getElem?_set_ne (by omega)]
    simp [growX, growS]
  · show (growM x s m)[m.length]? = _
    unfold growM
    rw [List.getElem?_set_ne (by omega)]
    simp [growS]
  · show All2 _ (x.old ++ [(x.b, x.a)]) (s.old ++ [s.cur])
    refine (forall2_fr g.old F fun e he => ?_).snoc (g.e.fr F (by simp; omega))
    have := g.old_ne e he x.f (by simp [Mix.mut])
    simp
    exact this
  · rw [grow_all.nodup_iff]
    rw [List.nodup_append]
    refine ⟨by simp, g.dj, fun a ha b hb => ?_⟩
    have := hl b hb
    simp at ha
    omega
/-- rows that are a value, or in a cell of another's -/
def RowsIn (X : D) (rs : List Row) (ws : List Nat) (m : Mem) : Prop := X = .lst (rs.map rowD) ∨ ∃ i, X = .ref i ∧ m[i]? = some (.lst (rs.map rowD)) ∧ i ∉ ws
theorem mApp_len (rs : List Row) : ∀ (s : Mst), (rs.foldl mRow s).cur.rows.length = s.cur.rows.length + rs.length ∧ (rs.foldl mRow s).tab.length ≤ s.tab.length + rs.length := by
  induction rs with
  | nil => intro s; simp
  | cons r rs ih =>
    intro s
    rw [List.foldl_cons]
    obtain ⟨h1, h2⟩ := ih (mRow s r)
    have h3 : (mRow s r).cur.rows.length = s.cur.rows.length + 1 := by simp [mRow]
    have h4 : (mRow s r).tab.length ≤ s.tab.length + 1 := by
      unfold mRow
      simp only
      split
      · exact putA_len
      · split
        · exact Nat.le_trans dropA_len (by omega)
        · omega
    simp only [List.length_cons]
    omega
theorem mRow_nd (h : (keysA s.tab).Nodup) (r : Row) : (keysA (mRow s r).tab).Nodup := by
  unfold mRow
  simp only
  split
  · exact nd_put h
  · split
    · exact nd_drop h
    · exact h
theorem mApp_old (rs : List Row) : ∀ (s : Mst), (rs.foldl mRow s).old = s.old := by
  induction rs with
  | nil => intro s; rfl
  | cons r rs ih => intro s; rw [List.foldl_cons, ih]; rfl
end
end Lt

set_option Elab.async false
set_option linter.all false
set_option maxRecDepth 100000
/-! N16: the laws' own store: puts, drops, deals. -/
namespace Lt
open PySem L2
section
variable {m m' : Mem} {x : Mix} {s : Mst} {rs : List Row}
structure Msm (s : Mst) : Prop where
  h1 : s.cur.rows.length ≤ 5000
  h2 : s.tab.length ≤ 5000
  h3 : s.old.length ≤ 5000
  h4 : 0 ≤ s.last
  h5 : s.last + 200 < 999999999
def LDI (m : Mem) (x : Mix) (s : Mst) (xs : List Deed) (j : Nat) (ev : Ev) (m' : Mem) : Prop := ∃ o3, ev = [some (.ref x.o), some (.lst (xs.map deedD)), some (.ref m.length), o3, none] ∧
  m' = m ++ [.lst ((⟨"begin", s.last + 1, "", ""⟩ :: midR (s.last + 1) (xs.take j)).map rowD)]
end
end Lt

set_option Elab.async false
set_option linter.all false
set_option maxRecDepth 100000
/-! N17: whole changes, one behind the other, in plain Lean. -/
namespace Lt
open PySem L2
/-- outside of a deal -/
def Out (s : PS) : Prop := s.start = none
/-- rows by which, from outside of any deal, just their puts and drops are found, and no deal is left open -/
def WholeR (rs : List Row) : Prop := ∀ (f h : List (Row × Nat)) (l : Int) (a : Nat), ∃ h' l', (placed rs a).foldl pstep ⟨f, h, none, l⟩ = ⟨f ++ (placed rs a).filter (fun q => pdB q.1), h', none, l'⟩
theorem WholeR.nil : WholeR [] := fun f h l a => ⟨h, l, by simp [placed]⟩
theorem WholeR.app {a b : List Row} (ha : WholeR a) (hb : WholeR b) : WholeR (a ++ b) := by
  intro f h l p
  obtain ⟨h1, l1, e1⟩ := ha f h l p
  obtain ⟨h2, l2, e2⟩ := hb (f ++ (placed a p).filter (fun q => pdB q.1)) h1 l1 (p + (encs a).length)
  refine ⟨h2, l2, ?_⟩
  rw [placed_app, List.foldl_append, e1, e2, List.filter_append, List.append_assoc]
theorem WholeR.one {r : Row} (hk : r.k = "put" ∨ r.k = "drop") : WholeR [r] := by
  intro f h l a
  obtain ⟨h1, h2, h3⟩ := pd_not hk
  have hb : pdB r = true := by rcases hk with e | e <;> simp [pdB, e]
  refine ⟨h, r.n, ?_⟩
  simp [placed, pstep, h1, h2, h3, hb]
theorem midR_fold : ∀ (xs : List Deed) (f h : List (Row × Nat)) (st : Nat) (l : Int) (a : Nat), (placed (midR l xs) a).foldl pstep ⟨f, h, some st, l⟩ = ⟨f, h ++ placed (midR l xs) a, some st, l + xs.length⟩
  | [], f, h, st, l, a => by simp [midR, placed]
  | x :: xs, f, h, st, l, a => by
    have hk : (deedR x (l + 1)).k = "put" ∨ (deedR x (l + 1)).k = "drop" := by unfold deedR; cases x.2 <;> simp
    have hn : (deedR x (l + 1)).n = l + 1 := by unfold deedR; cases x.2 <;> rfl
    obtain ⟨h1, h2, h3⟩ := pd_not hk
    rw [midR, placed, List.foldl_cons]
    have e : pstep ⟨f, h, some st, l⟩ (deedR x (l + 1), a) = ⟨f, h ++ [(deedR x (l + 1), a)], some st, l + 1⟩ := by
      unfold pstep
      simp [h1, h2, h3, hn]
    rw [e, midR_fold xs]
    simp
    omega
theorem placed_in : ∀ {rs : List Row} {a : Nat} {q : Row × Nat}, q ∈ placed rs a → q.1 ∈ rs
  | r :: rs, a, q, h => by
    rw [placed] at h
    rcases List.mem_cons.mp h with rfl | h
    · simp
    · exact List.mem_cons_of_mem _ (placed_in h)
theorem midR_pd : ∀ {xs : List Deed} {l : Int} {r : Row}, r ∈ midR l xs → pdB r = true
  | x :: xs, l, r, h => by
    rw [midR] at h
    rcases List.mem_cons.mp h with rfl | h
    · unfold deedR pdB; cases x.2 <;> simp
    · exact midR_pd h
theorem WholeR.deal (l0 : Int) (xs : List Deed) : WholeR (dealR l0 xs) := by
  intro f h l a
  have hp : (placed (midR (l0 + 1) xs) (a + (enc ⟨"begin", l0 + 1, "", ""⟩).length)).filter (fun q => pdB q.1) = placed (midR (l0 + 1) xs) (a + (enc ⟨"begin", l0 + 1, "", ""⟩).length) := by
    rw [List.filter_eq_self]
    intro q hq
    exact midR_pd (placed_in hq)
  unfold dealR
  rw [placed, List.foldl_cons, placed_app, List.foldl_append]
  have e1 : pstep ⟨f, h, none, l⟩ ((⟨"begin", l0 + 1, "", ""⟩ : Row), a) = ⟨f, [], some a, l0 + 1⟩ := by simp [pstep]
  rw [e1, midR_fold]
  generalize a + (enc ⟨"begin", l0 + 1, "", ""⟩).length = a1 at *
  generalize a1 + (encs (midR (l0 + 1) xs)).length = a2 at *
  have b1 : pdB ⟨"begin", l0 + 1, "", ""⟩ = false := by
    have : ¬ ("begin" : Str) = "put" ∧ ¬ ("begin" : Str) = "drop" := by decide +kernel
    simp [pdB, this]
  have b2 : pdB ⟨"end", l0 + 2 + xs.length, "", ""⟩ = false := by
    have : ¬ ("end" : Str) = "put" ∧ ¬ ("end" : Str) = "drop" := by decide +kernel
    simp [pdB, this]
  have b3 : ¬ ("end" : Str) = "begin" := by decide +kernel
  have hn : l0 + 2 + (xs.length : Int) = l0 + 1 + xs.length + 1 := by omega
  refine ⟨[] ++ placed (midR (l0 + 1) xs) a1, l0 + 2 + xs.length, ?_⟩
  rw [List.filter_cons_of_neg (by simp [b1]), List.filter_append, hp]
  simp only [placed, List.foldl_cons, List.foldl_nil, List.filter_cons, List.filter_nil, b2, Bool.false_eq_true, if_false, List.append_nil]
  unfold pstep
  simp [b3, hn]
end Lt

set_option Elab.async false
set_option linter.all false
set_option maxRecDepth 100000
/-! N18: what is learned, and the laws' own table, in plain Lean. -/
namespace Lt
open PySem L2
def pdOf (ps : List (Row × Nat)) : List (Row × Nat) := ps.filter fun q => pdB q.1
theorem whole_settled {rs : List Row} (w : WholeR rs) : settledOf (placed rs 0) = pdOf (placed rs 0) ∧ startOf (placed rs 0) = none := by
  obtain ⟨h, l, e⟩ := w [] [] 0 0
  unfold settledOf pF startOf
  rw [e]
  exact ⟨by simp [pdOf], rfl⟩
theorem tabF_learn : ∀ (rs : List Row) (t : List (Str × Loc)) (f a : Nat), tabF t (pdOf (placed rs a)) f = learnAll t rs f a
  | [], _, _, _ => rfl
  | r :: rs, t, f, a => by
    rw [placed, learnAll, ← tabF_learn rs]
    unfold pdOf tabF
    by_cases h : pdB r = true
    · rw [List.filter_cons_of_pos (by simpa using h), List.foldl_cons, if_pos h]
    · rw [List.filter_cons_of_neg (by simpa using h), if_neg h]
def Rise : Int → List Row → Prop
  | _, [] => True
  | l, r :: rs => r.n = l + 1 ∧ Rise (l + 1) rs
theorem lastF_rise : ∀ {rs : List Row} {l : Int} (a : Nat), Rise l rs → lastF l (placed rs a) = l + rs.length
  | [], l, a, _ => by simp [lastF, placed]
  | r :: rs, l, a, h => by
    have ih := lastF_rise (a + (enc r).length) h.2
    unfold lastF at ih ⊢
    rw [placed, List.foldl_cons]
    simp only [h.1]
    rw [if_pos (by omega), ih]
    simp
    omega
theorem lastN_rise : ∀ {rs : List Row} {l : Int}, Rise l rs → lastN rs l = l + rs.length
  | [], l, _ => by simp [lastN]
  | [r], l, h => by simp [lastN, h.1]
  | r :: r2 :: rs, l, h => by
    have ih := lastN_rise (rs := r2 :: rs) h.2
    unfold lastN at ih ⊢
    rw [List.getLast?_cons_cons]
    have e : ∀ (x y : Int), (((r2 :: rs).getLast?).map (·.n)).getD x = (((r2 :: rs).getLast?).map (·.n)).getD y := by
      intro x y
      rw [List.getLast?_eq_some_getLast (by simp)]
      rfl
    rw [e l (l + 1), ih]
    simp
    omega
theorem Rise.mid : ∀ (xs : List Deed) (l : Int), Rise l (midR l xs)
  | [], _ => trivial
  | x :: xs, l => ⟨by unfold deedR; cases x.2 <;> rfl, Rise.mid xs (l + 1)⟩
theorem Rise.app : ∀ {a b : List Row} {l : Int}, Rise l a → Rise (l + a.length) b → Rise l (a ++ b)
  | [], b, l, _, h => by simpa using h
  | r :: a, b, l, h1, h2 => ⟨h1.1, Rise.app h1.2 (by simp at h2; rwa [show l + 1 + (a.length : Int) = l + (a.length + 1) by omega])⟩
theorem Rise.deal (l : Int) (xs : List Deed) : Rise l (dealR l xs) := by
  refine ⟨rfl, Rise.app (Rise.mid xs (l + 1)) ⟨?_, trivial⟩⟩
  simp [midR_len]
  omega
/-- the laws' own table, by rows -/
def mTab (t : List (Str × MLoc)) : List Row → Nat → Nat → List (Str × MLoc)
  | [], _, _ => t
  | r :: rs, f, a => mTab (if r.k = "put" then putA t r.key (r.n, f, a, r.val) else if r.k = "drop" then dropA t r.key else t) rs f (a + (enc r).length)
theorem mApp_eq : ∀ (rs : List Row) (s : Mst), rs.foldl mRow s = { s with cur := ⟨s.cur.num, s.cur.size + (encs rs).length, s.cur.rows ++ placed rs s.cur.size⟩, tab := mTab s.tab rs s.cur.num s.cur.size, last := lastN rs s.last }
  | [], s => by simp [placed, mTab, lastN]
  | r :: rs, s => by
    rw [List.foldl_cons, mApp_eq rs]
    have e : lastN rs (mRow s r).last = lastN (r :: rs) s.last := by
      unfold lastN
      cases rs with
      | nil => rfl
      | cons r2 rs => rw [List.getLast?_cons_cons, List.getLast?_eq_some_getLast (by simp)]; rfl
    rw [e]
    simp [mRow, placed, mTab, encs_cons, Nat.add_assoc]
def loc3 (l : MLoc) : Loc := (l.1, l.2.1, l.2.2.1)
/-- the program's table and the laws' own go on alike -/
theorem tab_alike : ∀ (rs : List Row) (t : List (Str × Loc)) (u : List (Str × MLoc)) (f a : Nat), (∀ k, lkA t k = (lkA u k).map loc3) → ∀ k, lkA (learnAll t rs f a) k = (lkA (mTab u rs f a) k).map loc3
  | [], _, _, _, _, h => h
  | r :: rs, t, u, f, a, h => by
    rw [learnAll, mTab]
    refine tab_alike rs _ _ f _ fun k => ?_
    unfold pdB learnT
    by_cases h1 : r.k = "put"
    · simp only [h1, if_true]
      simp
      rw [lk_put, lk_put]
      by_cases e : k = r.key
      · simp [e, loc3]
      · simp [e, h]
    · by_cases h2 : r.k = "drop"
      · have h3 : ¬ ("drop" : Str) = "put" := by decide +kernel
        simp [h2, h3]
        rw [lk_drop, lk_drop]
        by_cases e : k = r.key
        · simp [e]
        · simp [e, h]
      · simp [h1, h2]
        exact h k
/-- learning is alike on tables that are alike -/
theorem learn_alike : ∀ (rs : List Row) (t u : List (Str × Loc)) (f a : Nat), (∀ k, lkA t k = lkA u k) → ∀ k, lkA (learnAll t rs f a) k = lkA (learnAll u rs f a) k
  | [], _, _, _, _, h => h
  | r :: rs, t, u, f, a, h => by
    rw [learnAll, learnAll]
    refine learn_alike rs _ _ f _ fun k => ?_
    unfold learnT
    split
    · split
      · rw [lk_put, lk_put, h]
      · rw [lk_drop, lk_drop, h]
    · exact h k
end Lt

set_option Elab.async false
set_option linter.all false
set_option maxRecDepth 100000
/-! N19: a store, its disk, and the laws' own store: alike. -/
namespace Lt
open PySem L2
structure EntOk (d : Dk) (E : Ent) (rs : List Row) : Prop where
  rows : E.rows = placed rs 0
  size : E.size = (encs rs).length
  ok : ∀ r ∈ rs, rowOk r = true ∧ r.k ≠ "thin"
  whole : WholeR rs
  fl : ∃ su, lkA d.fs (logN E.num) = some ⟨encs rs, su⟩ ∧ su ≤ (encs rs).length
def wakeT (t : List (Str × Loc)) (es : List Ent) : List (Str × Loc) := es.foldl (fun t E => tabF t (pdOf E.rows) E.num) t
def wakeL (l : Int) (es : List Ent) : Int := es.foldl (fun l E => lastF l E.rows) l
structure R30 (s : Sto) (d : Dk) (M : Mst) : Prop where
  most : s.most = M.most
  room : d.room = none
  last : s.last = M.last
  nums : (M.old ++ [M.cur]).map (·.num) = List.range' 1 (M.old.length + 1)
  ents : ∀ E ∈ M.old ++ [M.cur], ∃ rs, EntOk d E rs
  keys : ∀ k ∈ keysA d.fs, ∃ E ∈ M.old ++ [M.cur], k = logN E.num
  tab : ∀ k, lkA s.tab k = (lkA M.tab k).map loc3
  wkt : ∀ k, lkA (wakeT [] (M.old ++ [M.cur])) k = lkA s.tab k
  wkl : wakeL 0 (M.old ++ [M.cur]) = M.last
  plc : ∀ k l, lkA M.tab k = some l → ∃ E ∈ M.old ++ [M.cur], ∃ rs e, E.rows = placed rs 0 ∧ E.num = l.2.1 ∧ rowAt (encs rs) l.2.2.1 = some (⟨"put", l.1, k, l.2.2.2⟩, e)
theorem mTab_in : ∀ (rs : List Row) (u : List (Str × MLoc)) (f a : Nat) (k : Str) (l : MLoc), lkA (mTab u rs f a) k = some l → lkA u k = some l ∨ ∃ (pre post : List Row) (r : Row), rs = pre ++ r :: post ∧ l = (r.n, f, a + (encs pre).length, r.val) ∧ r.k = ("put" : Str) ∧ r.key = k
  | [], u, f, a, k, l, h => .inl h
  | r :: rs, u, f, a, k, l, h => by
    rw [mTab] at h
    rcases mTab_in rs _ f _ k l h with h | ⟨pre, post, r2, e, el, ek, ekk⟩
    · by_cases h1 : r.k = "put"
      · rw [if_pos h1, lk_put] at h
        by_cases e : k = r.key
        · rw [if_pos e] at h
          cases h
          exact .inr ⟨[], rs, r, rfl, by simp, h1, e.symm⟩
        · rw [if_neg e] at h; exact .inl h
      · rw [if_neg h1] at h
        by_cases h2 : r.k = "drop"
        · rw [if_pos h2, lk_drop] at h
          by_cases e : k = r.key
          · rw [if_pos e] at h; cases h
          · rw [if_neg e] at h; exact .inl h
        · rw [if_neg h2] at h; exact .inl h
    · exact .inr ⟨r :: pre, post, r2, by rw [e]; rfl, by rw [el, encs_cons, List.length_append, Nat.add_assoc], ek, ekk⟩
theorem rowAt_more {bs more : List Int} (h1 : Bytes bs) (h2 : Bytes more) {a : Nat} {r : Row} {e : Nat} (h : rowAt bs a = some (r, e)) : rowAt (bs ++ more) a = some (r, e) := by
  obtain ⟨h3, h4, t, h5⟩ := (rowAt_iff h1).mp h
  refine (rowAt_iff (bytes_app.mpr ⟨h1, h2⟩)).mpr ⟨h3, h4, t ++ more, ?_⟩
  have : a ≤ bs.length := by have := (rowAt_ok h1 h).2; omega
  rw [List.drop_append_of_le_length this, h5, List.append_assoc]
theorem placed_inj : ∀ {a b : List Row} {p : Nat}, placed a p = placed b p → a = b
  | [], [], _, _ => rfl
  | [], _ :: _, _, h => by simp [placed] at h
  | _ :: _, [], _, h => by simp [placed] at h
  | x :: a, y :: b, p, h => by
    rw [placed, placed] at h
    injection h with h1 h2
    injection h1 with h1 _
    subst h1
    rw [placed_inj h2]
section
variable {s : Sto} {d : Dk} {M : Mst} {rs : List Row}
theorem R30.num (R : R30 s d M) : M.cur.num = M.old.length + 1 := by
  have h := R.nums
  have h2 := congrArg List.getLast? h
  simp [List.range'_concat] at h2
  omega
theorem R30.logs (R : R30 s d M) (hl : M.old.length ≤ 900) : LogsAre (keysA d.fs) (M.old.map (·.num) ++ [M.cur.num]) := by
  have h : M.old.map (·.num) ++ [M.cur.num] = List.range' 1 (M.old.length + 1) := by have := R.nums; rwa [List.map_append] at this
  refine ⟨by rw [h]; exact List.pairwise_lt_range', fun n => ?_⟩
  rw [h]
  constructor
  · intro hn
    have hb := List.mem_range'.mp hn
    rw [← h, show M.old.map (·.num) ++ [M.cur.num] = (M.old ++ [M.cur]).map (·.num) by simp] at hn
    obtain ⟨E, hE, rfl⟩ := List.mem_map.mp hn
    obtain ⟨rs, e⟩ := R.ents E hE
    obtain ⟨su, e1, _⟩ := e.fl
    refine ⟨by omega, by omega, mem_keys.mpr (by rw [e1]; rfl)⟩
  · rintro ⟨h1, h2, h3⟩
    obtain ⟨E, hE, e⟩ := R.keys _ h3
    rw [logN_inj e, ← h, show M.old.map (·.num) ++ [M.cur.num] = (M.old ++ [M.cur]).map (·.num) by simp]
    exact List.mem_map_of_mem hE
end
end Lt

set_option Elab.async false
set_option linter.all false
set_option maxRecDepth 100000
/-! N20: by no bounds: what a change does to a store over its disk. -/
namespace Lt
open PySem L2
section
variable {s : Sto} {d : Dk} {M : Mst} {rs rs0 : List Row}
theorem tWr_none {d : Dk} (h : d.room = none) (k : Str) (bs : List Int) : d.tWr k bs = (⟨none, putA d.fs k ⟨(d.getF k).bs ++ bs, (d.getF k).su⟩⟩, true) := by
  have wk : d.wrK bs = bs.length := by simp [Dk.wrK, h, useR, useK]
  unfold Dk.tWr
  rw [if_neg (by rw [h]; simp)]
  simp [Dk.wr, h, wk, useR]
theorem tSync_none {d : Dk} (h : d.room = none) (k : Str) : d.tSync k = (⟨none, putA d.fs k ⟨(d.getF k).bs, (d.getF k).bs.length⟩⟩, true) := by
  unfold Dk.tSync
  rw [if_neg (by rw [h]; simp)]
  simp [Dk.sync, h, useR]
/-- the disk behind a change: in the same file, or in a new one -/
def dSame (d : Dk) (c : Nat) (rs : List Row) : Dk := ⟨none, putA d.fs (logN c) ⟨(d.getF (logN c)).bs ++ encs rs, (d.getF (logN c)).su⟩⟩
def dNew (d : Dk) (c : Nat) (rs : List Row) : Dk := ⟨none, putA (putA d.fs (logN c) ⟨(d.getF (logN c)).bs, (d.getF (logN c)).bs.length⟩) (logN (c + 1)) ⟨encs rs, 0⟩⟩
def full (s : Sto) (d : Dk) (c : Nat) (rs : List Row) : Prop := 0 < (d.getF (logN c)).bs.length ∧ s.most < (d.getF (logN c)).bs.length + (encs rs).length
theorem app_same {c : Nat} (h : d.room = none) (hf : ¬ full s d c rs) : appZ s d c rs = (({ s with last := lastN rs s.last, tab := learnAll s.tab rs c (d.getF (logN c)).bs.length }, dSame d c rs), true) := by
  unfold full at hf
  have rz : roomZ d c (encs rs).length s.most = (d, true) := by unfold roomZ; rw [if_neg hf]
  have rc : roomC d c (encs rs).length s.most = c := by unfold roomC; rw [if_neg hf]
  unfold appZ
  rw [rz, rc]
  simp only [if_true]
  rw [tWr_none h]
  simp [dSame]
theorem app_new {c : Nat} (h : d.room = none) (hf : full s d c rs) (hn : lkA d.fs (logN (c + 1)) = none) : appZ s d c rs = (({ s with last := lastN rs s.last, tab := learnAll s.tab rs (c + 1) 0 }, dNew d c rs), true) := by
  unfold full at hf
  have ne : ¬ logN (c + 1) = logN c := fun e => by have := logN_inj e; omega
  have g1 : lkA (putA d.fs (logN c) ⟨(d.getF (logN c)).bs, (d.getF (logN c)).bs.length⟩) (logN (c + 1)) = none := by rw [lk_put, if_neg ne]; exact hn
  have rz : roomZ d c (encs rs).length s.most = (⟨none, putA (putA d.fs (logN c) ⟨(d.getF (logN c)).bs, (d.getF (logN c)).bs.length⟩) (logN (c + 1)) ⟨[], 0⟩⟩, true) := by
    unfold roomZ
    rw [if_pos hf, tSync_none h]
    unfold andZ
    simp only [if_true]
    have gz : Dk.getF ⟨none, putA d.fs (logN c) ⟨(d.getF (logN c)).bs, (d.getF (logN c)).bs.length⟩⟩ (logN (c + 1)) = ⟨[], 0⟩ := by
      show (lkA (putA d.fs (logN c) ⟨(d.getF (logN c)).bs, (d.getF (logN c)).bs.length⟩) (logN (c + 1))).getD _ = _
      rw [g1]; rfl
    rw [tWr_none rfl, gz]
    rfl
  have rc : roomC d c (encs rs).length s.most = c + 1 := by unfold roomC; rw [if_pos hf]
  have gg : Dk.getF ⟨none, putA (putA d.fs (logN c) ⟨(d.getF (logN c)).bs, (d.getF (logN c)).bs.length⟩) (logN (c + 1)) ⟨[], 0⟩⟩ (logN (c + 1)) = ⟨[], 0⟩ := by
    unfold Dk.getF
    simp only
    rw [lk_put, if_pos rfl]
    rfl
  unfold appZ
  rw [rz, rc]
  simp only [if_true]
  rw [tWr_none rfl, gg]
  simp [dNew, putA_put]
/-- entries that stay, where files stay -/
theorem EntOk.fr {d d' : Dk} {E : Ent} {rs : List Row} (h : EntOk d E rs) (e : lkA d'.fs (logN E.num) = lkA d.fs (logN E.num)) : EntOk d' E rs := by
  obtain ⟨su, h1, h2⟩ := h.fl
  exact ⟨h.rows, h.size, h.ok, h.whole, su, by rw [e]; exact h1, h2⟩
theorem wakeT_app (t : List (Str × Loc)) (a b : List Ent) : wakeT t (a ++ b) = wakeT (wakeT t a) b := by simp [wakeT]
theorem wakeL_app (l : Int) (a b : List Ent) : wakeL l (a ++ b) = wakeL (wakeL l a) b := by simp [wakeL]
theorem pdOf_app (a b : List (Row × Nat)) : pdOf (a ++ b) = pdOf a ++ pdOf b := by simp [pdOf]
theorem tabF_app (t : List (Str × Loc)) (a b : List (Row × Nat)) (f : Nat) : tabF t (a ++ b) f = tabF (tabF t a f) b f := by simp [tabF]
theorem lastF_app (l : Int) (a b : List (Row × Nat)) : lastF l (a ++ b) = lastF (lastF l a) b := by simp [lastF]
theorem R30.cur (R : R30 s d M) : ∃ rs0, EntOk d M.cur rs0 ∧ (d.getF (logN M.cur.num)).bs = encs rs0 := by
  obtain ⟨rs0, e⟩ := R.ents M.cur (by simp)
  obtain ⟨su, h1, _⟩ := e.fl
  exact ⟨rs0, e, by simp [Dk.getF, h1]⟩
theorem R30.old_lt (R : R30 s d M) : ∀ E ∈ M.old, E.num ≤ M.old.length := by
  intro E hE
  have h : M.old.map (·.num) = List.range' 1 M.old.length := by
    have := R.nums
    rw [List.map_append, List.range'_concat] at this
    exact (List.append_inj' this rfl).1
  have := List.mem_map_of_mem (f := (·.num)) hE
  rw [h] at this
  have := List.mem_range'.mp this
  omega
/-- a change in the file that is written -/
theorem R30.same (R : R30 s d M) (w : WholeR rs) (ok : ∀ r ∈ rs, rowOk r = true ∧ r.k ≠ "thin") (rise : Rise s.last rs) (hf : ¬ full s d M.cur.num rs) :
    R30 { s with last := lastN rs s.last, tab := learnAll s.tab rs M.cur.num (d.getF (logN M.cur.num)).bs.length } (dSame d M.cur.num rs) (mApp M rs) := by
  obtain ⟨rs0, e0, b0⟩ := R.cur
  obtain ⟨su, hl, hsu⟩ := e0.fl
  have gf : d.getF (logN M.cur.num) = ⟨encs rs0, su⟩ := by simp [Dk.getF, hl]
  have hm : mRoom M (encs rs).length = M := by
    unfold mRoom
    rw [if_neg]
    unfold full at hf
    rw [b0, R.most] at hf
    rw [e0.size]
    exact hf
  have em : mApp M rs = { M with cur := ⟨M.cur.num, M.cur.size + (encs rs).length, M.cur.rows ++ placed rs M.cur.size⟩, tab := mTab M.tab rs M.cur.num M.cur.size, last := lastN rs M.last } := by
    unfold mApp
    rw [hm, mApp_eq]
  have sz : M.cur.size = (encs rs0).length := e0.size
  have epl : M.cur.rows ++ placed rs M.cur.size = placed (rs0 ++ rs) 0 := by rw [e0.rows, sz, placed_app]; simp
  rw [em, b0]
  have ol := R.old_lt
  have cn := R.num
  refine ⟨R.most, rfl, by show lastN rs s.last = lastN rs M.last; rw [R.last], ?_, ?_, ?_, ?_, ?_, ?_, ?_⟩
  · have := R.nums
    rw [List.map_append] at this
    show (M.old ++ [_]).map Ent.num = List.range' 1 (M.old.length + 1)
    rw [List.map_append]
    exact this
  · intro E hE
    rcases List.mem_append.mp hE with hE | hE
    · obtain ⟨rs1, e1⟩ := R.ents E (List.mem_append_left _ hE)
      have := ol E hE
      refine ⟨rs1, e1.fr ?_⟩
      show lkA (putA d.fs _ _) _ = _
      rw [lk_put, if_neg (fun z => by have := logN_inj z; omega)]
    · simp at hE
      subst hE
      refine ⟨rs0 ++ rs, epl, by simp [sz, encs_app], fun r hr => ?_, e0.whole.app w, su, ?_, by simp [encs_app]; omega⟩
      · rcases List.mem_append.mp hr with h | h
        · exact e0.ok r h
        · exact ok r h
      · show lkA (putA d.fs _ _) _ = _
        rw [lk_put, if_pos rfl, gf, encs_app]
  · intro k hk
    have hk : k ∈ keysA (putA d.fs (logN M.cur.num) ⟨(d.getF (logN M.cur.num)).bs ++ encs rs, (d.getF (logN M.cur.num)).su⟩) := hk
    rw [keys_put_in hl] at hk
    obtain ⟨E, hE, e⟩ := R.keys k hk
    rcases List.mem_append.mp hE with hE | hE
    · exact ⟨E, List.mem_append_left _ hE, e⟩
    · simp at hE
      subst hE
      exact ⟨_, List.mem_append_right _ (List.mem_singleton.mpr rfl), e⟩
  · intro k
    have := tab_alike rs s.tab M.tab M.cur.num (encs rs0).length R.tab k
    rw [← sz] at this
    rw [sz] at this
    simpa [sz] using this
  · intro k
    have h1 : wakeT [] (M.old ++ [M.cur]) = learnAll (wakeT [] M.old) rs0 M.cur.num 0 := by
      rw [wakeT_app]
      show tabF (wakeT [] M.old) (pdOf M.cur.rows) M.cur.num = _
      rw [e0.rows, tabF_learn]
    have h2 : wakeT [] (M.old ++ [⟨M.cur.num, M.cur.size + (encs rs).length, M.cur.rows ++ placed rs M.cur.size⟩]) = learnAll (learnAll (wakeT [] M.old) rs0 M.cur.num 0) rs M.cur.num (encs rs0).length := by
      rw [wakeT_app]
      show tabF (wakeT [] M.old) (pdOf (M.cur.rows ++ placed rs M.cur.size)) M.cur.num = _
      rw [epl, tabF_learn, learnAll_app, Nat.zero_add]
    show lkA (wakeT [] (M.old ++ [_])) k = _
    rw [h2]
    refine learn_alike rs _ _ _ _ (fun k => ?_) k
    rw [← h1]
    exact R.wkt k
  · have h1 := R.wkl
    rw [wakeL_app] at h1
    show wakeL 0 (M.old ++ [_]) = lastN rs M.last
    rw [wakeL_app]
    have h1 : lastF (wakeL 0 M.old) M.cur.rows = M.last := h1
    show lastF (wakeL 0 M.old) (M.cur.rows ++ placed rs M.cur.size) = _
    rw [lastF_app, h1]
    rw [R.last] at rise
    rw [lastF_rise _ rise, lastN_rise rise]
  · intro k l hkl
    have okb : ∀ r ∈ rs, rowOk r = true := fun r hr => (ok r hr).1
    have ok0 : ∀ r ∈ rs0, rowOk r = true := fun r hr => (e0.ok r hr).1
    rcases mTab_in rs M.tab _ _ k l hkl with h | ⟨pre, post, r, e, el, ek, ekk⟩
    · obtain ⟨E, hE, rs1, e1, q1, q2, q3⟩ := R.plc k l h
      rcases List.mem_append.mp hE with hE | hE
      · exact ⟨E, List.mem_append_left _ hE, rs1, e1, q1, q2, q3⟩
      · simp at hE
        subst hE
        have : rs1 = rs0 := placed_inj (q1.symm.trans e0.rows)
        subst this
        refine ⟨_, List.mem_append_right _ (List.mem_singleton.mpr rfl), rs1 ++ rs, e1, epl, q2, ?_⟩
        rw [encs_app]
        exact rowAt_more (encs_bytes ok0) (encs_bytes okb) q3
    · refine ⟨_, List.mem_append_right _ (List.mem_singleton.mpr rfl), rs0 ++ rs, M.cur.size + (encs pre).length + (enc r).length, epl, by rw [el], ?_⟩
      rw [el]
      have rok : rowOk r = true := okb r (by rw [e]; simp)
      have re := rowAt_enc (a := encs (rs0 ++ pre)) (b := encs post) rok
      have eb : encs (rs0 ++ pre) ++ (enc r ++ encs post) = encs (rs0 ++ rs) := by rw [e]; simp [encs_app, encs_cons]
      have ln : (encs (rs0 ++ pre)).length = M.cur.size + (encs pre).length := by rw [encs_app, List.length_append, sz]
      rw [eb, ln] at re
      rw [re]
      obtain ⟨rk, rn, rkey, rval⟩ := r
      simp only at ek ekk
      subst ek ekk
      rfl
end
end Lt

set_option Elab.async false
set_option linter.all false
set_option maxRecDepth 100000
/-! N21: a change in a new file keeps a store and the laws' own alike. -/
namespace Lt
open PySem L2
section
variable {s : Sto} {d : Dk} {M : Mst} {rs rs0 : List Row}
theorem R30.all_le (R : R30 s d M) : ∀ E ∈ M.old ++ [M.cur], E.num ≤ M.cur.num := by
  intro E hE
  have h := R.num
  rcases List.mem_append.mp hE with hE | hE
  · have := R.old_lt E hE; omega
  · simp at hE; rw [hE]; exact Nat.le_refl _
theorem R30.no_next (R : R30 s d M) : lkA d.fs (logN (M.cur.num + 1)) = none := by
  rw [lk_none]
  intro h
  obtain ⟨E, hE, e⟩ := R.keys _ h
  have := R.all_le E hE
  have := logN_inj e
  omega
theorem R30.fresh (R : R30 s d M) (w : WholeR rs) (ok : ∀ r ∈ rs, rowOk r = true ∧ r.k ≠ "thin") (rise : Rise s.last rs) (hf : full s d M.cur.num rs) :
    R30 { s with last := lastN rs s.last, tab := learnAll s.tab rs (M.cur.num + 1) 0 } (dNew d M.cur.num rs) (mApp M rs) := by
  obtain ⟨rs0, e0, b0⟩ := R.cur
  obtain ⟨su, hl, hsu⟩ := e0.fl
  have gf : d.getF (logN M.cur.num) = ⟨encs rs0, su⟩ := by simp [Dk.getF, hl]
  have hm : mRoom M (encs rs).length = { M with old := M.old ++ [M.cur], cur := ⟨M.cur.num + 1, 0, []⟩ } := by
    unfold mRoom
    rw [if_pos]
    unfold full at hf
    rw [b0, R.most] at hf
    rw [e0.size]
    exact hf
  have em : mApp M rs = { M with old := M.old ++ [M.cur], cur := ⟨M.cur.num + 1, 0 + (encs rs).length, [] ++ placed rs 0⟩, tab := mTab M.tab rs (M.cur.num + 1) 0, last := lastN rs M.last } := by
    unfold mApp
    rw [hm, mApp_eq]
  rw [em]
  have cn := R.num
  have al := R.all_le
  have ne : ∀ n, n ≤ M.cur.num → ¬ logN n = logN (M.cur.num + 1) := fun n h z => by have := logN_inj z; omega
  have lk' : ∀ k, lkA (dNew d M.cur.num rs).fs k = if k = logN (M.cur.num + 1) then some ⟨encs rs, 0⟩ else if k = logN M.cur.num then some ⟨encs rs0, (encs rs0).length⟩ else lkA d.fs k := by
    intro k
    show lkA (putA (putA _ _ _) _ _) k = _
    rw [lk_put, lk_put, gf]
  refine ⟨R.most, rfl, by show lastN rs s.last = lastN rs M.last; rw [R.last], ?_, ?_, ?_, ?_, ?_, ?_, ?_⟩
  · show ((M.old ++ [M.cur]) ++ [_]).map Ent.num = List.range' 1 ((M.old ++ [M.cur]).length + 1)
    rw [List.map_append, List.length_append, List.length_singleton, List.range'_concat (s := 1) (n := M.old.length + 1)]
    have := R.nums
    rw [show (M.old ++ [M.cur]).map Ent.num = List.range' 1 (M.old.length + 1) from this]
    simp
    omega
  · intro E hE
    rcases List.mem_append.mp hE with hE | hE
    · obtain ⟨rs1, e1⟩ := R.ents E hE
      have hle := al E hE
      obtain ⟨su1, f1, f2⟩ := e1.fl
      refine ⟨rs1, e1.rows, e1.size, e1.ok, e1.whole, ?_⟩
      rw [lk', if_neg (ne _ hle)]
      by_cases h : logN E.num = logN M.cur.num
      · rw [if_pos h]
        rw [h, hl] at f1
        injection f1 with f1
        injection f1 with f1 f3
        refine ⟨(encs rs0).length, by rw [f1], by rw [f1]; exact Nat.le_refl _⟩
      · rw [if_neg h]
        exact ⟨su1, f1, f2⟩
    · simp at hE
      subst hE
      refine ⟨rs, by simp, by simp, ok, w, 0, ?_, by omega⟩
      rw [lk', if_pos rfl]
  · intro k hk
    rw [mem_keys, lk'] at hk
    by_cases h1 : k = logN (M.cur.num + 1)
    · exact ⟨_, List.mem_append_right _ (List.mem_singleton.mpr rfl), h1⟩
    · rw [if_neg h1] at hk
      by_cases h2 : k = logN M.cur.num
      · exact ⟨M.cur, List.mem_append_left _ (by simp), h2⟩
      · rw [if_neg h2] at hk
        obtain ⟨E, hE, e⟩ := R.keys k (mem_keys.mpr hk)
        exact ⟨E, List.mem_append_left _ hE, e⟩
  · exact tab_alike rs s.tab M.tab (M.cur.num + 1) 0 R.tab
  · intro k
    show lkA (wakeT [] ((M.old ++ [M.cur]) ++ [_])) k = _
    rw [wakeT_app]
    show lkA (tabF (wakeT [] (M.old ++ [M.cur])) (pdOf ([] ++ placed rs 0)) (M.cur.num + 1)) k = _
    rw [List.nil_append, tabF_learn]
    exact learn_alike rs _ _ _ _ R.wkt k
  · have h1 := R.wkl
    show wakeL 0 ((M.old ++ [M.cur]) ++ [_]) = lastN rs M.last
    rw [wakeL_app, h1]
    show lastF M.last ([] ++ placed rs 0) = _
    rw [R.last] at rise
    rw [List.nil_append, lastF_rise _ rise, lastN_rise rise]
  · intro k l hkl
    have okb : ∀ r ∈ rs, rowOk r = true := fun r hr => (ok r hr).1
    rcases mTab_in rs M.tab _ _ k l hkl with h | ⟨pre, post, r, e, el, ek, ekk⟩
    · obtain ⟨E, hE, rs1, e1, q1, q2, q3⟩ := R.plc k l h
      exact ⟨E, List.mem_append_left _ hE, rs1, e1, q1, q2, q3⟩
    · refine ⟨_, List.mem_append_right _ (List.mem_singleton.mpr rfl), rs, (encs pre).length + (enc r).length, by simp, by rw [el], ?_⟩
      rw [el]
      have rok : rowOk r = true := okb r (by rw [e]; simp)
      have re := rowAt_enc (a := encs pre) (b := encs post) rok
      have eb : encs pre ++ (enc r ++ encs post) = encs rs := by rw [e]; simp [encs_app, encs_cons]
      rw [eb] at re
      simp only [Nat.zero_add]
      rw [re]
      obtain ⟨rk, rn, rkey, rval⟩ := r
      simp only at ek ekk
      subst ek ekk
      rfl
/-- a whole change keeps them alike -/
theorem R30.app (R : R30 s d M) (w : WholeR rs) (ok : ∀ r ∈ rs, rowOk r = true ∧ r.k ≠ "thin") (rise : Rise s.last rs) :
    (appZ s d M.cur.num rs).2 = true ∧ R30 (appZ s d M.cur.num rs).1.1 (appZ s d M.cur.num rs).1.2 (mApp M rs) := by
  by_cases hf : full s d M.cur.num rs
  · rw [app_new R.room hf R.no_next]
    exact ⟨rfl, R.fresh w ok rise hf⟩
  · rw [app_same R.room hf]
    exact ⟨rfl, R.same w ok rise hf⟩
end
end Lt

set_option Elab.async false
set_option linter.all false
set_option maxRecDepth 100000
/-! N22: a store woken over a disk that is alike to the laws' own store. -/
namespace Lt
open PySem L2
section
variable {s : Sto} {d : Dk} {M : Mst} {rs rs0 : List Row}
theorem logOf_encs {rs : List Row} (h : ∀ r ∈ rs, rowOk r = true) : logOf (encs rs) = (placed rs 0, (encs rs).length) := by
  have := logOf_stop (rs := rs) (t := []) h (by decide)
  rwa [List.append_nil] at this
theorem thinAt_encs {rs : List Row} (h : ∀ r ∈ rs, rowOk r = true ∧ r.k ≠ "thin") : thinAt (encs rs) = false := by
  have okb : Bytes (encs rs) := encs_bytes fun r hr => (h r hr).1
  unfold thinAt
  cases e : rowAt ((encs rs).take 12) 0 with
  | none => rfl
  | some q =>
    obtain ⟨r, a⟩ := q
    obtain ⟨h1, h2, t, h3⟩ := (rowAt_iff (okb.take 12)).mp e
    rw [List.drop_zero] at h3
    have hd : (encs rs).drop 0 = enc r ++ (t ++ (encs rs).drop 12) := by
      rw [List.drop_zero, ← List.append_assoc, ← h3, List.take_append_drop]
    have hr := rowAt_at h1 hd
    cases rs with
    | nil =>
      have h4 := (rowAt_ok okb hr).2
      simp at h4
      rw [h4.2] at h4
      simp at h4
    | cons r0 rs =>
      have hd0 : (encs (r0 :: rs)).drop 0 = enc r0 ++ encs rs := by rw [List.drop_zero, encs_cons]
      have hr0 := rowAt_at (h r0 (by simp)).1 hd0
      rw [hr0] at hr
      injection hr with hr
      injection hr with hr _
      subst hr
      exact decide_eq_false (h r0 (by simp)).2
theorem thinF_none {rs : List Row} (h : ∀ r ∈ rs, r.k ≠ "thin") : ∀ (t : Int) (a : Nat), thinF t (placed rs a) = t := by
  intro t a
  unfold thinF
  induction rs generalizing a with
  | nil => rfl
  | cons r rs ih =>
    rw [placed, List.foldl_cons]
    simp only
    rw [if_neg (h r (by simp))]
    exact ih (fun q hq => h q (by simp [hq])) _
theorem R30.plain (R : R30 s d M) (hl : M.old.length ≤ 900) : PlainD d (M.old.map (·.num) ++ [M.cur.num]) := by
  refine ⟨R.logs hl, fun k hk => ?_, fun i v hi hv => ?_⟩
  · obtain ⟨E, hE, e⟩ := R.keys k hk
    refine ⟨E.num, ?_, e⟩
    rw [show M.old.map (·.num) ++ [M.cur.num] = (M.old ++ [M.cur]).map Ent.num by simp]
    exact List.mem_map_of_mem hE
  · rw [show M.old.map (·.num) ++ [M.cur.num] = (M.old ++ [M.cur]).map Ent.num by simp] at hi
    obtain ⟨E, hE, rfl⟩ := List.mem_map.mp hi
    obtain ⟨rs, e⟩ := R.ents E hE
    obtain ⟨su, f1, f2⟩ := e.fl
    rw [f1] at hv
    cases hv
    have lo := logOf_encs fun r hr => (e.ok r hr).1
    simp only
    rw [lo]
    exact ⟨rfl, (whole_settled e.whole).2, thinAt_encs e.ok⟩
theorem wake_ents : ∀ (es : List Ent) (s : Sto), (∀ E ∈ es, ∃ rs, EntOk d E rs) → wakeS s d (es.map Ent.num) = { s with last := wakeL s.last es, tab := wakeT s.tab es }
  | [], s, _ => rfl
  | E :: es, s, h => by
    obtain ⟨rs, e⟩ := h E (by simp)
    obtain ⟨su, f1, f2⟩ := e.fl
    have gf : d.getF (logN E.num) = ⟨encs rs, su⟩ := by simp [Dk.getF, f1]
    have lo := logOf_encs fun r hr => (e.ok r hr).1
    have eo : openS s (logOf (d.getF (logN E.num)).bs).1 E.num = { s with last := lastF s.last E.rows, tab := tabF s.tab (pdOf E.rows) E.num } := by
      rw [gf]
      simp only
      rw [lo]
      unfold openS
      simp only
      rw [(whole_settled e.whole).1, thinF_none (fun r hr => (e.ok r hr).2), e.rows]
    unfold wakeS
    rw [List.map_cons, List.foldl_cons, eo]
    exact wake_ents es _ fun E' hE => h E' (by simp [hE])
/-- woken anew, a store is alike again -/
theorem R30.woken (R : R30 s d M) : R30 (wakeS (sto0 s.most) d (M.old.map (·.num) ++ [M.cur.num])) d M := by
  have e := wake_ents (d := d) (M.old ++ [M.cur]) (sto0 s.most) R.ents
  rw [show M.old.map (·.num) ++ [M.cur.num] = (M.old ++ [M.cur]).map Ent.num by simp, e]
  refine ⟨R.most, R.room, ?_, R.nums, R.ents, R.keys, fun k => ?_, fun k => rfl, R.wkl, R.plc⟩
  · exact R.wkl
  · show lkA (wakeT [] (M.old ++ [M.cur])) k = _
    rw [R.wkt, R.tab]
end
end Lt

set_option Elab.async false
set_option linter.all false
set_option maxRecDepth 100000
/-! S2: what a law's drawing comes to. -/
namespace Lt
open PySem L2
theorem sp_cell (ns : List Int) (k : Nat) (m : Mem) : m__law_cell [scr ns, .int k] m = .ok (.int (cellv ns k)) m := by
  refine runP_ok rfl rfl ?_
  unfold b__law_cell
  rw [ws_sSeq, ws_sIf]
  simp only [evOf, scr, List.replicate]
  cases ns with
  | nil => simp [cellv]
  | cons n r =>
    have hk : k % (r.length + 1) < (n :: r).length := by simp; exact Nat.mod_lt _ (by omega)
    have e : (k : Int) % ((r.length : Int) + 1) = ((k % (r.length + 1) : Nat) : Int) := by simp
    have a : atI (D.int n :: r.map .int) ((k : Int) % ((r.length : Int) + 1)) = some (.int ((n :: r)[k % (r.length + 1)])) := by
      rw [e]
      refine atI_nat ?_
      rw [← List.map_cons (f := D.int), List.getElem?_map, List.getElem?_eq_getElem hk]; rfl
    simp [a, cellv]
    rw [List.getElem?_eq_getElem hk]; rfl
theorem sp_mix (ns : List Int) (k : Nat) (m : Mem) : m__law_mix [scr ns, .int k] m = .ok (.int (mixv ns k)) m := by
  refine runP_ok rfl rfl ?_
  have hc := sp_cell ns k m
  unfold b__law_mix
  simp only [ws_sSeq, evOf, List.replicate]
  have h1 : 0 ≤ (cellv ns k + 104729 * ((k : Int) + 1)) % 4294967291 := Int.emod_nonneg _ (by decide)
  have h2 : (cellv ns k + 104729 * ((k : Int) + 1)) % 4294967291 < 4294967291 := Int.emod_lt_of_pos _ (by decide)
  have hd : ∀ a : Int, 0 ≤ a % 4294967279 / 64 ∧ a % 4294967279 / 64 < 67108865 := fun a => by omega
  simp [hc, mixv]
  omega
theorem sp_draw (ns : List Int) (k : Nat) (r : Mem) {b : Int} (hb : 0 < b) (hk : k ≤ 1000000) : m__law_draw [scr ns, .ref 0, .int b] (U k :: r) = .ok (.int (dv ns k b)) (U (k + 1) :: r) := by
  refine wp_eq ?_
  refine wp_runF rfl ?_
  have hm : ∀ k, m__law_mix [scr ns, .int ((k : Nat) : Int)] (U k :: r) = .ok (.int (mixv ns k)) (U k :: r) := fun k => sp_mix ns k _
  have e : (Cell.lst (List.replicate k (D.int 0) ++ [D.int 0])) = U (k + 1) := by simp [U, List.replicate_succ']
  unfold b__law_draw
  rw [ws_sSeq]
  simp only [evOf, List.replicate]
  have hk2 : k < 16777216 := by omega
  have e2 : m__law_mix [scr ns, .int (((k + 1 : Nat) : Int))] (U (k + 1) :: r) = .ok (.int (mixv ns (k + 1))) (U (k + 1) :: r) := sp_mix ns (k + 1) _
  simp at e2
  simp [U, hk2]
  rw [e]
  simp [e2, hb, dv]
  rfl
theorem sp_pick (ns : List Int) (k : Nat) (r : Mem) (xs : List D) (hx : 0 < xs.length) (hl : xs.length ≤ 16777216) (hk : k ≤ 1000000) : ∃ d, d ∈ xs ∧ m__law_pick [scr ns, .ref 0, .lst xs] (U k :: r) = .ok d (U (k + 1) :: r) := by
  obtain ⟨h1, h2⟩ := dv_rng ns k (b := (xs.length : Int)) (by omega)
  obtain ⟨j, hj⟩ := Int.eq_ofNat_of_zero_le h1
  have hj2 : j < xs.length := by omega
  refine ⟨xs[j], List.getElem_mem _, wp_eq (wp_runF rfl ?_)⟩
  have hd := sp_draw ns k r (b := (xs.length : Int)) (by omega) hk
  unfold b__law_pick
  simp only [evOf, List.replicate]
  simp [hd, hj, atI_at hj2]
/-- drawn bytes -/
theorem wp_drawn (ns : List Int) (k n : Nat) (r : Mem) (hk : k + n ≤ 1000000) (ev : Ev) (i : Nat) (hi : 2 ≤ i) (h0 : ev[0]? = some (some (scr ns))) (h1 : ev[1]? = some (some (.ref 0))) {Q : List D → Mem → Prop} {X : Ecl → Mem → Prop}
    (q : ∀ bs : List Int, bs.length = n → Bytes bs → Q (bs.map .int) (U (k + n) :: r)) :
    wp (lcGo (fun _ => True) (gName i) tYes (eCall m__law_draw (aCons (eVar 0) (aCons (eVar 1) (aCons (eC (.int 256)) aNil)))) ev (rngI 0 (n : Int)) [] (U k :: r)) Q X := by
  refine wp_lcGo (fun j acc m => ∃ bs : List Int, bs.length = j ∧ Bytes bs ∧ acc = bs.map .int ∧ m = U (k + j) :: r) (fun _ _ _ _ _ => trivial) ?_ ?_ ⟨[], rfl, bytes_nil, rfl, rfl⟩
  · rintro j acc m hj ⟨bs, hl, hb, rfl, rfl⟩
    rw [rng0_len] at hj
    refine ⟨_, rfl, ?_⟩
    have hd := sp_draw ns (k + j) r (b := 256) (by decide) (by omega)
    have hr := dv_rng ns (k + j) (b := 256) (by decide)
    have v0 : ∀ d m, eVar 0 (ev.set i (some d)) m = .ok (scr ns) m := by
      intro d m
      unfold eVar
      rw [List.getElem?_set_ne (by omega), h0]
    have v1 : ∀ d m, eVar 1 (ev.set i (some d)) m = .ok (.ref 0) m := by
      intro d m
      unfold eVar
      rw [List.getElem?_set_ne (by omega), h1]
    simp [v0, v1, hd]
    exact ⟨by omega, bs ++ [dv ns (k + j) 256], by simp [hl], bytes_app.mpr ⟨hb, by simpa [bytes_cons, bytes_nil] using hr⟩, by simp, rfl⟩
  · rintro acc m ⟨bs, hl, hb, rfl, rfl⟩
    rw [rng0_len] at hl ⊢
    exact q bs hl hb
theorem pick_lists (ns : List Int) (k : Nat) (r : Mem) {xs : List D} (hc : chkL xs = true) (h0 : 0 < xs.length) (h1 : xs.length ≤ 16777216) (hk : k ≤ 900000) {Q : D → Mem → Prop} {X : Ecl → Mem → Prop} (q : ∀ L : List Int, Bytes L → L.length ≤ 420 → Q (.lst (L.map .int)) (U (k + 1) :: r)) : wp (m__law_pick [scr ns, .ref 0, .lst xs] (U k :: r)) Q X := by
  obtain ⟨d, hd, e⟩ := sp_pick ns k r xs h0 h1 (by omega)
  rw [e, wp_ok]
  have := List.all_eq_true.mp hc d hd
  cases d with
  | lst ys =>
    simp only [] at this
    cases h : allI ys with
    | none => rw [h] at this; simp at this
    | some L =>
      rw [h] at this
      simp at this
      rw [allI_map ys L h]
      exact q L (fun b hb => this.1 b hb) this.2
  | _ => simp at this
end Lt

set_option Elab.async false
set_option linter.all false
set_option maxRecDepth 100000
/-! S19: draws amid other cells; a file's bytes. -/
namespace Lt
open PySem L2
theorem town {m : Mem} {k : Nat} (h : m[0]? = some (U k)) : m = U k :: m.tail := by
  cases m with
  | nil => simp at h
  | cons c r => simp at h; rw [h]; rfl
theorem draw_at {ns : List Int} {m : Mem} {k : Nat} (h : m[0]? = some (U k)) {b : Int} (hb : 0 < b) (hk : k ≤ 1000000) : m__law_draw [scr ns, .ref 0, .int b] m = .ok (.int (dv ns k b)) (m.set 0 (U (k + 1))) := by
  have e := town h
  have s := sp_draw ns k m.tail hb hk
  rw [← e] at s
  rw [s]
  conv => rhs; rw [e]
  rfl
theorem pick_at {ns : List Int} {m : Mem} {k : Nat} (h : m[0]? = some (U k)) (xs : List D) (hx : 0 < xs.length) (hl : xs.length ≤ 16777216) (hk : k ≤ 1000000) : ∃ d, d ∈ xs ∧ m__law_pick [scr ns, .ref 0, .lst xs] m = .ok d (m.set 0 (U (k + 1))) := by
  have e := town h
  obtain ⟨d, h1, h2⟩ := sp_pick ns k m.tail xs hx hl hk
  rw [← e] at h2
  refine ⟨d, h1, ?_⟩
  rw [h2]
  conv => rhs; rw [e]
  rfl
theorem town_set {m : Mem} {k j : Nat} (h : m[0]? = some (U k)) : (m.set 0 (U j))[0]? = some (U j) := List.getElem?_set_self (lt_of h)
end Lt

set_option Elab.async false
set_option linter.all false
set_option maxRecDepth 100000
/-! N23: law k30: keys, values, deeds of a deal are drawn. -/
namespace Lt
open PySem L2
def six : List Str := ["a", "b", "c", "ab", "key 1", "zz"]
theorem six_ok {k : Str} (h : k ∈ six) : txtOk k 1 40 = true ∧ k.length ≤ 1000 := by
  simp [six] at h
  rcases h with rfl | rfl | rfl | rfl | rfl | rfl <;> decide +kernel
section
variable {ns : List Int} {m : Mem} {k : Nat}
theorem long_ok (n : Nat) (h : n ≤ 999999999) : txtOk ("long value " ++ numS n) 0 400 = true ∧ ("long value " ++ numS n : Str).length ≤ 100 := by
  have l9 := numS_len9 h
  have e4 : ("long value " : Str).length = 11 := by decide +kernel
  have el : ("long value " ++ numS n : Str).length = 11 + (numS n).length := by rw [PySem.Str.length_append, e4]
  refine ⟨?_, by omega⟩
  unfold txtOk
  rw [Bool.and_eq_true, Bool.and_eq_true, decide_eq_true_eq, decide_eq_true_eq, List.all_eq_true]
  refine ⟨⟨by omega, by omega⟩, fun c hc => ?_⟩
  rw [strApp_l] at hc
  rcases List.mem_append.mp hc with h | h
  · have : ∀ c ∈ ("long value " : Str).cps.toList, okc c = true := by decide +kernel
    exact this c h
  · obtain ⟨h1, h2⟩ := numS_digits n c h
    have : ∀ k : Fin 10, okc (48 + k.val) = true := by decide +kernel
    have t := this ⟨c - 48, by omega⟩
    simp only at t
    rwa [show 48 + (c - 48) = c by omega] at t
theorem rep_ok (n : Nat) (h : n < 60) : txtOk (repS "v" (n : Int)) 0 400 = true ∧ (repS "v" (n : Int)).length ≤ 100 := by
  have : ∀ k : Fin 60, txtOk (repS "v" ((k.val : Nat) : Int)) 0 400 = true ∧ (repS "v" ((k.val : Nat) : Int)).length ≤ 100 := by decide +kernel
  exact this ⟨n, h⟩
def SM (ns : List Int) (m : Mem) (k0 j : Nat) (ev : Ev) (m' : Mem) : Prop := ∃ (xs : List Deed) (k : Nat) (o3 : Option D), ev = [some (scr ns), some (.ref 0), some (.ref m.length), o3] ∧ xs.length ≤ j ∧ k ≤ k0 + 5 * j ∧ (∀ x ∈ xs, deedOk x ∧ x.1 ∈ six) ∧ m'[0]? = some (U k) ∧ m'[m.length]? = some (.lst (xs.map deedD)) ∧ Fr [0] m m'
end
end Lt

set_option Elab.async false
set_option linter.all false
set_option maxRecDepth 100000
/-! N24: law k30: a store tells what the law's own does. -/
namespace Lt
open PySem L2
theorem six_str {k : Str} (h : k ∈ six) : PyData.strOk k = true := by
  simp [six] at h
  rcases h with rfl | rfl | rfl | rfl | rfl | rfl <;> decide +kernel
theorem good_six {ks : List Str} (h : ∀ k ∈ ks, k ∈ six) : good 60 (strsD ks) = true := by
  show goods 59 (ks.map D.str) = true
  exact goods_map fun k hk => six_str (h k hk)
section
variable {m : Mem} {p n : Nat} {s : Sto} {d : Dk} {M : Mst} {x : Mix} {B : Nat}
theorem R30.keysP (R : R30 s d M) (n1 : (keysA s.tab).Nodup) (n2 : (keysA M.tab).Nodup) : (keysA s.tab).Perm (keysA M.tab) := by
  rw [List.perm_ext_iff_of_nodup n1 n2]
  intro k
  rw [mem_keys, mem_keys, R.tab]
  cases lkA M.tab k <;> simp
theorem six_len {ks : List Str} (nd : ks.Nodup) (h : ∀ k ∈ ks, k ∈ six) : ks.length ≤ 6 := by
  have : ∀ (ks ls : List Str), ks.Nodup → (∀ k ∈ ks, k ∈ ls) → ks.length ≤ ls.length := by
    intro ks
    induction ks with
    | nil => intro ls _ _; simp
    | cons a r ih =>
      intro ls nd h
      rw [List.nodup_cons] at nd
      have ha := h a List.mem_cons_self
      have h2 := ih (ls.erase a) nd.2 (fun k hk => (List.mem_erase_of_ne (fun e => nd.1 (by rw [← e]; exact hk))).mpr (h k (List.mem_cons_of_mem _ hk)))
      have h3 := List.length_erase_of_mem ha
      have h4 := List.length_pos_of_mem ha
      simp only [List.length_cons]
      omega
  exact this ks six nd h
/-- a key's row is where the table says -/
theorem R30.place (R : R30 s d M) {k : Str} {l : MLoc} (h : lkA M.tab k = some l) (hM : M.old.length ≤ 900) : PlaceOk s d k ⟨"put", l.1, k, l.2.2.2⟩ := by
  obtain ⟨E, hE, rs, e, q1, q2, q3⟩ := R.plc k l h
  obtain ⟨rs1, e1⟩ := R.ents E hE
  have : rs = rs1 := placed_inj (q1.symm.trans e1.rows)
  subst this
  obtain ⟨su, f1, f2⟩ := e1.fl
  have hle : E.num ≤ M.old.length + 1 := by
    have cn := R.num
    rcases List.mem_append.mp hE with z | z
    · have := R.old_lt E z; omega
    · simp at z; rw [z]; omega
  refine ⟨l.2.1, l.2.2.1, ⟨encs rs, su⟩, e, ?_, by omega, by rw [← q2]; exact f1, q3⟩
  rw [R.tab, h]
  rfl
theorem R30.valOk (R : R30 s d M) {k : Str} {l : MLoc} (h : lkA M.tab k = some l) : PyData.strOk l.2.2.2 = true := by
  obtain ⟨E, hE, rs, e, q1, q2, q3⟩ := R.plc k l h
  obtain ⟨rs1, e1⟩ := R.ents E hE
  have : rs = rs1 := placed_inj (q1.symm.trans e1.rows)
  subst this
  have hr := (rowAt_ok (encs_bytes fun r hr => (e1.ok r hr).1) q3).1
  exact strOk_of (rowOk_of hr).vc
theorem ents_pairs : ∀ {es : List (Nat × Nat)} {Es : List Ent}, All2 (EntAt m) es Es → ∃ ps : List (Nat × Ent × Nat), ps.map (fun q => D.ref q.1) = es.map (fun e => D.ref e.1) ∧ ps.map (fun q => q.2.1) = Es ∧ ∀ q ∈ ps, EntAt m (q.1, q.2.2) q.2.1
  | _, _, .nil => ⟨[], rfl, rfl, by simp⟩
  | e :: es, E :: Es, .cons h t => by
    obtain ⟨ps, h1, h2, h3⟩ := ents_pairs t
    refine ⟨(e.1, E, e.2) :: ps, by simp [h1], by simp [h2], fun q hq => ?_⟩
    rcases List.mem_cons.mp hq with rfl | hq
    · exact h
    · exact h3 q hq
theorem MoS.pairs (gm : MoS m x M) : ∃ ps : List (Nat × Ent × Nat), ps.map (fun q => D.ref q.1) = x.old.map (fun e => D.ref e.1) ++ [.ref x.b] ∧ ps.map (fun q => q.2.1) = M.old ++ [M.cur] ∧ ∀ q ∈ ps, EntAt m (q.1, q.2.2) q.2.1 := by
  obtain ⟨ps, h1, h2, h3⟩ := ents_pairs (gm.old.snoc gm.e)
  exact ⟨ps, by rw [h1]; simp, h2, h3⟩
end
end Lt

set_option Elab.async false
set_option linter.all false
set_option maxRecDepth 100000
/-! NB: names that compare; names made of numbers; names sorted. -/
namespace Lt
open PySem L2
theorem nameOk_str {k : Str} (h : nameOk k = true) : PyData.strOk k = true := by
  refine strOk_of (List.all_eq_true.mpr fun c hc => ?_)
  simp only [nameOk, Bool.and_eq_true, decide_eq_true_eq, List.all_eq_true] at h
  have hs := h.2 c hc
  have : ∀ c ∈ c_SMALL.cps.toList, okc c = true := by decide +kernel
  exact this c (by simpa [c_small] using hs)
theorem good_names {ks : List Str} (h : ∀ k ∈ ks, nameOk k = true) : good 60 (strsD ks) = true := by
  show goods 59 (ks.map D.str) = true
  exact goods_map fun k hk => nameOk_str (h k hk)
theorem wp_sortStrs {ks : List Str} {m : Mem} {Q : D → Mem → Prop} {X : Ecl → Mem → Prop} (h : ks.length < 64) (q : Q (strsD (sortS ks)) m) : wp (bSorted false [.lst (ks.map .str)] m) Q X := by
  have sl := sort_len ks
  cases ks with
  | nil =>
    show wp (bSorted false [.lst []] m) Q X
    have e := bSorted_I (nw := false) (x := .lst []) (xs := []) (is := []) (m := m) (Q := Q) (X := X) rfl rfl
    rw [e]
    have : sortI [] = [] := by simp [sortI]
    have h2 : sortS [] = [] := by simp [sortS]
    rw [h2] at q
    rw [this]
    simpa [strsD] using q
  | cons k r =>
    have e := bSorted_S (nw := false) (x := .lst ((k :: r).map .str)) (xs := (k :: r).map .str) (ss := k :: r) (m := m) (Q := Q) (X := X) rfl rfl (allS_mapS _) h
    rw [e]
    simp only [List.length_cons] at h sl
    simp
    exact ⟨by omega, q⟩
theorem sort_sort (ks : List Str) : sortS (sortS ks) = sortS ks := (sortS_uniq (.refl _) (sortS_pw _)).symm
theorem wp_logS {ev : Ev} {m : Mem} {i x : Nat} {Q : D → Mem → Prop} {X : Ecl → Mem → Prop} (h : ev[i]? = some (some (.int (x : Nat)))) (hx : x ≤ 999999999) (q : Q (.str (logN x)) m) : wp (eBin (oAdd false) (eC (.str "log.")) (eB1 bStr (aCons (eVar i) aNil)) ev m) Q X := by
  have h1 : x.log2 < 1920 := by
    by_cases z : x = 0
    · rw [z]; decide
    · have := (Nat.log2_lt (k := 30) z).mpr (by omega)
      omega
  have h2 : c_LOG.length = 4 := by decide +kernel
  have h3 := numS_len9 hx
  have h4 : Str.ofString (x : Int).repr = numS x := rfl
  have h5 : Str.ofString "log." = c_LOG := rfl
  have hv : eVar i ev m = .ok (.int (x : Nat)) m := by simp [eVar, h]
  simp
  rw [hv]
  simp [h1, h2, h4, h5]
  exact ⟨by omega, q⟩
end Lt

set_option Elab.async false
set_option linter.all false
set_option maxRecDepth 100000
/-! SB: a law's own bytes of a row. -/
namespace Lt
open PySem L2
end Lt

set_option Elab.async false
set_option linter.all false
set_option maxRecDepth 100000
/-! N25: law k30: what is on the disk in the end. -/
namespace Lt
open PySem L2
section
variable {m : Mem} {p n : Nat} {s : Sto} {d : Dk} {M : Mst} {x : Mix} {B : Nat}
theorem R30.names (R : R30 s d M) (nd : (keysA d.fs).Nodup) : (keysA d.fs).Perm ((M.old ++ [M.cur]).map fun E => logN E.num) := by
  have h2 : ((M.old ++ [M.cur]).map fun E => logN E.num).Nodup := by
    have e : ((M.old ++ [M.cur]).map fun E => logN E.num) = (List.range' 1 (M.old.length + 1)).map logN := by
      rw [← R.nums, List.map_map]; rfl
    rw [e]
    exact List.pairwise_map.mpr ((List.pairwise_lt_range' (s := 1) (n := M.old.length + 1)).imp fun h z => by have := logN_inj z; omega)
  rw [List.perm_ext_iff_of_nodup nd h2]
  intro k
  constructor
  · intro hk
    obtain ⟨E, hE, e⟩ := R.keys k hk
    rw [e]
    exact List.mem_map_of_mem (f := fun E : Ent => logN E.num) hE
  · intro hk
    obtain ⟨E, hE, rfl⟩ := List.mem_map.mp hk
    obtain ⟨rs, e⟩ := R.ents E hE
    obtain ⟨su, f1, _⟩ := e.fl
    exact mem_keys.mpr (by rw [f1]; rfl)
theorem placed_fst : ∀ (rs : List Row) (a i : Nat) (h : i < (placed rs a).length) (h2 : i < rs.length), ((placed rs a)[i]).1 = rs[i]
  | r :: rs, a, 0, _, _ => rfl
  | r :: rs, a, i + 1, h, h2 => placed_fst rs _ i (by simpa [placed] using h) (by simpa using h2)
end
end Lt

set_option Elab.async false
set_option linter.all false
set_option maxRecDepth 100000
/-! N26: law k30: bounds that are carried along. -/
namespace Lt
open PySem L2
section
variable {s : Sto} {d : Dk} {M : Mst} {B : Nat}
theorem R30.dok (R : R30 s d M) (nd : (keysA d.fs).Nodup) (hM : M.old.length ≤ 60) (hs : ∀ E ∈ M.old ++ [M.cur], E.size ≤ B) : Dok d B := by
  have pr := R.names nd
  refine ⟨fun k hk => ?_, ?_, fun k v hv => ?_⟩
  · obtain ⟨E, hE, rfl⟩ := R.keys k hk
    have cn := R.num
    have := R.all_le E hE
    exact logN_ok (by omega)
  · have := pr.length_eq
    rw [keys_len] at this
    simp at this
    omega
  · have hk : k ∈ keysA d.fs := mem_keys.mpr (by rw [hv]; rfl)
    obtain ⟨E, hE, rfl⟩ := R.keys k hk
    obtain ⟨rs, e⟩ := R.ents E hE
    obtain ⟨su, f1, f2⟩ := e.fl
    rw [f1] at hv
    cases hv
    have := hs E hE
    rw [e.size] at this
    exact ⟨encs_bytes fun r hr => (e.ok r hr).1, this, f2⟩
end
end Lt

set_option Elab.async false
set_option linter.all false
set_option maxRecDepth 100000
/-! N27: law k30: the laws' own store begins. -/
namespace Lt
open PySem L2
def mst0 (most : Nat) : Mst := ⟨most, [], ⟨1, 0, []⟩, [], 0⟩
def mix0 (k : Nat) : Mix := ⟨k + 4, k + 2, k + 3, [], k + 1, k⟩
def mem0 (m : Mem) (most : Nat) : Mem := m ++ [.lst [], .lst (entD ⟨1, 0, []⟩ m.length), .lst [.ref (m.length + 1)], .dic false [], .dic false (mofs (mix0 m.length) (mst0 most))]
theorem mem0_at (m : Mem) (most : Nat) : MoS (mem0 m most) (mix0 m.length) (mst0 most) := by
  refine ⟨by simp [mem0, mix0], by simp [mem0, mix0], by simp [mem0, mix0]; rfl, ⟨by simp [mem0, mix0, mst0], by simp [mem0, mix0, mst0]⟩, .nil, by simp [mst0, keysA], ?_⟩
  simp [mix0, Mix.all, Mix.mut]
end Lt

set_option Elab.async false
set_option linter.all false
set_option maxRecDepth 100000
/-! N28: law k30: alike at the start. -/
namespace Lt
open PySem L2
def d0 : Dk := ⟨none, [(logN 1, ⟨[], 0⟩)]⟩
theorem d0_eq : Dk.tWr ⟨none, []⟩ (logN 1) [] = (d0, true) := by
  rw [tWr_none rfl]
  rfl
theorem R30.start (most : Nat) : R30 (sto0 most) d0 (mst0 most) := by
  refine ⟨rfl, rfl, rfl, rfl, fun E hE => ?_, fun k hk => ?_, fun k => rfl, fun k => rfl, rfl, fun k l h => ?_⟩
  · simp [mst0] at hE
    subst hE
    refine ⟨[], rfl, rfl, by simp, .nil, 0, ?_, by simp⟩
    show lkA [(logN 1, (⟨[], 0⟩ : Fl))] (logN 1) = _
    rw [lkA_cons, if_pos rfl]
    rfl
  · simp [d0, keysA] at hk
    exact ⟨⟨1, 0, []⟩, by simp [mst0], hk⟩
  · simp [mst0, lkA_nil] at h
end Lt

set_option Elab.async false
set_option linter.all false
set_option maxRecDepth 100000
/-! N29: law k30: files stay small. -/
namespace Lt
open PySem L2
theorem mApp_small {M : Mst} {rs : List Row} {B : Nat} (h : ∀ E ∈ M.old ++ [M.cur], E.size ≤ B) (hm : M.most ≤ B) (hl : (encs rs).length ≤ B) : ∀ E ∈ (mApp M rs).old ++ [(mApp M rs).cur], E.size ≤ B := by
  intro E hE
  unfold mApp at hE
  rw [mApp_eq] at hE
  unfold mRoom at hE
  split at hE
  · rcases List.mem_append.mp hE with z | z
    · exact h E z
    · simp at z; rw [z]; simpa using hl
  · rename_i hc
    rcases List.mem_append.mp hE with z | z
    · exact h E (List.mem_append_left _ z)
    · simp at z
      rw [z]
      show M.cur.size + (encs rs).length ≤ B
      omega
end Lt

set_option Elab.async false
set_option linter.all false
set_option maxRecDepth 100000
/-! N31: what is where, and what is alike: a store, its disk, the laws' own store, the town of draws. -/
namespace Lt
open PySem L2
/-- what is where, and what is alike -/
structure G30 (m : Mem) (k p n : Nat) (x : Mix) (s : Sto) (d : Dk) (M : Mst) (j : Nat) : Prop where
  t : m[0]? = some (U k)
  sd : SD m p n s d
  mo : MoS m x M
  r : R30 s d M
  dj : ∀ i ∈ x.all, i ∉ stk p n ∧ i ≠ 0
  p0 : 0 ∉ stk p n
  most : 64 ≤ s.most ∧ s.most ≤ 1000
  old : M.old.length ≤ j
  rows : M.cur.rows.length ≤ 10 * j
  tabl : M.tab.length ≤ 10 * j
  six : ∀ i ∈ keysA s.tab, i ∈ six
  small : ∀ E ∈ M.old ++ [M.cur], E.size ≤ 3000
  last0 : 0 ≤ s.last
  last1 : s.last ≤ 10 * j
theorem G30.draw {m : Mem} {k p n j : Nat} {x : Mix} {s : Sto} {d : Dk} {M : Mst} (g : G30 m k p n x s d M j) (k' : Nat) : G30 (m.set 0 (U k')) k' p n x s d M j :=
  ⟨town_set g.t, g.sd.fr (Fr.set (ws := [0]) (by simp)) (fun i hi h => by simp at h; subst h; exact g.p0 hi), g.mo.fr (Fr.set (ws := [0]) (by simp)) (fun i hi h => by simp at h; exact (g.dj i hi).2 h), g.r, g.dj, g.p0, g.most, g.old, g.rows, g.tabl, g.six, g.small, g.last0, g.last1⟩
theorem G30.next {m : Mem} {k p n j : Nat} {x : Mix} {s : Sto} {d : Dk} {M : Mst} (g : G30 m k p n x s d M j) : G30 m k p n x s d M (j + 1) :=
  ⟨g.t, g.sd, g.mo, g.r, g.dj, g.p0, g.most, by have := g.old; omega, by have := g.rows; omega, by have := g.tabl; omega, g.six, g.small, g.last0, by have := g.last1; omega⟩
theorem learnAll_keys : ∀ (rs : List Row) (t : List (Str × Loc)) (f a : Nat), (∀ k ∈ keysA t, k ∈ six) → (∀ r ∈ rs, r.k = "put" → r.key ∈ six) → ∀ k ∈ keysA (learnAll t rs f a), k ∈ six
  | [], t, f, a, h, _ => h
  | r :: rs, t, f, a, h, hr => by
    rw [learnAll]
    refine learnAll_keys rs _ f _ ?_ fun q hq => hr q (by simp [hq])
    intro k hk
    split at hk
    · unfold learnT at hk
      split at hk
      · rename_i hp
        rw [mem_keys, lk_put] at hk
        by_cases e : k = r.key
        · rw [e]; exact hr r (by simp) hp
        · rw [if_neg e] at hk; exact h k (mem_keys.mpr hk)
      · rw [mem_keys, lk_drop] at hk
        by_cases e : k = r.key
        · rw [if_pos e] at hk; cases hk
        · rw [if_neg e] at hk; exact h k (mem_keys.mpr hk)
    · exact h k hk
theorem appZ_tab {s : Sto} {d : Dk} {M : Mst} {rs : List Row} (R : R30 s d M) : ∃ f a, (appZ s d M.cur.num rs).1.1 = { s with last := lastN rs s.last, tab := learnAll s.tab rs f a } := by
  by_cases hf : full s d M.cur.num rs
  · rw [app_new R.room hf R.no_next]; exact ⟨_, _, rfl⟩
  · rw [app_same R.room hf]; exact ⟨_, _, rfl⟩
theorem G30.change {m m1 m2 : Mem} {k p n j : Nat} {x x2 : Mix} {s : Sto} {d : Dk} {M : Mst} {rs : List Row} (g : G30 m k p n x s d M j) (hj : j ≤ 30)
    (w : WholeR rs) (ok : ∀ r ∈ rs, rowOk r = true ∧ r.k ≠ "thin") (rise : Rise s.last rs) (h6 : ∀ r ∈ rs, r.k = "put" → r.key ∈ Lt.six) (hl : rs.length ≤ 5)
    (sd : SD m1 p n (appZ s d M.cur.num rs).1.1 (appZ s d M.cur.num rs).1.2) (f1 : Fr (stk p n) m m1) (mo : MoS m2 x2 (mApp M rs)) (f2 : Fr x.all m1 m2) (hx : ∀ i ∈ x2.all, i ∈ x.all ∨ m1.length ≤ i) :
    G30 m2 k p n x2 (appZ s d M.cur.num rs).1.1 (appZ s d M.cur.num rs).1.2 (mApp M rs) (j + 1) := by
  obtain ⟨_, R⟩ := g.r.app w ok rise
  obtain ⟨fa, aa, es⟩ := appZ_tab (rs := rs) g.r
  have ln := lastN_rise rise
  have stl : ∀ i ∈ stk p n, i < m1.length := by
    intro i hi
    have a1 := lt_of sd.st.i
    have a2 := lt_of sd.st.t
    have a3 := sd.dk.at_.lt
    simp at hi
    rcases hi with rfl | rfl | rfl | rfl | rfl <;> omega
  have dj' : ∀ i ∈ stk p n, i ∉ x.all := fun i hi h => (g.dj i h).1 hi
  have m10 := lt_of (f1.at g.t g.p0)
  have mr : (mApp M rs).old.length ≤ M.old.length + 1 ∧ (mApp M rs).cur.rows.length ≤ M.cur.rows.length + rs.length ∧ (mApp M rs).tab.length ≤ M.tab.length + rs.length := by
    unfold mApp
    obtain ⟨a1, a2⟩ := mApp_len rs (mRoom M (encs rs).length)
    have a3 := mApp_old rs (mRoom M (encs rs).length)
    rw [a1, a3]
    unfold mRoom at *
    split
    · rename_i hc
      rw [if_pos hc] at a2
      simp at a2 ⊢
      exact a2
    · rename_i hc
      rw [if_neg hc] at a2
      exact ⟨by omega, Nat.le_refl _, a2⟩
  refine ⟨f2.at (f1.at g.t g.p0) (fun h => (g.dj 0 h).2 rfl), sd.fr f2 dj', mo, R, fun i hi => ?_, g.p0, ?_, ?_, ?_, ?_, ?_, ?_, ?_, ?_⟩
  · rcases hx i hi with h | h
    · exact g.dj i h
    · exact ⟨fun z => by have := stl i z; omega, by omega⟩
  · rw [es]; exact g.most
  · have := g.old; omega
  · have := g.rows; omega
  · have := g.tabl; omega
  · rw [es]
    exact learnAll_keys rs _ _ _ g.six h6
  · refine mApp_small g.small ?_ (by have := encs_len rs (fun r hr => (ok r hr).1); omega)
    have := g.most
    have e := g.r.most
    omega
  · rw [es]
    show 0 ≤ lastN rs s.last
    have := g.last0
    omega
  · rw [es]
    show lastN rs s.last ≤ _
    have := g.last1
    rw [ln]
    omega
theorem G30.tabs {m : Mem} {k p n j : Nat} {x : Mix} {s : Sto} {d : Dk} {M : Mst} (g : G30 m k p n x s d M j) : s.tab.length ≤ 6 := by
  have := six_len g.sd.st.nd g.six
  rwa [keys_len] at this
structure F30 (s : Sto) (d : Dk) (M : Mst) : Prop where
  ok : Dok d 3000
  F : LogsAre (keysA d.fs) (M.old.map (·.num) ++ [M.cur.num])
  hc : M.cur.num < 999999998
  hlen : d.fs.length < 63
  ms : Msm M
  h2 : s.last + 200 < 999999999
theorem G30.facts {m : Mem} {k p n j : Nat} {x : Mix} {s : Sto} {d : Dk} {M : Mst} (g : G30 m k p n x s d M j) (hj : j ≤ 30) : F30 s d M := by
  have a1 := g.old
  have a2 := g.rows
  have a3 := g.tabl
  have a4 := g.last0
  have a5 := g.last1
  have a6 := g.r.last
  have a7 := g.r.num
  have a8 := (g.r.names g.sd.dk.nd).length_eq
  rw [keys_len] at a8
  simp at a8
  exact ⟨g.r.dok g.sd.dk.nd (by omega) g.small, g.r.logs (by omega), by omega, by omega, ⟨by omega, by omega, by omega, by omega, by omega⟩, by omega⟩
theorem dealR_len (l : Int) (xs : List Deed) : (dealR l xs).length = xs.length + 2 := by
  simp [dealR, midR_len]
theorem midR_six : ∀ {xs : List Deed} {l : Int}, (∀ x ∈ xs, x.1 ∈ six) → ∀ r ∈ midR l xs, r.key ∈ six
  | [], l, h, r, hr => by simp [midR] at hr
  | x :: xs, l, h, r, hr => by
    rw [midR] at hr
    rcases List.mem_cons.mp hr with rfl | hr
    · have := h x (by simp)
      unfold deedR
      split <;> exact this
    · exact midR_six (fun y hy => h y (by simp [hy])) r hr
theorem midR_thin : ∀ {xs : List Deed} {l : Int}, ∀ r ∈ midR l xs, r.k ≠ "thin" := by
  intro xs l r hr e
  have := midR_pd hr
  unfold pdB at this
  rw [e] at this
  revert this
  decide +kernel
theorem R30.sync {s : Sto} {d : Dk} {M : Mst} (R : R30 s d M) : (d.tSync (logN M.cur.num)).2 = true ∧ R30 s (d.tSync (logN M.cur.num)).1 M := by
  obtain ⟨rs0, e0, b0⟩ := R.cur
  obtain ⟨su, f1, f2⟩ := e0.fl
  rw [tSync_none R.room]
  refine ⟨rfl, R.most, rfl, R.last, R.nums, fun E hE => ?_, fun k hk => R.keys k ?_, R.tab, R.wkt, R.wkl, R.plc⟩
  · obtain ⟨rs, e⟩ := R.ents E hE
    obtain ⟨su', h1, h2⟩ := e.fl
    refine ⟨rs, e.rows, e.size, e.ok, e.whole, ?_⟩
    show ∃ su, lkA (putA d.fs (logN M.cur.num) _) (logN E.num) = _ ∧ _
    rw [lk_put]
    by_cases c : logN E.num = logN M.cur.num
    · rw [if_pos c]
      rw [c, f1] at h1
      simp only [Option.some.injEq, Fl.mk.injEq] at h1
      rw [b0, h1.1]
      exact ⟨_, rfl, Nat.le_refl _⟩
    · rw [if_neg c]
      exact ⟨su', h1, h2⟩
  · have : keysA (putA d.fs (logN M.cur.num) ⟨(d.getF (logN M.cur.num)).bs, (d.getF (logN M.cur.num)).bs.length⟩) = keysA d.fs := keys_put_in f1
    rw [← this]
    exact hk
theorem G30.synced {m : Mem} {k p n j : Nat} {x : Mix} {s : Sto} {d : Dk} {M : Mst} (g : G30 m k p n x s d M j) : G30 (putDk n (d.tSync (logN M.cur.num)).1 m) k p n x s (d.tSync (logN M.cur.num)).1 M j := by
  have f : Fr (at3 n) m (putDk n (d.tSync (logN M.cur.num)).1 m) := putDr_fr
  have nd : (keysA (d.tSync (logN M.cur.num)).1.fs).Nodup := by
    rw [tSync_none g.r.room]
    exact nd_put g.sd.dk.nd
  have o3 : ∀ i, i ∈ at3 n → i ∈ stk p n := fun i hi => by simp at hi ⊢; omega
  exact ⟨f.at g.t (fun z => g.p0 (o3 _ z)), g.sd.disk nd, g.mo.fr f (fun i hi z => (g.dj i hi).1 (o3 _ z)), g.r.sync.2, g.dj, g.p0, g.most, g.old, g.rows, g.tabl, g.six, g.small, g.last0, g.last1⟩
theorem G30.anew {m m1 : Mem} {k p n j : Nat} {x : Mix} {s : Sto} {d : Dk} {M : Mst} (g : G30 m k p n x s d M j) (sd : SD m1 m.length n (wakeS (sto0 s.most) d (M.old.map (·.num) ++ [M.cur.num])) d) (f : Fr (stk m.length n) m m1) :
    G30 m1 k m.length n x (wakeS (sto0 s.most) d (M.old.map (·.num) ++ [M.cur.num])) d M j := by
  have R := g.r.woken
  have lt := g.mo.lt
  have m0 := lt_of g.t
  have nn : ∀ i, i ∈ stk m.length n → i ∈ stk p n ∨ m.length ≤ i := fun i hi => by simp at hi ⊢; omega
  have tl : (wakeS (sto0 s.most) d (M.old.map (·.num) ++ [M.cur.num])).last = s.last := R.last.trans g.r.last.symm
  have ms : (wakeS (sto0 s.most) d (M.old.map (·.num) ++ [M.cur.num])).most = s.most := R.most.trans g.r.most.symm
  have n0 : 0 ∉ stk m.length n := fun z => by
    rcases nn 0 z with h | h
    · exact g.p0 h
    · omega
  have nx : ∀ i ∈ x.all, i ∉ stk m.length n := fun i hi z => by
    rcases nn i z with h | h
    · exact (g.dj i hi).1 h
    · have := lt i hi
      omega
  refine ⟨f.at g.t n0, sd, g.mo.fr f nx, R, fun i hi => ⟨nx i hi, (g.dj i hi).2⟩, n0, by rw [ms]; exact g.most, g.old, g.rows, g.tabl, fun i hi => g.six i ?_, g.small, by rw [tl]; exact g.last0, by rw [tl]; exact g.last1⟩
  rw [mem_keys, R.tab] at hi
  rw [mem_keys, g.r.tab]
  exact hi
end Lt

set_option Elab.async false
set_option linter.all false
set_option maxRecDepth 100000
/-! N32: a store over a disk without bounds, told by a table of values. -/
namespace Lt
open PySem L2
def okKey (K : List Str) : Prop := K.length ≤ 60 ∧ ∀ k ∈ K, txtOk k 1 40 = true ∧ k.length ≤ 1000
structure H30 (K : List Str) (m : Mem) (p n : Nat) (s : Sto) (d : Dk) (M : Mst) (j : Nat) : Prop where
  sd : SD m p n s d
  r : R30 s d M
  most : 64 ≤ s.most ∧ s.most ≤ 1000
  old : M.old.length ≤ j
  keys : ∀ i ∈ keysA s.tab, i ∈ K
  small : ∀ E ∈ M.old ++ [M.cur], E.size ≤ 3000
  last0 : 0 ≤ s.last
  last1 : s.last ≤ 10 * j
  nd : (keysA M.tab).Nodup
theorem sub_len {ks K : List Str} (nd : ks.Nodup) (h : ∀ k ∈ ks, k ∈ K) : ks.length ≤ K.length := by
  induction ks generalizing K with
  | nil => simp
  | cons a r ih =>
    rw [List.nodup_cons] at nd
    have ha := h a List.mem_cons_self
    have h2 := ih (K := K.erase a) nd.2 (fun k hk => (List.mem_erase_of_ne (fun e => nd.1 (by rw [← e]; exact hk))).mpr (h k (List.mem_cons_of_mem _ hk)))
    have h3 := List.length_erase_of_mem ha
    have h4 := List.length_pos_of_mem ha
    simp only [List.length_cons]
    omega
section
variable {K : List Str} {m m1 : Mem} {p n j : Nat} {s : Sto} {d : Dk} {M : Mst}
theorem H30.fr {ws : List Nat} (g : H30 K m p n s d M j) (f : Fr ws m m1) (h : ∀ i ∈ stk p n, i ∉ ws) : H30 K m1 p n s d M j :=
  ⟨g.sd.fr f h, g.r, g.most, g.old, g.keys, g.small, g.last0, g.last1, g.nd⟩
theorem H30.next (g : H30 K m p n s d M j) : H30 K m p n s d M (j + 1) :=
  ⟨g.sd, g.r, g.most, by have := g.old; omega, g.keys, g.small, g.last0, by have := g.last1; omega, g.nd⟩
theorem H30.tabs (g : H30 K m p n s d M j) (hK : okKey K) : s.tab.length ≤ 60 := by
  have := sub_len g.sd.st.nd g.keys
  rw [keys_len] at this
  exact Nat.le_trans this hK.1
structure FH (s : Sto) (d : Dk) (M : Mst) : Prop where
  ok : Dok d 3000
  F : LogsAre (keysA d.fs) (M.old.map (·.num) ++ [M.cur.num])
  hc : M.cur.num < 999999998
  hlen : d.fs.length < 63
  h2 : s.last + 200 < 999999999
theorem H30.facts (g : H30 K m p n s d M j) (hj : j ≤ 60) : FH s d M := by
  have a1 := g.old
  have a5 := g.last1
  have a7 := g.r.num
  have a8 := (g.r.names g.sd.dk.nd).length_eq
  rw [keys_len] at a8
  simp at a8
  exact ⟨g.r.dok g.sd.dk.nd (by omega) g.small, g.r.logs (by omega), by omega, by omega, by omega⟩
theorem learnAll_in {K : List Str} : ∀ (rs : List Row) (t : List (Str × Loc)) (f a : Nat), (∀ k ∈ keysA t, k ∈ K) → (∀ r ∈ rs, r.k = "put" → r.key ∈ K) → ∀ k ∈ keysA (learnAll t rs f a), k ∈ K
  | [], t, f, a, h, _ => h
  | r :: rs, t, f, a, h, hr => by
    rw [learnAll]
    refine learnAll_in rs _ f _ ?_ fun q hq => hr q (by simp [hq])
    intro k hk
    split at hk
    · unfold learnT at hk
      split at hk
      · rename_i hp
        rw [mem_keys, lk_put] at hk
        by_cases e : k = r.key
        · rw [e]; exact hr r (by simp) hp
        · rw [if_neg e] at hk; exact h k (mem_keys.mpr hk)
      · rw [mem_keys, lk_drop] at hk
        by_cases e : k = r.key
        · rw [if_pos e] at hk; cases hk
        · rw [if_neg e] at hk; exact h k (mem_keys.mpr hk)
    · exact h k hk
theorem mRoom_tab (M : Mst) (k : Nat) : (mRoom M k).tab = M.tab ∧ (mRoom M k).old.length ≤ M.old.length + 1 := by
  unfold mRoom
  split <;> simp
theorem mApp_nd {M : Mst} (h : (keysA M.tab).Nodup) (rs : List Row) : (keysA (mApp M rs).tab).Nodup := by
  unfold mApp
  have : ∀ (rs : List Row) (M : Mst), (keysA M.tab).Nodup → (keysA (rs.foldl mRow M).tab).Nodup := by
    intro rs
    induction rs with
    | nil => intro M h; exact h
    | cons r rs ih => intro M h; exact ih _ (mRow_nd h r)
  exact this rs _ (by rw [(mRoom_tab M _).1]; exact h)
theorem H30.change {rs : List Row} (g : H30 K m p n s d M j) (w : WholeR rs) (ok : ∀ r ∈ rs, rowOk r = true ∧ r.k ≠ "thin") (rise : Rise s.last rs) (h6 : ∀ r ∈ rs, r.k = "put" → r.key ∈ K) (hl : rs.length ≤ 5)
    (sd : SD m1 p n (appZ s d M.cur.num rs).1.1 (appZ s d M.cur.num rs).1.2) :
    H30 K m1 p n (appZ s d M.cur.num rs).1.1 (appZ s d M.cur.num rs).1.2 (mApp M rs) (j + 1) := by
  obtain ⟨_, R⟩ := g.r.app w ok rise
  obtain ⟨fa, aa, es⟩ := appZ_tab (rs := rs) g.r
  have ln := lastN_rise rise
  have mo : (mApp M rs).old.length ≤ M.old.length + 1 := by
    unfold mApp
    rw [mApp_old]
    exact (mRoom_tab M _).2
  refine ⟨sd, R, ?_, ?_, ?_, ?_, ?_, ?_, mApp_nd g.nd rs⟩
  · rw [es]; exact g.most
  · have := g.old; omega
  · rw [es]
    exact learnAll_in rs _ _ _ g.keys h6
  · refine mApp_small g.small ?_ (by have := encs_len rs (fun r hr => (ok r hr).1); omega)
    have := g.most
    have e := g.r.most
    omega
  · rw [es]
    show 0 ≤ lastN rs s.last
    have := g.last0
    omega
  · rw [es]
    show lastN rs s.last ≤ _
    have := g.last1
    rw [ln]
    omega
/-! values -/
def vOf (M : Mst) (k : Str) : Option Str := (lkA M.tab k).map (·.2.2.2)
def nextV (v : Str → Option Str) (x : Deed) : Str → Option Str := fun k => if k = x.1 then x.2 else v k
def rowV (v : Str → Option Str) (r : Row) : Str → Option Str := if r.k = "put" then nextV v (r.key, some r.val) else if r.k = "drop" then nextV v (r.key, none) else v
theorem mRow_v (M : Mst) (r : Row) : vOf (mRow M r) = rowV (vOf M) r := by
  funext k
  unfold vOf mRow rowV
  simp only
  split
  · rw [lk_put]
    unfold nextV
    by_cases e : k = r.key <;> simp [e]
  · split
    · rw [lk_drop]
      unfold nextV
      by_cases e : k = r.key <;> simp [e]
    · rfl
theorem mApp_v (M : Mst) (rs : List Row) : vOf (mApp M rs) = rs.foldl rowV (vOf M) := by
  unfold mApp
  have h0 : vOf (mRoom M (encs rs).length) = vOf M := by funext k; unfold vOf; rw [(mRoom_tab M _).1]
  rw [← h0]
  have : ∀ (rs : List Row) (M : Mst), vOf (rs.foldl mRow M) = rs.foldl rowV (vOf M) := by
    intro rs
    induction rs with
    | nil => intro M; rfl
    | cons r rs ih => intro M; rw [List.foldl_cons, List.foldl_cons, ih, mRow_v]
  exact this rs _
theorem rowV_deed (v : Str → Option Str) (x : Deed) (l : Int) : rowV v (deedR x l) = nextV v x := by
  obtain ⟨k, o⟩ := x
  cases o with
  | none =>
    have h1 : ¬ (("drop" : Str) = "put") := by decide +kernel
    unfold rowV deedR
    simp only
    rw [if_neg h1, if_pos trivial]
  | some w =>
    unfold rowV deedR
    simp only
    rw [if_pos trivial]
theorem midR_v : ∀ (xs : List Deed) (l : Int) (v : Str → Option Str), (midR l xs).foldl rowV v = xs.foldl nextV v
  | [], _, _ => rfl
  | x :: xs, l, v => by
    rw [midR, List.foldl_cons, List.foldl_cons, rowV_deed, midR_v xs]
theorem dealR_v (xs : List Deed) (l : Int) (v : Str → Option Str) : (dealR l xs).foldl rowV v = xs.foldl nextV v := by
  have b : ∀ v : Str → Option Str, rowV v ⟨"begin", l + 1, "", ""⟩ = v := by
    intro v
    have h1 : ¬ (("begin" : Str) = "put") := by decide +kernel
    have h2 : ¬ (("begin" : Str) = "drop") := by decide +kernel
    unfold rowV
    simp only
    rw [if_neg h1, if_neg h2]
  have e : ∀ v : Str → Option Str, rowV v ⟨"end", l + 2 + xs.length, "", ""⟩ = v := by
    intro v
    have h1 : ¬ (("end" : Str) = "put") := by decide +kernel
    have h2 : ¬ (("end" : Str) = "drop") := by decide +kernel
    unfold rowV
    simp only
    rw [if_neg h1, if_neg h2]
  unfold dealR
  rw [List.foldl_cons, List.foldl_append, b, midR_v, List.foldl_cons, List.foldl_nil, e]
/-! deeds of a store -/
theorem appZ_last {rs : List Row} (R : R30 s d M) (rise : Rise s.last rs) : (appZ s d M.cur.num rs).1.1.last = s.last + rs.length ∧ (appZ s d M.cur.num rs).1.1.most = s.most ∧ (appZ s d M.cur.num rs).1.1.th = s.th ∧ (appZ s d M.cur.num rs).1.1.looks = s.looks ∧ (appZ s d M.cur.num rs).1.1.thinned = s.thinned := by
  obtain ⟨fa, aa, es⟩ := appZ_tab (rs := rs) R
  rw [es]
  exact ⟨lastN_rise rise, rfl, rfl, rfl, rfl⟩
theorem H30.put (g : H30 K m p n s d M j) (hj : j ≤ 60) (hK : okKey K) {k v : Str} (hk : k ∈ K) (hv : txtOk v 0 400 = true) {Q : D → Mem → Prop} {X : Ecl → Mem → Prop}
    (fin : ∀ m1 s1 d1, H30 K m1 p n s1 d1 (mApp M [⟨"put", s.last + 1, k, v⟩]) (j + 1) → Fr (stk p n) m m1 → s1.last = s.last + 1 → s1.most = s.most → Q (.int (s.last + 1)) m1) : wp (m_Store_put [.ref p, .str k, .str v] m) Q X := by
  have F := g.facts hj
  obtain ⟨w1, w2⟩ := hK.2 k hk
  have tl := g.tabs hK
  have v2 : v.length ≤ 1000 := by have := (txtOk_iff.mp hv).2.1; omega
  have ok : ∀ r ∈ [(⟨"put", s.last + 1, k, v⟩ : Row)], rowOk r = true ∧ r.k ≠ "thin" := by simp [putOk w1 hv (show 1 ≤ s.last + 1 by have := g.last0; omega) (by have := F.h2; omega)]
  have ri : Rise s.last [(⟨"put", s.last + 1, k, v⟩ : Row)] := ⟨rfl, trivial⟩
  obtain ⟨l1, l2, -⟩ := appZ_last g.r ri
  refine sp_put g.sd F.ok (by omega) F.F F.hc w1 w2 hv v2 g.last0 (by have := F.h2; omega) (by omega) F.hlen (fun m1 s1 f1 _ => ?_) (fun _ _ _ z => by rw [(g.r.app (WholeR.one (.inl rfl)) ok ri).1] at z; cases z)
  have g2 := g.change (WholeR.one (.inl rfl)) ok ri (by simp [hk]) (by simp) s1
  have l3 : (appZ s d M.cur.num [⟨"put", s.last + 1, k, v⟩]).1.1.last = s.last + 1 := by rw [l1]; rfl
  rw [l3]
  exact fin _ _ _ g2 f1 l3 l2
theorem H30.drop (g : H30 K m p n s d M j) (hj : j ≤ 60) (hK : okKey K) {k : Str} (hk : k ∈ K) {Q : D → Mem → Prop} {X : Ecl → Mem → Prop}
    (non : vOf M k = none → Q .non m)
    (fin : ∀ m1 s1 d1, (vOf M k).isSome = true → H30 K m1 p n s1 d1 (mApp M [⟨"drop", s.last + 1, k, ""⟩]) (j + 1) → Fr (stk p n) m m1 → s1.last = s.last + 1 → s1.most = s.most → Q (.int (s.last + 1)) m1) : wp (m_Store_drop [.ref p, .str k] m) Q X := by
  have F := g.facts hj
  obtain ⟨w1, w2⟩ := hK.2 k hk
  have tl := g.tabs hK
  have dok := dropOk w1 (show 1 ≤ s.last + 1 by have := g.last0; omega) (by have := F.h2; omega)
  have ok : ∀ r ∈ [(⟨"drop", s.last + 1, k, ""⟩ : Row)], rowOk r = true ∧ r.k ≠ "thin" := by simp [dok]
  have ri : Rise s.last [(⟨"drop", s.last + 1, k, ""⟩ : Row)] := ⟨rfl, trivial⟩
  obtain ⟨l1, l2, -⟩ := appZ_last g.r ri
  refine sp_drop g.sd F.ok (by omega) F.F F.hc w1 w2 g.last0 (by have := F.h2; omega) (by omega) F.hlen (fun hn => non ?_) (fun m1 hn s1 f1 _ => ?_) (fun _ _ _ _ z => by rw [(g.r.app (WholeR.one (.inr rfl)) ok ri).1] at z; cases z)
  · rw [g.r.tab] at hn
    unfold vOf
    cases h : lkA M.tab k with
    | none => rfl
    | some l => rw [h] at hn; cases hn
  · have g2 := g.change (WholeR.one (.inr rfl)) ok ri (by simp) (by simp) s1
    have l3 : (appZ s d M.cur.num [⟨"drop", s.last + 1, k, ""⟩]).1.1.last = s.last + 1 := by rw [l1]; rfl
    rw [l3]
    refine fin _ _ _ ?_ g2 f1 l3 l2
    rw [g.r.tab] at hn
    unfold vOf
    simpa using hn
theorem H30.get (g : H30 K m p n s d M j) (hj : j ≤ 60) {k : Str} (w1 : txtOk k 1 40 = true) (w2 : k.length ≤ 1000) : m_Store_get [.ref p, .str k] m = .ok (match vOf M k with | some v => .str v | none => .non) m := by
  have F := g.facts hj
  unfold vOf
  cases hv : lkA M.tab k with
  | none =>
    have hn : lkA s.tab k = none := by rw [g.r.tab, hv]; rfl
    exact sp_get_none g.sd w1 w2 hn
  | some l =>
    exact sp_get g.sd F.ok (by omega) w1 w2 (g.r.place hv (by have := g.old; omega))
theorem H30.all_keys (g : H30 K m p n s d M j) (hK : okKey K) : m_Store_all_keys [.ref p] m = .ok (strsD (sortS (keysA M.tab))) m := by
  have pk := g.r.keysP g.sd.st.nd g.nd
  have es : sortS (keysA s.tab) = sortS (keysA M.tab) := sortS_uniq ((sortS_perm _).trans pk) (sortS_pw _)
  rw [← es]
  exact sp_all_keys g.sd (by have := g.tabs hK; omega)
theorem vOf_keys (M : Mst) (k : Str) : k ∈ keysA M.tab ↔ (vOf M k).isSome = true := by
  rw [mem_keys]
  unfold vOf
  simp
/-- a store over a new disk without bounds -/
theorem H30.start (K : List Str) {most : Nat} (h1 : 64 ≤ most) (h2 : most ≤ 1000) (g : SD m p n (sto0 most) d0) : H30 K m p n (sto0 most) d0 (mst0 most) 0 :=
  ⟨g, R30.start most, ⟨h1, h2⟩, by simp [mst0], by simp [sto0, keysA], by simp [mst0], by simp [sto0], by simp [sto0], by simp [mst0, keysA]⟩
theorem vOf_start (most : Nat) (k : Str) : vOf (mst0 most) k = none := rfl
end
end Lt

set_option Elab.async false
set_option linter.all false
set_option maxRecDepth 100000
/-! T10: what the words of C15 come to. -/
namespace Lt
open PySem L2
section
variable {Q : D → Mem → Prop} {X : Ecl → Mem → Prop} {m : Mem} {ev : Ev} {nw : Bool}
@[simp] theorem wp_eDCopy {d : EC} : wp (eDCopy d ev m) Q X = wp (d ev m) (fun a m1 => ∃ kvs, rdK a m1 = some kvs ∧ Q (.ref m1.length) (m1 ++ [.dic false kvs])) X := by
  unfold eDCopy
  rw [wp_bnd]
  congr 1
  funext a m1
  unfold gDCopy
  cases h : rdK a m1 <;> simp
@[simp] theorem oIsB_b {c b : Bool} : wp (oIsB (.bl c) (.bl b) m) Q X = Q (.bl (decide (c = b))) m := by simp [oIsB]
@[simp] theorem oNotB_b {c b : Bool} : wp (oNotB (.bl c) (.bl b) m) Q X = Q (.bl (!decide (c = b))) m := by simp [oNotB]
@[simp] theorem oIsB_t {xs : List D} {b : Bool} : wp (oIsB (.tup xs) (.bl b) m) Q X = Q (.bl false) m := by simp [oIsB]
@[simp] theorem oNotB_t {xs : List D} {b : Bool} : wp (oNotB (.tup xs) (.bl b) m) Q X = Q (.bl true) m := by simp [oNotB]
@[simp] theorem wp_eLRg {a b : EC} : wp (eLRg nw a b ev m) Q X = wp (a ev m) (fun x m1 => wp (b ev m1) (fun y m2 => ∃ i j, x = .int i ∧ y = .int j ∧ RgOk i j ∧ wp (outL nw (rngI i j) m2) Q X) X) X := by
  unfold eLRg
  rw [wp_bnd]
  congr 1
  funext x m1
  rw [wp_bnd]
  congr 1
  funext y m2
  cases x <;> cases y <;> simp [gLRg]
  rename_i i j
  by_cases h : RgOk i j <;> simp [h]
@[simp] theorem wp_iRng3 {a : EA} {Q : Walk → Mem → Prop} : wp (iRng3 a ev m) Q X = wp (a ev m) (fun xs m1 => ∃ i j c, xs = [.int i, .int j, .int c] ∧ RgC i j c (Builtin.Range.rangeSize i j c).toNat ∧ Q ⟨rng3 i j c, fun _ => True⟩ m1) X := by
  unfold iRng3
  rw [wp_bnd]
  congr 1
  funext xs m1
  match xs with
  | [] => simp
  | [x] => cases x <;> simp
  | [x, y] => cases x <;> cases y <;> simp
  | [x, y, z] =>
    cases x <;> cases y <;> cases z <;> simp
    rename_i i j c
    by_cases h : RgC i j c (Builtin.Range.rangeSize i j c).toNat
    · simp [h]
      exact ⟨fun q => ⟨i, j, c, ⟨rfl, rfl, rfl⟩, h, q⟩, fun ⟨_, _, _, ⟨rfl, rfl, rfl⟩, _, q⟩ => q⟩
    · simp [h]
  | x :: y :: z :: w :: r => cases x <;> cases y <;> cases z <;> simp
end
end Lt

set_option Elab.async false
set_option linter.all false
set_option maxRecDepth 100000
/-! S13: a law's refusal. -/
namespace Lt
open PySem L2
def ecN : Ecl → Str
  | .row => "row" | .file => "file" | .size => "size" | .old => "old" | .ended => "ended" | .stop => "stop"
def refD (c : Ecl) : D := .tup [.str "refused", .str (ecN c)]
@[simp] theorem flat0_ref (c : Ecl) : flat0 (refD c) = true := by simp [refD, flat0, flat0s]
theorem sp_refusal (c : Ecl) (m : Mem) : m__law_refusal [.exc c] m = .ok (refD c) m := by
  refine runP_ok rfl (by simp) ?_
  unfold b__law_refusal
  rw [ws_sSeq]
  simp only [evOf, List.replicate]
  rw [ws_sIf]
  simp
  rw [ws_sSeq]
  simp
  rw [ws_sSeq]
  simp
  rw [ws_sSeq, ws_sIf]
  cases c <;> simp [isiE, allB, flatD, idxF, eqF, refD, ecN, atI, ixN]
end Lt

set_option Elab.async false
set_option linter.all false
set_option maxRecDepth 100000
/-! N35: walks through keys. -/
namespace Lt
open PySem L2
def optS : Option Str → D
  | none => .non
  | some s => .str s
def fOk (f : Option Str) (k : Str) : Bool := match f with | none => true | some f => !strLt k f
def lOk (l : Option Str) (k : Str) : Bool := match l with | none => true | some l => strLt k l
def btw (SK : List Str) (f l : Option Str) : List Str := (SK.filter (fOk f)).filter (lOk l)
def kvD (v : Str → Option Str) (k : Str) : D := .tup [.str k, optS (v k)]
section
variable {m : Mem} {p n : Nat} {s : Sto} {d : Dk} {SK : List Str} {v : Str → Option Str}
theorem sp_between (g : SD m p n s d) (ak : m_Store_all_keys [.ref p] m = .ok (strsD SK) m) (hl : SK.length ≤ 60) (f l : Option Str) : m_between [.ref p, optS f, optS l] m = .ok (strsD (btw SK f l)) m := by
  have h1 := List.length_filter_le (fOk f) SK
  have h2 := List.length_filter_le (lOk l) (SK.filter (fOk f))
  refine runP_ok rfl (by simp) ?_
  unfold b_between
  rw [ws_sSeq]
  simp only [evOf, List.replicate]
  simp [g.rs, ak, strsD]
  refine wp_lcP SK D.str (fun k => [some (.ref p), some (optS f), some (optS l), none, some (.str k)]) (fOk f) D.str trivial (by show SK.length ≤ 16777216; omega) (fun k _ => by simp [wipeE]) (fun k _ => ?_) (fun k _ _ => by simp) ?_
  · cases f <;> simp [optS, fOk]
  refine ⟨by simp; omega, ?_⟩
  refine wp_lcP (SK.filter (fOk f)) D.str (fun k => [some (.ref p), some (optS f), some (optS l), some (.lst ((SK.filter (fOk f)).map .str)), some (.str k)]) (lOk l) D.str trivial (by show (SK.filter (fOk f)).length ≤ 16777216; omega) (fun k _ => by simp [wipeE]) (fun k _ => ?_) (fun k _ _ => by simp) ?_
  · cases l <;> simp [optS, lOk]
  exact ⟨by simp; simp at h2; omega, by simp, by simp [btw]⟩
theorem sp_walk (g : SD m p n s d) (ak : m_Store_all_keys [.ref p] m = .ok (strsD SK) m) (hl : SK.length ≤ 60) (gt : ∀ k ∈ SK, m_Store_get [.ref p, .str k] m = .ok (optS (v k)) m) (f l : Option Str) (most : Nat) (b : Bool) :
    m_walk [.ref p, optS f, optS l, .int (most : Nat), .bl b] m = .ok (.lst (((if b then (btw SK f l).reverse else btw SK f l).take most).map (kvD v))) m := by
  have bt := sp_between g ak hl f l
  have h0 : ∀ k ∈ btw SK f l, k ∈ SK := fun k hk => (List.mem_filter.mp (List.mem_filter.mp hk).1).1
  have h1 : (btw SK f l).length ≤ 60 := by
    have h1 := List.length_filter_le (fOk f) SK
    have h2 := List.length_filter_le (lOk l) (SK.filter (fOk f))
    unfold btw; omega
  have fl : flat0s (((if b then (btw SK f l).reverse else btw SK f l).take most).map (kvD v)) = true := flat0s_map fun k _ => by
    unfold kvD
    cases v k <;> simp [flat0, flat0s, optS]
  refine runP_ok rfl (by simpa [flat0] using fl) ?_
  unfold b_walk
  have nn : ¬ ((most : Int) < 0) := by omega
  rw [ws_sSeq, ws_sIf]
  simp only [evOf, List.replicate]
  simp [nn]
  rw [ws_sSeq]
  simp [bt, strsD]
  rw [ws_sSeq]
  have h2 : (if b then (btw SK f l).reverse else btw SK f l).length ≤ 60 := by cases b <;> simp <;> omega
  have h3 : ∀ k ∈ (if b then (btw SK f l).reverse else btw SK f l), k ∈ SK := by cases b <;> simp <;> exact h0
  have e : ∀ {P : Po}, P.nx [some (.ref p), some (optS f), some (optS l), some (.int (most : Nat)), some (.bl b), some (.lst ((if b then (btw SK f l).reverse else btw SK f l).map .str)), none] m → ws (sSet 5 (eIf (tTru (eVar 4)) (eUn (oRev false) (eVar 5)) (eVar 5)) [some (.ref p), some (optS f), some (optS l), some (.int (most : Nat)), some (.bl b), some (.lst ((btw SK f l).map .str)), none] m) P := by
    intro P h
    cases b
    · simpa using h
    · simp at h ⊢
      exact ⟨by omega, h⟩
  refine e ?_
  generalize (if b then (btw SK f l).reverse else btw SK f l) = K at *
  have ct := cutD_to (K.map D.str) most
  have tl : (K.take most).length ≤ 60 := by rw [List.length_take]; omega
  simp [ct]
  rw [← List.map_take]
  refine ⟨by omega, ?_⟩
  refine wp_lcA (K.take most) D.str (fun k => [some (.ref p), some (optS f), some (optS l), some (.int (most : Nat)), some (.bl b), some (.lst (K.map .str)), some (.str k)]) (kvD v) trivial (by show (K.take most).length ≤ 16777216; omega) (fun k _ => by simp [wipeE]) (fun k hk => ?_) ?_
  · simp [g.rs, gt k (h3 k (List.mem_of_mem_take hk)), kvD]
  · exact ⟨by rw [List.length_map]; omega, by simp, by simp⟩
theorem sp_walk_bad {most : Int} (h : most < 0) (x y z b : D) : m_walk [x, y, z, .int most, b] m = .exc .size m := by
  refine runP_exc rfl ?_
  simp [b_walk, evOf, ws_sSeq, ws_sIf, h]
theorem sp_pages_bad {most : Int} (h : most < 1) (x : D) : m_pages [x, .int most] m = .exc .size m := by
  refine runP_exc rfl ?_
  simp [b_pages, evOf, ws_sSeq, ws_sIf, h]
theorem sp_beginning (g : SD m p n s d) (ak : m_Store_all_keys [.ref p] m = .ok (strsD SK) m) (hl : SK.length ≤ 60) (t : Str) : m_beginning [.ref p, .str t] m = .ok (strsD (SK.filter fun k => Txt.startswith k t)) m := by
  have h1 := List.length_filter_le (fun k => Txt.startswith k t) SK
  refine runP_ok rfl (by simp) ?_
  unfold b_beginning
  simp only [evOf, List.replicate]
  simp [g.rs, ak, strsD]
  refine wp_lcP SK D.str (fun k => [some (.ref p), some (.str t), some (.str k)]) (fun k => Txt.startswith k t) D.str trivial (by show SK.length ≤ 16777216; omega) (fun k _ => by simp [wipeE]) (fun k _ => by simp) (fun k _ _ => by simp) ?_
  exact ⟨by rw [List.length_map]; omega, by simp, by simp⟩
def lastD (ks : List Str) : D := optS ks.getLast?
def headD (ks : List Str) : D := optS ks.head?
theorem sp_nearest (g : SD m p n s d) (ak : m_Store_all_keys [.ref p] m = .ok (strsD SK) m) (hl : SK.length ≤ 60) (t : Str) : m_nearest [.ref p, .str t] m = .ok (.tup [lastD (SK.filter fun k => !strLt t k), headD (SK.filter fun k => !strLt k t)]) m := by
  have h1 := List.length_filter_le (fun k => !strLt t k) SK
  have h2 := List.length_filter_le (fun k => !strLt k t) SK
  refine runP_ok rfl ?_ ?_
  · unfold lastD headD
    cases (SK.filter fun k => !strLt t k).getLast? <;> cases (SK.filter fun k => !strLt k t).head? <;> rfl
  unfold b_nearest
  rw [ws_sSeq]
  simp only [evOf, List.replicate]
  simp [g.rs, ak, strsD]
  refine wp_lcP SK D.str (fun k => [some (.ref p), some (.str t), none, none, some (.str k)]) (fun k => !strLt t k) D.str trivial (by show SK.length ≤ 16777216; omega) (fun k _ => by simp [wipeE]) (fun k _ => by simp) (fun k _ _ => by simp) ?_
  refine ⟨by rw [List.length_map]; omega, ?_⟩
  generalize (SK.filter fun k => !strLt t k) = A at *
  refine ws_cut (fun ev m' => ev = [some (.ref p), some (.str t), some (.lst (A.map .str)), some (.lst ((SK.filter fun k => !strLt k t).map .str)), none] ∧ m' = m) ?_ ?_
  · simp [g.rs, ak, strsD]
    refine wp_lcP SK D.str (fun k => [some (.ref p), some (.str t), some (.lst (A.map .str)), none, some (.str k)]) (fun k => !strLt k t) D.str trivial (by show SK.length ≤ 16777216; omega) (fun k _ => by simp [wipeE]) (fun k _ => by simp) (fun k _ _ => by simp) ?_
    exact ⟨by rw [List.length_map]; omega, rfl, rfl⟩
  rintro ev m' ⟨rfl, hm'⟩
  rw [hm']
  generalize (SK.filter fun k => !strLt k t) = B at *
  have eB : ∀ {Q : D → Mem → Prop} {X : Ecl → Mem → Prop}, Q (headD B) m → wp (eIf (tTru (eVar 3)) (eBin oIx (eVar 3) (eC (.int 0))) (eC .non) [some (.ref p), some (.str t), some (.lst (A.map .str)), some (.lst (B.map .str)), none] m) Q X := by
    intro Q X h
    cases B with
    | nil => simpa [headD, optS] using h
    | cons b B => simpa [headD, optS] using h
  have eA : ∀ {Q : D → Mem → Prop} {X : Ecl → Mem → Prop}, Q (lastD A) m → wp (eIf (tTru (eVar 2)) (eBin oIx (eVar 2) (eUn oNeg (eC (.int 1)))) (eC .non) [some (.ref p), some (.str t), some (.lst (A.map .str)), some (.lst (B.map .str)), none] m) Q X := by
    intro Q X h
    rcases List.eq_nil_or_concat A with e | ⟨A', a, e⟩
    · subst e; simpa [lastD, optS] using h
    · subst e
      have al : atI ((A' ++ [a]).map D.str) (-1) = some (.str a) := by rw [List.map_append]; exact atI_last _ _
      rw [List.concat_eq_append] at h ⊢
      simp only [wp_eIf, wp_tTru, eVar_s, eVar_z, oTru_l, wp_eBin, wp_eUn, wp_eC, oNeg_i, oIx_l]
      refine ⟨fun _ => ⟨_, al, ?_⟩, fun z => ?_⟩
      · simpa [lastD, optS] using h
      · simp at z
  rw [ws_sRet, wp_eTup, wp_aCons]
  refine eA ?_
  rw [wp_aCons]
  refine eB ?_
  simp
end
end Lt

set_option Elab.async false
set_option linter.all false
set_option maxRecDepth 100000
/-! N36: pages of keys. -/
namespace Lt
open PySem L2
def pgs (SK : List Str) (c n : Nat) : List (List Str) := (List.range n).map fun t => (SK.drop (t * c)).take c
theorem pgs_len (SK : List Str) (c n : Nat) : (pgs SK c n).length = n := by simp [pgs]
theorem pgs_at (SK : List Str) (c n t : Nat) (h : t < (pgs SK c n).length) : (pgs SK c n)[t] = (SK.drop (t * c)).take c := by simp [pgs]
theorem pgs_take (SK : List Str) (c n : Nat) : ∀ t, t ≤ n → ((pgs SK c n).take t).flatten = SK.take (t * c)
  | 0, _ => by simp
  | t + 1, h => by
    have hl : t < (pgs SK c n).length := by rw [pgs_len]; omega
    rw [List.take_succ_eq_append_getElem hl, List.flatten_append, List.flatten_singleton, pgs_take SK c n t (by omega), pgs_at, Nat.add_mul, Nat.one_mul, List.take_add]
structure PgN (L c n : Nat) : Prop where
  c0 : 0 < c
  lo : ∀ t, t < n → t * c < L
  hi : L ≤ n * c
theorem pgN (L : Nat) (c : Nat) (h1 : 1 ≤ c) (h2 : c ≤ 4) : PgN L c ((L + c - 1) / c) := by
  refine ⟨by omega, fun t ht => ?_, ?_⟩
  · have : t * c + c ≤ L + c - 1 := by
      have h3 := (Nat.le_div_iff_mul_le (show 0 < c by omega)).mp ht
      rw [Nat.succ_mul] at h3
      exact h3
    omega
  · have : c = 1 ∨ c = 2 ∨ c = 3 ∨ c = 4 := by omega
    rcases this with rfl | rfl | rfl | rfl <;> omega
theorem rg_ok : ∀ L : Fin 61, ∀ c : Fin 4, RgC 0 (L.val : Int) ((c.val + 1 : Nat) : Int) (Builtin.Range.rangeSize 0 (L.val : Int) ((c.val + 1 : Nat) : Int)).toNat ∧ (Builtin.Range.rangeSize 0 (L.val : Int) ((c.val + 1 : Nat) : Int)).toNat = (L.val + (c.val + 1) - 1) / (c.val + 1) := by decide +kernel
section
variable {m : Mem} {p n : Nat} {s : Sto} {d : Dk} {SK : List Str} {v : Str → Option Str}
theorem sp_pages (g : SD m p n s d) (ak : m_Store_all_keys [.ref p] m = .ok (strsD SK) m) (hl : SK.length ≤ 60) {c : Nat} (h1 : 1 ≤ c) (h2 : c ≤ 4) : m_pages [.ref p, .int (c : Nat)] m = .ok (.lst ((pgs SK c ((SK.length + c - 1) / c)).map strsD)) m := by
  obtain ⟨r1, r2⟩ := rg_ok ⟨SK.length, by omega⟩ ⟨c - 1, by omega⟩
  simp only [show c - 1 + 1 = c by omega] at r1 r2
  have fl : flat0s ((pgs SK c ((SK.length + c - 1) / c)).map strsD) = true := flat0s_map fun k _ => by simp
  have P := pgN SK.length c h1 h2
  have n61 : (SK.length + c - 1) / c ≤ 100 := by
    have := Nat.div_le_self (SK.length + c - 1) c
    omega
  refine runP_ok rfl (by simpa [flat0] using fl) ?_
  unfold b_pages
  have nn : ¬ ((c : Int) < 1) := by omega
  rw [ws_sSeq, ws_sIf]
  simp only [evOf, List.replicate]
  simp [nn]
  rw [ws_sSeq]
  simp [g.rs, ak, strsD, show SK.length ≤ 16777216 by omega]
  refine ⟨0, (SK.length : Int), (c : Int), ⟨rfl, rfl, rfl⟩, r1, ?_⟩
  have er : rng3 0 (SK.length : Int) (c : Int) = (List.range ((SK.length + c - 1) / c)).map fun (t : Nat) => D.int ((t * c : Nat) : Int) := by
    unfold rng3
    rw [r2]
    refine List.map_congr_left fun t _ => ?_
    simp
  rw [er]
  have ep : (pgs SK c ((SK.length + c - 1) / c)).map strsD = (List.range ((SK.length + c - 1) / c)).map fun t => strsD ((SK.drop (t * c)).take c) := by
    unfold pgs
    rw [List.map_map]
    rfl
  rw [ep]
  generalize (SK.length + c - 1) / c = N at *
  refine wp_lcA (List.range N) (fun (t : Nat) => D.int ((t * c : Nat) : Int)) (fun t => [some (.ref p), some (.int (c : Nat)), some (.lst (SK.map .str)), some (.int ((t * c : Nat) : Int))]) (fun t => strsD ((SK.drop (t * c)).take c)) trivial (by show (List.range N).length ≤ 16777216; simp; omega) (fun t _ => by simp [wipeE]) (fun t _ => ?_) ?_
  · have cn := cutD_nn (SK.map D.str) (t * c) (t * c + c)
    have e1 : ((t * c + c : Nat) : Int) = (t : Int) * (c : Int) + (c : Int) := by push_cast; rfl
    have e2 : ((t * c : Nat) : Int) = (t : Int) * (c : Int) := by push_cast; rfl
    rw [e1, e2] at cn
    have hl2 : ((SK.drop (t * c)).take c).length ≤ 60 := by rw [List.length_take, List.length_drop]; omega
    rw [show t * c + c - t * c = c by omega, ← List.map_drop, ← List.map_take] at cn
    simp only [List.length_take, List.length_drop] at hl2
    simp [cn, strsD]
    omega
  · exact ⟨by simp; omega, by simp, rfl⟩
end
end Lt

set_option Elab.async false
set_option linter.all false
set_option maxRecDepth 100000
/-! A: law k70: walks. -/
namespace Lt
open PySem L2
def K8 : List Str := ["a", "b", "ab", "abc", "b ", "c1", "c2", "d"]
theorem K8_key : okKey K8 := by
  refine ⟨by decide, fun k hk => ?_⟩
  simp [K8] at hk
  rcases hk with rfl | rfl | rfl | rfl | rfl | rfl | rfl | rfl <;> decide +kernel
theorem K8_str {k : Str} (h : k ∈ K8) : PyData.strOk k = true := by
  simp [K8] at h
  rcases h with rfl | rfl | rfl | rfl | rfl | rfl | rfl | rfl <;> decide +kernel
structure F70 (m : Mem) (p n q : Nat) (s : Sto) (d : Dk) (M : Mst) (st : List (Str × Str)) (k j : Nat) : Prop where
  g : H30 K8 m p n s d M j
  t : m[0]? = some (U k)
  c : m[q]? = some (.dic false (KD D.str st))
  nd : (keysA st).Nodup
  al : ∀ k, lkA st k = vOf M k
  ok : ∀ k v, lkA st k = some v → txtOk v 0 400 = true
  h0 : 0 ∉ stk p n
  hq : q ∉ stk p n ∧ q ≠ 0
section
variable {ns : List Int} {m : Mem} {p n q k j : Nat} {s : Sto} {d : Dk} {M : Mst} {st : List (Str × Str)}
theorem F70.draw (f : F70 m p n q s d M st k j) (k' : Nat) : F70 (m.set 0 (U k')) p n q s d M st k' j :=
  ⟨f.g.fr (Fr.set (ws := [0]) (by simp)) (fun i hi z => by simp at z; subst z; exact f.h0 hi), town_set f.t, (Fr.set (ws := [0]) (by simp)).at f.c (by simp [f.hq.2]), f.nd, f.al, f.ok, f.h0, f.hq⟩
theorem F70.len (f : F70 m p n q s d M st k j) : st.length ≤ 8 := by
  have := sub_len f.nd (K := K8) fun k hk => by
    rw [mem_keys, f.al] at hk
    exact f.g.keys k (by
      rw [mem_keys, f.g.r.tab]
      unfold vOf at hk
      simpa using hk)
  rw [keys_len] at this
  exact this
def J70 (ns : List Int) (p n q many : Nat) (k0 : Nat) (j : Nat) (ev : Ev) (m : Mem) : Prop := ∃ (s : Sto) (d : Dk) (M : Mst) (st : List (Str × Str)) (k : Nat) (o5 o6 : Option D), k ≤ k0 + 3 * j ∧ F70 m p n q s d M st k j ∧ ev = [some (scr ns), some (.ref 0), some (.ref p), some (.int (many : Nat)), some (.ref q), o5, o6]
theorem val_ok (n : Nat) (h : n ≤ 999999999) : txtOk ("value " ++ numS n) 0 400 = true := by
  have l9 := numS_len9 h
  have e4 : ("value " : Str).length = 6 := by decide +kernel
  have el : ("value " ++ numS n : Str).length = 6 + (numS n).length := by rw [PySem.Str.length_append, e4]
  unfold txtOk
  rw [Bool.and_eq_true, Bool.and_eq_true, decide_eq_true_eq, decide_eq_true_eq, List.all_eq_true]
  refine ⟨⟨by omega, by omega⟩, fun c hc => ?_⟩
  rw [strApp_l] at hc
  rcases List.mem_append.mp hc with h | h
  · have : ∀ c ∈ ("value " : Str).cps.toList, okc c = true := by decide +kernel
    exact this c h
  · obtain ⟨h1, h2⟩ := numS_digits n c h
    simp [okc]
    omega
theorem sp_filled (g : H30 K8 m p n s d M 0) (hM : ∀ k, vOf M k = none) (t : m[0]? = some (U k)) (hk : k ≤ 100) (h0 : 0 ∉ stk p n) {many : Nat} (hm : many ≤ 20) {Q : D → Mem → Prop} {X : Ecl → Mem → Prop}
    (fin : ∀ m1 s1 d1 M1 st k', k' ≤ k + 3 * many → F70 m1 p n m.length s1 d1 M1 st k' many → Q (.ref m.length) m1) : wp (m__law_filled [scr ns, .ref 0, .ref p, .int (many : Nat)] m) Q X := by
  have l1 := lt_of g.sd.st.i
  have l2 := lt_of g.sd.st.t
  have l3 := g.sd.dk.at_.lt
  have l4 := lt_of t
  refine wp_runF rfl ?_
  unfold b__law_filled
  rw [ws_sSeq]
  simp only [evOf, List.replicate]
  simp
  have F : F70 (m ++ [.dic false []]) p n m.length s d M [] k 0 := by
    refine ⟨g.fr Fr.app (ws := []) (by simp), by rw [List.getElem?_append_left l4]; exact t, by simp; rfl, by simp [keysA], fun k => by rw [hM]; rfl, fun k v h => by simp [lkA] at h, h0, ?_, by omega⟩
    simp
    omega
  refine ws_cut (J70 ns p n m.length many k many) ?_ ?_
  · rw [ws_sFor]
    simp
    refine ⟨by unfold smallI; omega, ?_⟩
    refine ws_forGo (J70 ns p n m.length many k) (fun _ _ _ _ _ => trivial) ?_ ?_ ⟨s, d, M, [], k, none, none, by omega, F, rfl⟩
    · rintro j ev m' hj ⟨s, d, M, st, k', o5, o6, hk', f, rfl⟩
      have hj2 : j < many := by simpa using hj
      refine ⟨[some (scr ns), some (.ref 0), some (.ref p), some (.int (many : Nat)), some (.ref m.length), some (.int (j : Nat)), o6], by simp, ?_⟩
      generalize m.length = q at *
      rw [ws_sSeq]
      obtain ⟨d8, hd8, e8⟩ := pick_at (ns := ns) f.t (K8.map D.str) (by simp [K8]) (by simp [K8]) (by omega)
      obtain ⟨w, rfl, hw⟩ : ∃ w : Str, d8 = .str w ∧ w ∈ K8 := by
        obtain ⟨w, hw, rfl⟩ := List.mem_map.mp hd8
        exact ⟨w, rfl, hw⟩
      simp only [K8, List.map_cons, List.map_nil] at e8
      simp [e8]
      have f := f.draw (k' + 1)
      generalize m'.set 0 (U (k' + 1)) = m' at f
      rw [ws_sIf]
      have hd := draw_at (ns := ns) f.t (b := 5) (by decide) (by omega)
      simp [hd]
      have f := f.draw (k' + 1 + 1)
      generalize m'.set 0 (U (k' + 1 + 1)) = m' at f
      have w1 := (K8_key.2 w hw).1
      have sl := f.len
      have rc := rdC_at f.c
      have hst : st.length ≤ 8 := sl
      by_cases cc : 0 < dv ns (k' + 1) 5
      · refine .inr ⟨cc, ?_⟩
        have strf : j.log2 < 1920 := by
          by_cases hj0 : j = 0
          · subst hj0; decide
          · have := (Nat.log2_lt (k := 30) hj0).mpr (by omega)
            omega
        have l9 := numS_len9 (show j ≤ 999999999 by omega)
        have hl : ("value " : Str).length = 6 := by decide +kernel
        have h4 : Str.ofString (j : Int).repr = numS j := rfl
        obtain ⟨d9, hd9, e9⟩ := pick_at (ns := ns) f.t [.str "", .str "x", .str ("value " ++ numS j)] (by simp) (by simp) (by omega)
        obtain ⟨v, rfl, hv⟩ : ∃ v : Str, d9 = .str v ∧ txtOk v 0 400 = true := by
          simp at hd9
          rcases hd9 with rfl | rfl | rfl
          · exact ⟨_, rfl, by decide +kernel⟩
          · exact ⟨_, rfl, by decide +kernel⟩
          · exact ⟨_, rfl, val_ok j (by omega)⟩
        have f := f.draw (k' + 1 + 1 + 1)
        have rc := rdC_at f.c
        rw [ws_sSeq]
        simp [strf, h4, hl, e9, rc, KD_len]
        refine ⟨by omega, by omega, ?_⟩
        rw [putKD_KD (f := D.str) (v := v) rfl]
        have fr : Fr [q] (m'.set 0 (U (k' + 1 + 1 + 1))) ((m'.set 0 (U (k' + 1 + 1 + 1))).set q (.dic false (KD D.str (putA st w v)))) := Fr.set (by simp)
        have nq : ∀ i ∈ stk p n, i ∉ [q] := fun i hi z => by simp at z; subst z; exact f.hq.1 hi
        have g2 := f.g.fr fr nq
        have c2 : ((m'.set 0 (U (k' + 1 + 1 + 1))).set q (.dic false (KD D.str (putA st w v))))[q]? = some (.dic false (KD D.str (putA st w v))) := List.getElem?_set_self (lt_of f.c)
        have t2 := fr.at f.t (by simp [f.hq.2.symm])
        generalize (m'.set 0 (U (k' + 1 + 1 + 1))).set q (.dic false (KD D.str (putA st w v))) = m' at *
        have ix : ∀ {Q : D → Mem → Prop} {X : Ecl → Mem → Prop}, wp (oIx (.ref q) (.str w) m') Q X = Q (.str v) m' := by
          intro Q X
          rw [oIx_dic c2, valD_KD, lk_put, if_pos rfl]
          simp
        simp [g2.sd.rs, ix]
        refine g2.put (by omega) K8_key hw hv fun m2 s2 d2 g3 f3 l3 q3 => ?_
        refine ⟨s2, d2, _, putA st w v, k' + 1 + 1 + 1, _, _, by omega, ⟨g3, f3.at t2 f.h0, f3.at c2 (fun z => f.hq.1 z), nd_put f.nd, fun k => ?_, fun k u hu => ?_, f.h0, f.hq⟩, rfl⟩
        · rw [lk_put, mApp_v]
          simp only [List.foldl_cons, List.foldl_nil, rowV, if_pos, nextV]
          rw [f.al]
        · rw [lk_put] at hu
          split at hu
          · cases hu; exact hv
          · exact f.ok k u hu
      · refine .inl ⟨by omega, ?_⟩
        rw [ws_sSeq]
        have dr : ("drop" : Str) ≠ "put" := by decide +kernel
        cases hv : lkA st w with
        | none =>
          simp [rc, rdK_at f.c, valD_KD, hv, f.g.sd.rs]
          refine f.g.drop (by omega) K8_key hw (fun _ => ?_) (fun m2 s2 d2 hs => by rw [← f.al, hv] at hs; cases hs)
          exact ⟨_, _, _, st, _, _, _, by omega, ⟨f.g.next, f.t, f.c, f.nd, f.al, f.ok, f.h0, f.hq⟩, rfl⟩
        | some v =>
          simp [rc, rdK_at f.c, valD_KD, hv]
          rw [dropKD_KD]
          have fr : Fr [q] m' (m'.set q (.dic false (KD D.str (dropA st w)))) := Fr.set (by simp)
          have nq : ∀ i ∈ stk p n, i ∉ [q] := fun i hi z => by simp at z; subst z; exact f.hq.1 hi
          have g2 := f.g.fr fr nq
          have c2 : (m'.set q (.dic false (KD D.str (dropA st w))))[q]? = some (.dic false (KD D.str (dropA st w))) := List.getElem?_set_self (lt_of f.c)
          have t2 := fr.at f.t (by simp [f.hq.2.symm])
          generalize m'.set q (.dic false (KD D.str (dropA st w))) = m' at *
          simp [g2.sd.rs]
          refine g2.drop (by omega) K8_key hw (fun hn => by rw [← f.al, hv] at hn; cases hn) fun m2 s2 d2 hs g3 f3 l3 q3 => ?_
          refine ⟨s2, d2, _, dropA st w, k' + 1 + 1, _, _, by omega, ⟨g3, f3.at t2 f.h0, f3.at c2 (fun z => f.hq.1 z), nd_drop f.nd, fun k => ?_, fun k u hu => ?_, f.h0, f.hq⟩, rfl⟩
          · rw [lk_drop, mApp_v]
            simp only [List.foldl_cons, List.foldl_nil, rowV, if_neg dr, if_pos, nextV]
            rw [f.al]
          · rw [lk_drop] at hu
            split at hu
            · cases hu
            · exact f.ok k u hu
    · rintro ev m' h
      simp at h
      exact h
  · rintro ev m' ⟨s, d, M, st, k', o5, o6, hk', f, rfl⟩
    simp
    exact fin m' s d M st k' hk' f
theorem sp_store_new2 {most : Nat} (hm : 64 ≤ most) (a : DiskAt m n d) {Q : D → Mem → Prop} {X : Ecl → Mem → Prop} (wk : ∀ m0, SD m0 m.length n (sto0 most) d → Fr [] m m0 → wp (m_Store_wake [.ref m.length] m0) (fun x m' => Q (.ref m.length) m') X) :
    wp (m_Store___init__ [.ref m.length, .ref n, .int (most : Nat)] (m ++ [.ins .store []])) (fun d m' => d = .non ∧ Q (.ref m.length) m') X := by
  have h := sp_store_new hm a (Q := Q) (X := X) (ev := []) (e := aCons (eC (.ref n)) (aCons (eC (.int (most : Nat))) aNil)) (by simp) wk
  rw [wp_eMake] at h
  simpa using h
/-- what is known of keys and values -/
structure K70 (m : Mem) (p n q : Nat) (st : List (Str × Str)) (SK : List Str) : Prop where
  eSK : SK = sortS (keysA st)
  ak : m_Store_all_keys [.ref p] m = .ok (strsD SK) m
  gt : ∀ k ∈ SK, m_Store_get [.ref p, .str k] m = .ok (optS (lkA st k)) m
  len : SK.length ≤ 8
  k8 : ∀ k ∈ SK, k ∈ K8
  ix : ∀ k ∈ SK, ∀ {Q : D → Mem → Prop} {X : Ecl → Mem → Prop}, wp (oIx (.ref q) (.str k) m) Q X = Q (optS (lkA st k)) m
  gd : ∀ k, good 50 (optS (lkA st k)) = true
theorem F70.keys (f : F70 m p n q s d M st k j) (hj : j ≤ 60) : K70 m p n q st (sortS (keysA st)) := by
  have pm : (keysA st).Perm (keysA M.tab) := by
    rw [List.perm_ext_iff_of_nodup f.nd f.g.nd]
    intro k
    rw [mem_keys, f.al, vOf_keys]
  have es : sortS (keysA M.tab) = sortS (keysA st) := sortS_uniq ((sortS_perm _).trans pm.symm) (sortS_pw _)
  have k8 : ∀ k ∈ sortS (keysA st), k ∈ K8 := by
    intro k hk
    have hk := sort_mem.mp hk
    rw [mem_keys, f.al] at hk
    refine f.g.keys k ?_
    rw [mem_keys, f.g.r.tab]
    unfold vOf at hk
    simpa using hk
  refine ⟨rfl, by rw [← es]; exact f.g.all_keys K8_key, fun k hk => ?_, by rw [sort_len, keys_len]; exact f.len, k8, fun k hk => ?_, fun k => ?_⟩
  · obtain ⟨w1, w2⟩ := K8_key.2 k (k8 k hk)
    rw [f.g.get hj w1 w2, f.al]
    cases vOf M k <;> rfl
  · intro Q X
    obtain ⟨v, hv⟩ := Option.isSome_iff_exists.mp (mem_keys.mp (sort_mem.mp hk))
    rw [oIx_dic f.c, valD_KD, hv]
    simp [optS]
  · cases hv : lkA st k with
    | none => rfl
    | some v =>
      have h := f.ok k v hv
      unfold txtOk at h
      rw [Bool.and_eq_true] at h
      exact strOk_of h.2
end
section
variable {m : Mem} {p n q : Nat} {s : Sto} {d : Dk} {SK : List Str}
theorem told_pages (g : SD m p n s d) (ak : m_Store_all_keys [.ref p] m = .ok (strsD SK) m) (hl : SK.length ≤ 60) {c : Nat} (h1 : 1 ≤ c) (h2 : c ≤ 4) : m__law_told [.int 1, .ref p, .int (c : Nat)] m = .ok (.lst ((pgs SK c ((SK.length + c - 1) / c)).map strsD)) m := by
  have sp := sp_pages g ak hl h1 h2
  have fl : flat0s ((pgs SK c ((SK.length + c - 1) / c)).map strsD) = true := flat0s_map fun k _ => by simp
  refine runP_ok rfl (by simpa [flat0] using fl) ?_
  unfold b__law_told
  generalize (pgs SK c ((SK.length + c - 1) / c)).map strsD = PD at *
  rw [ws_sSeq]
  simp only [evOf, List.replicate]
  simp
  rw [ws_sSeq]
  simp
  rw [ws_sSeq]
  refine ws_sTryAs ?_
  simp [sp]
theorem told_bad0 {z : Int} (hz : z < 0) : m__law_told [.int 0, .ref p, .int z] m = .ok (refD .size) m := by
  have sp := sp_walk_bad (m := m) hz (.ref p) .non .non (.bl false)
  refine runP_ok rfl (by simp) ?_
  unfold b__law_told
  rw [ws_sSeq]
  simp only [evOf, List.replicate]
  simp
  rw [ws_sSeq]
  simp
  rw [ws_sSeq]
  refine ws_sTryAs ?_
  simp [sp, sp_refusal]
theorem told_bad1 {z : Int} (hz : z < 1) : m__law_told [.int 1, .ref p, .int z] m = .ok (refD .size) m := by
  have sp := sp_pages_bad (m := m) hz (.ref p)
  refine runP_ok rfl (by simp) ?_
  unfold b__law_told
  rw [ws_sSeq]
  simp only [evOf, List.replicate]
  simp
  rw [ws_sSeq]
  simp
  rw [ws_sSeq]
  refine ws_sTryAs ?_
  simp [sp, sp_refusal]
end
theorem wp_oInP {x y : D} {m : Mem} {Q : D → Mem → Prop} {X : Ecl → Mem → Prop} : wp (oInP x y m) Q X = ∃ b, inP x y m = some b ∧ Q (.bl b) m := by
  unfold oInP
  cases inP x y m <;> simp
theorem toPys_len (m : Mem) : ∀ (xs : List D) (ps : List PyData), toPys m xs = some ps → ps.length = xs.length
  | [], ps, h => by simp [toPys] at h; subst h; rfl
  | x :: xs, ps, h => by
    simp only [toPys] at h
    cases e1 : toPy m x with
    | none => simp only [e1] at h; cases h
    | some d =>
      cases e2 : toPys m xs with
      | none => simp only [e1, e2] at h; cases h
      | some ds =>
        simp only [e1, e2] at h
        cases h
        simp [toPys_len m xs ds e2]
theorem eqD_nil {xs : List D} {m : Mem} (h : goods 59 xs = true) : eqD (.lst xs) (.lst []) m = some (decide (xs = [])) := by
  obtain ⟨ps, h1, h2, h3⟩ := toPys_good m 59 xs h
  have hl := toPys_len m xs ps h1
  have sh : SeqAt.shaped (.list ps) = true := shaped_of (by simpa [PyData.canLay0] using h2) (by simp [PyData.depth]; omega)
  rw [eqD_of rfl (d := .list ps) (e := .list []) (by simp [toPyT, toPy, h1]) (by simp [toPyT, toPy, toPys]) sh (by decide +kernel)]
  cases ps with
  | nil => cases xs <;> simp [PyData.eqv, PyData.eqvAll] at hl ⊢
  | cons p ps => cases xs <;> simp [PyData.eqv, PyData.eqvAll] at hl ⊢
theorem inP_nil {Ls : List (List Str)} {m : Mem} (h : ∀ L ∈ Ls, L ≠ [] ∧ ∀ x ∈ L, PyData.strOk x = true) : inP (.lst []) (.lst (Ls.map strsD)) m = some false := by
  have hg : goods 59 (Ls.map strsD) = true := goods_map fun L hL => goods_map fun x hx => (h L hL).2 x hx
  obtain ⟨ps, h1, h2, h3⟩ := toPys_good m 59 _ hg
  have sh : SeqAt.shaped (.list ps) = true := shaped_of (by simpa [PyData.canLay0] using h2) (by simp [PyData.depth]; omega)
  have hz : ∀ (Ls : List (List Str)) (ps : List PyData), (∀ L ∈ Ls, L ≠ []) → toPys m (Ls.map strsD) = some ps → (ps.any fun z => PyData.eqv z (.list [])) = false := by
    intro Ls
    induction Ls with
    | nil => intro ps _ h; simp [toPys] at h; subst h; rfl
    | cons L Ls ih =>
      intro ps hne h
      simp only [List.map_cons, toPys] at h
      cases e1 : toPy m (strsD L) with
      | none => simp only [e1] at h; cases h
      | some d =>
        cases e2 : toPys m (Ls.map strsD) with
        | none => simp only [e1, e2] at h; cases h
        | some ds =>
          simp only [e1, e2] at h
          cases h
          rw [List.any_cons, ih ds (fun L hL => hne L (List.mem_cons_of_mem _ hL)) e2, Bool.or_false]
          unfold strsD at e1
          simp only [toPy] at e1
          obtain ⟨qs, q1, rfl⟩ := Option.map_eq_some_iff.mp e1
          have ql := toPys_len m _ qs q1
          have := hne L (by simp)
          cases qs with
          | nil => cases L with
            | nil => exact absurd rfl this
            | cons a r => simp at ql
          | cons q qs => rfl
  unfold inP
  have e1 : toPyT (.lst []) m = some (.list []) := by simp [toPyT, toPy, toPys]
  have e2 : toPyT (.lst (Ls.map strsD)) m = some (.list ps) := by simp [toPyT, toPy, h1]
  rw [e1, e2]
  simp only
  rw [if_pos ⟨by decide +kernel, sh⟩, hz Ls ps (fun L hL => (h L hL).1) h1]
def ends : List (Option Str) := [none, some "a", some "ab", some "abc", some "b", some "b ", some "c", some "c1", some "zz", some ""]
def T6 : List Str := ["", "a", "ab", "b", "c", "x"]
theorem starts_cut6 : ∀ k ∈ K8, ∀ t ∈ T6, Txt.startswith k t = decide (cutS k none (some ((t.length : Nat) : Int)) = t) := by decide +kernel
def E70 (ns : List Int) (p q : Nat) (SK : List Str) (o6 o7 o8 o9 o10 o11 o12 o13 o14 o15 : Option D) : Ev := [some (scr ns), some (.ref 0), some (.ref p), some (.ref q), some (strsD SK), some (.lst (ends.map optS)), o6, o7, o8, o9, o10, o11, o12, o13, o14, o15, none, none, none, none, none]
def L70 (ns : List Int) (p n q : Nat) (s : Sto) (d : Dk) (M : Mst) (st : List (Str × Str)) (SK : List Str) (k0 J j : Nat) (ev : Ev) (m : Mem) : Prop := ∃ k o6 o7 o8 o9 o10 o11 o12 o13 o14 o15, k ≤ k0 + 10 * j ∧ F70 m p n q s d M st k J ∧ ev = E70 ns p q SK o6 o7 o8 o9 o10 o11 o12 o13 o14 o15
theorem law_true (ns : List Int) (h : ns.length ≤ 63) : ∃ m, m_law [.klst (ns.map .int)] [] = .ok (.bl true) m := by
  have key : wp (m_law [scr ns] []) (fun d m => d = .bl true) (fun _ _ => False) := by
    refine wp_runF rfl ?_
    unfold b_law
    rw [ws_sSeq]
    simp only [evOf, List.replicate]
    simp
    rw [U0]
    refine ws_cut (fun ev m => ∃ p n s d M, H30 K8 m p n s d M 0 ∧ (∀ k, vOf M k = none) ∧ m[0]? = some (U 1) ∧ 0 ∉ stk p n ∧ ev = [some (scr ns), some (.ref 0), some (.ref p), none, none, none, none, none, none, none, none, none, none, none, none, none, none, none, none, none, none]) ?_ ?_
    · rw [ws_sSet, wp_eMake, wp_aCons]
      refine sp_disk_new _ none (by simp [rD]) ?_
      have D0 := new_at [U 0] none
      have t0 : ([U 0] ++ [Cell.ins .disk (dfs [U 0].length none), .dic false [], .dic false []] : Mem)[0]? = some (U 0) := by simp
      have hd := draw_at (ns := ns) t0 (b := 137) (by decide) (by omega)
      obtain ⟨g1, g2⟩ := dv_rng ns 0 (b := 137) (by decide)
      obtain ⟨t, ht⟩ := Int.eq_ofNat_of_zero_le g1
      rw [ht] at hd
      have e64 : (64 : Int) + t = ((64 + t : Nat) : Int) := by omega
      have D0 := D0.fr (Fr.set (ws := [0]) (i := 0) (c := U 1) (by simp)) (by simp)
      have l4 : ([U 0] ++ [Cell.ins .disk (dfs [U 0].length none), .dic false [], .dic false []] : Mem).length = 4 := rfl
      generalize ([U 0] ++ [Cell.ins .disk (dfs [U 0].length none), .dic false [], .dic false []] : Mem) = mA at *
      have t1 := town_set (j := 1) t0
      have l4 : (mA.set 0 (U 1)).length = 4 := by simpa using l4
      have eAB : mA.length = (mA.set 0 (U 1)).length := by simp
      simp only [List.length_singleton] at D0
      simp [hd]
      simp only [e64]
      generalize mA.set 0 (U 1) = mB at *
      have hm64 : 64 ≤ 64 + t ∧ 64 + t ≤ 1000 := by omega
      generalize 64 + t = most at *
      rw [eAB]
      refine sp_store_new2 (Q := fun _ m' => ∃ p n s d M, H30 K8 m' p n s d M 0 ∧ (∀ (k : Str), vOf M k = none) ∧ m'[0]? = some (U 1) ∧ (¬0 = n ∧ ¬0 = p) ∧ mB.length = p) hm64.1 D0 fun m0 s0 f0 => ?_
      refine sp_wake0 s0 rfl (fun m1 e1 s1 f1 _ => ?_) (fun m1 _ _ z => by rw [d0_eq] at z; cases z)
      rw [d0_eq] at s1
      rw [l4] at s1 f1 ⊢
      have s1 : SD m1 4 1 (sto0 most) d0 := s1
      exact ⟨4, 1, _, _, _, H30.start K8 hm64.1 hm64.2 s1, fun k => vOf_start most k, f1.at (f0.at t1 (by simp)) (by simp), by simp, rfl⟩
    rintro ev m ⟨p, n, s, d, M, g, hM, t1, h0, rfl⟩
    refine ws_cut (fun ev m => ∃ p n q s d M st k j, j ≤ 20 ∧ k ≤ 100 ∧ F70 m p n q s d M st k j ∧ ev = [some (scr ns), some (.ref 0), some (.ref p), some (.ref q), none, none, none, none, none, none, none, none, none, none, none, none, none, none, none, none, none]) ?_ ?_
    · have hd := draw_at (ns := ns) t1 (b := 20) (by decide) (by omega)
      obtain ⟨q1, q2⟩ := dv_rng ns 1 (b := 20) (by decide)
      obtain ⟨N, hN⟩ := Int.eq_ofNat_of_zero_le q1
      rw [hN] at hd q2
      have g := g.fr (Fr.set (ws := [0]) (m := m) (i := 0) (c := U 2) (by simp)) (fun i hi z => by simp at z; subst z; exact h0 hi)
      have t1 := town_set (j := 2) t1
      simp [hd]
      refine sp_filled g hM t1 (by omega) h0 (by omega) fun m1 s1 d1 M1 st k' hk f => ?_
      exact ⟨p, n, _, s1, d1, M1, st, k', N, by omega, by omega, f, by simp⟩
    rintro ev m ⟨p, n, q, s, d, M, st, k, J, hJ, hk, f, rfl⟩
    have K := f.keys (by omega)
    have sl := f.len
    have kk : (keysA st).length < 64 := by rw [keys_len]; omega
    obtain ⟨SK, hSK⟩ : ∃ SK, sortS (keysA st) = SK := ⟨_, rfl⟩
    refine ws_cut (fun ev m' => m' = m ∧ ev = [some (scr ns), some (.ref 0), some (.ref p), some (.ref q), some (strsD SK), none, none, none, none, none, none, none, none, none, none, none, none, none, none, none, none]) ?_ ?_
    · have := K.len
      simp [rdK_at f.c, keyS_KD, kk, hSK, strsD]
      rw [hSK] at this
      omega
    rintro ev m' ⟨hm', rfl⟩
    rw [hm']
    clear hm' m'
    rw [hSK] at K
    refine ws_cut (fun ev m' => m' = m ∧ ev = E70 ns p q SK none none none none none none none none none none) ?_ ?_
    · simp [E70, ends, optS]
    rintro ev m' ⟨hm', rfl⟩
    rw [hm']
    clear hm' m'
    refine ws_cut (L70 ns p n q s d M st SK k J 6) ?_ ?_
    · rw [ws_sFor]
      simp only [wp_iRng1, wp_eC]
      refine ⟨6, rfl, by unfold smallI; omega, ?_⟩
      obtain ⟨N6, hN6⟩ : ∃ N6 : Nat, 6 = N6 := ⟨_, rfl⟩
      have e6 : rngI 0 6 = rngI 0 (N6 : Int) := by rw [← hN6]; rfl
      simp only [e6]
      refine ws_forGo (L70 ns p n q s d M st SK k J) (fun _ _ _ _ _ => trivial) ?_ ?_ ⟨k, none, none, none, none, none, none, none, none, none, none, by omega, f, rfl⟩
      · rintro j ev m hj ⟨k, o6, o7, o8, o9, o10, o11, o12, o13, o14, o15, hk, f, rfl⟩
        have hj2 : j < N6 := by simpa using hj
        have hj6 : j < 6 := by omega
        refine ⟨E70 ns p q SK (some (.int (j : Nat))) o7 o8 o9 o10 o11 o12 o13 o14 o15, by simp [E70], ?_⟩
        refine ws_cut (fun ev m' => ∃ fi : Option Str, m' = m.set 0 (U (k + 1)) ∧ ev = E70 ns p q SK (some (.int (j : Nat))) (some (optS fi)) o8 o9 o10 o11 o12 o13 o14 o15) ?_ ?_
        · obtain ⟨d8, hd8, e8⟩ := pick_at (ns := ns) f.t (ends.map optS) (by simp [ends]) (by simp [ends]) (by omega)
          obtain ⟨fi, hfi, rfl⟩ := List.mem_map.mp hd8
          simp [E70, e8]
          exact ⟨fi, rfl⟩
        rintro ev m' ⟨fi, rfl, rfl⟩
        have f := f.draw (k + 1)
        generalize m.set 0 (U (k + 1)) = m at f
        refine ws_cut (fun ev m' => ∃ la : Option Str, m' = m.set 0 (U (k + 1 + 1)) ∧ ev = E70 ns p q SK (some (.int (j : Nat))) (some (optS fi)) (some (optS la)) o9 o10 o11 o12 o13 o14 o15) ?_ ?_
        · obtain ⟨d8, hd8, e8⟩ := pick_at (ns := ns) f.t (ends.map optS) (by simp [ends]) (by simp [ends]) (by omega)
          obtain ⟨la, hla, rfl⟩ := List.mem_map.mp hd8
          simp [E70, e8]
          exact ⟨la, rfl⟩
        rintro ev m' ⟨la, rfl, rfl⟩
        have f := f.draw (k + 1 + 1)
        generalize m.set 0 (U (k + 1 + 1)) = m at f
        refine ws_cut (fun ev m' => ∃ most : Nat, m' = m.set 0 (U (k + 1 + 1 + 1)) ∧ ev = E70 ns p q SK (some (.int (j : Nat))) (some (optS fi)) (some (optS la)) (some (.int (most : Nat))) o10 o11 o12 o13 o14 o15) ?_ ?_
        · have hd := draw_at (ns := ns) f.t (b := 10) (by decide) (by omega)
          obtain ⟨q1, q2⟩ := dv_rng ns (k + 1 + 1) (b := 10) (by decide)
          obtain ⟨N, hN⟩ := Int.eq_ofNat_of_zero_le q1
          rw [hN] at hd
          simp [E70, hd]
          exact ⟨N, rfl⟩
        rintro ev m' ⟨most, rfl, rfl⟩
        have f := f.draw (k + 1 + 1 + 1)
        generalize m.set 0 (U (k + 1 + 1 + 1)) = m at f
        refine ws_cut (fun ev m' => ∃ b : Bool, m' = m.set 0 (U (k + 1 + 1 + 1 + 1)) ∧ ev = E70 ns p q SK (some (.int (j : Nat))) (some (optS fi)) (some (optS la)) (some (.int (most : Nat))) (some (.bl b)) o11 o12 o13 o14 o15) ?_ ?_
        · have hd := draw_at (ns := ns) f.t (b := 2) (by decide) (by omega)
          simp [E70, hd]
          omega
        rintro ev m' ⟨b, rfl, rfl⟩
        have f := f.draw (k + 1 + 1 + 1 + 1)
        generalize m.set 0 (U (k + 1 + 1 + 1 + 1)) = m at f
        have K := f.keys (by omega)
        rw [hSK] at K
        have KL := K.len
        have fll := List.length_filter_le (fun x => fOk fi x && lOk la x) SK
        refine ws_cut (fun ev m' => m' = m ∧ ev = E70 ns p q SK (some (.int (j : Nat))) (some (optS fi)) (some (optS la)) (some (.int (most : Nat))) (some (.bl b)) (some (.lst ((SK.filter fun x => fOk fi x && lOk la x).map (kvD (lkA st))))) o12 o13 o14 o15) ?_ ?_
        · simp [E70, strsD]
          refine wp_lcP SK D.str (fun x => [some (scr ns), some (.ref 0), some (.ref p), some (.ref q), some (strsD SK), some (.lst (ends.map optS)), some (.int (j : Nat)), some (optS fi), some (optS la), some (.int (most : Nat)), some (.bl b), o11, o12, some (.str x), o14, o15, none, none, none, none, none]) (fun x => fOk fi x && lOk la x) (kvD (lkA st)) trivial (by show SK.length ≤ 16777216; omega) (fun x _ => by simp [wipeE, strsD]) (fun x _ => ?_) (fun x hx _ => ?_) ?_
          · cases fi <;> cases la <;> simp [optS, fOk, lOk] <;> (try (rename_i a; cases strLt x a <;> simp)) 
          · simp [K.ix x hx, kvD]
          · exact ⟨by rw [List.length_map]; omega, rfl, by simp [strsD]⟩
        rintro ev m' ⟨hm', rfl⟩
        rw [hm']
        clear hm' m'
        obtain ⟨DU, hDU⟩ : ∃ DU, (if b then (SK.filter fun x => fOk fi x && lOk la x).reverse else (SK.filter fun x => fOk fi x && lOk la x)) = DU := ⟨_, rfl⟩
        have fl8 : (SK.filter fun x => fOk fi x && lOk la x).length ≤ 8 := Nat.le_trans fll KL
        have lDU : DU.length ≤ 8 := by
          rw [← hDU]
          cases b
          · exact fl8
          · rw [if_pos rfl, List.length_reverse]; exact fl8
        refine ws_cut (fun ev m' => m' = m ∧ ev = E70 ns p q SK (some (.int (j : Nat))) (some (optS fi)) (some (optS la)) (some (.int (most : Nat))) (some (.bl b)) (some (.lst (DU.map (kvD (lkA st))))) o12 o13 o14 o15) ?_ ?_
        · rw [ws_sIf, ← hDU]
          cases b
          · simp [E70]
          · simp [E70]
            exact Nat.le_trans fl8 (by omega)
        rintro ev m' ⟨hm', rfl⟩
        rw [hm']
        clear hm' m'
        have wk := sp_walk f.g.sd K.ak (by omega) K.gt fi la most b
        have eb : (if b then (btw SK fi la).reverse else btw SK fi la) = DU := by
          rw [← hDU]
          have : btw SK fi la = SK.filter fun x => fOk fi x && lOk la x := by
            unfold btw
            rw [List.filter_filter]
            exact List.filter_congr fun x _ => by rw [Bool.and_comm]
          rw [this]
        rw [eb] at wk
        have hDK : ∀ x ∈ DU, x ∈ SK := by
          intro x hx
          rw [← hDU] at hx
          cases b
          · exact (List.mem_filter.mp hx).1
          · exact (List.mem_filter.mp (List.mem_reverse.mp hx)).1
        have eqw : eqD (.lst ((DU.take most).map (kvD (lkA st)))) (.lst ((DU.take most).map (kvD (lkA st)))) m = some true := by
          refine eqD_good ?_
          show goods 59 _ = true
          refine goods_map fun x hx => ?_
          show goods 58 [D.str x, optS (lkA st x)] = true
          have h1 : good 58 (.str x) = true := K8_str (K.k8 x (hDK x (List.mem_of_mem_take hx)))
          have h2 : good 58 (optS (lkA st x)) = true := by
            have := K.gd x
            cases hv : lkA st x with
            | none => rfl
            | some v => rw [hv] at this; exact this
          unfold goods
          rw [h1]
          unfold goods
          rw [h2]
          rfl
        refine ws_cut (fun ev m' => m' = m ∧ ev = E70 ns p q SK (some (.int (j : Nat))) (some (optS fi)) (some (optS la)) (some (.int (most : Nat))) (some (.bl b)) (some (.lst (DU.map (kvD (lkA st))))) o12 o13 o14 o15) ?_ ?_
        · rw [ws_sIf]
          have ct := cutD_to (DU.map (kvD (lkA st))) most
          rw [← List.map_take] at ct
          have tl : (DU.take most).length ≤ 8 := by rw [List.length_take]; omega
          simp [E70, wk, ct, eqw]
          exact ⟨by omega, by rw [← List.map_take]; exact eqw⟩
        rintro ev m' ⟨hm', rfl⟩
        rw [hm']
        clear hm' m'
        refine ws_cut (fun ev m' => ∃ tx ∈ T6, m' = m.set 0 (U (k + 1 + 1 + 1 + 1 + 1)) ∧ ev = E70 ns p q SK (some (.int (j : Nat))) (some (optS fi)) (some (optS la)) (some (.int (most : Nat))) (some (.bl b)) (some (.lst (DU.map (kvD (lkA st))))) (some (.str tx)) o13 o14 o15) ?_ ?_
        · obtain ⟨d8, hd8, e8⟩ := pick_at (ns := ns) f.t (T6.map D.str) (by simp [T6]) (by simp [T6]) (by omega)
          obtain ⟨tx, htx, rfl⟩ := List.mem_map.mp hd8
          simp only [T6, List.map_cons, List.map_nil] at e8
          simp [E70, e8]
          exact htx
        rintro ev m' ⟨tx, htx, rfl, rfl⟩
        have f := f.draw (k + 1 + 1 + 1 + 1 + 1)
        generalize m.set 0 (U (k + 1 + 1 + 1 + 1 + 1)) = m at f
        have K := f.keys (by omega)
        rw [hSK] at K
        have eqs : ∀ (xs : List Str), (∀ x ∈ xs, x ∈ SK) → ∀ m, eqD (strsD xs) (strsD xs) m = some true := by
          intro xs hxs m
          refine eqD_good ?_
          show goods 59 _ = true
          exact goods_map fun x hx => K8_str (K.k8 x (hxs x hx))
        have tl : tx.length ≤ 5 := by
          have : ∀ t ∈ T6, t.length ≤ 5 := by decide +kernel
          exact this tx htx
        have kl : ∀ x ∈ SK, x.length ≤ 1000 := fun x hx => (K8_key.2 x (K.k8 x hx)).2
        refine ws_cut (fun ev m' => m' = m ∧ ev = E70 ns p q SK (some (.int (j : Nat))) (some (optS fi)) (some (optS la)) (some (.int (most : Nat))) (some (.bl b)) (some (.lst (DU.map (kvD (lkA st))))) (some (.str tx)) o13 o14 o15) ?_ ?_
        · have bg := sp_beginning f.g.sd K.ak (by omega) tx
          have eqb := eqs (SK.filter fun x => Txt.startswith x tx) (fun x hx => (List.mem_filter.mp hx).1) m
          have efl : SK.filter (fun x => Txt.startswith x tx) = SK.filter (fun x => decide (cutS x none (some ((tx.length : Nat) : Int)) = tx)) := List.filter_congr fun x hx => starts_cut6 x (K.k8 x hx) tx htx
          have fll := List.length_filter_le (fun x => decide (cutS x none (some ((tx.length : Nat) : Int)) = tx)) SK
          rw [ws_sIf]
          rw [efl] at bg eqb
          generalize hW : SK.filter (fun x => decide (cutS x none (some ((tx.length : Nat) : Int)) = tx)) = W at *
          simp [E70, bg, strsD]
          refine wp_lcP SK D.str (fun x => [some (scr ns), some (.ref 0), some (.ref p), some (.ref q), some (strsD SK), some (.lst (ends.map optS)), some (.int (j : Nat)), some (optS fi), some (optS la), some (.int (most : Nat)), some (.bl b), some (.lst (DU.map (kvD (lkA st)))), some (.str tx), some (.str x), o14, o15, none, none, none, none, none]) (fun x => decide (cutS x none (some ((tx.length : Nat) : Int)) = tx)) D.str trivial (by show SK.length ≤ 16777216; omega) (fun x _ => by simp [wipeE, strsD]) (fun x hx => ?_) (fun x hx _ => by simp) ?_
          · have := kl x hx
            simp
            exact ⟨by omega, by omega, (Classical.em _).symm⟩
          · rw [hW]
            simp only [strsD] at eqb
            simp [eqb]
            have := K.len
            omega
        rintro ev m' ⟨hm', rfl⟩
        rw [hm']
        clear hm' m'
        refine ws_cut (fun ev m' => ∃ ke : Str, m' = m.set 0 (U (k + 1 + 1 + 1 + 1 + 1 + 1)) ∧ ev = E70 ns p q SK (some (.int (j : Nat))) (some (optS fi)) (some (optS la)) (some (.int (most : Nat))) (some (.bl b)) (some (.lst (DU.map (kvD (lkA st))))) (some (.str tx)) (some (.str ke)) o14 o15) ?_ ?_
        · have c1 : cutD (ends.map optS) (some 1) none = (["a", "ab", "abc", "b", "b ", "c", "c1", "zz", ""] : List Str).map D.str := by
            have := cutD_n (ends.map optS) 1
            exact this
          obtain ⟨d8, hd8, e8⟩ := pick_at (ns := ns) f.t ((["a", "ab", "abc", "b", "b ", "c", "c1", "zz", ""] : List Str).map D.str) (by simp) (by simp) (by omega)
          obtain ⟨ke, hke, rfl⟩ := List.mem_map.mp hd8
          generalize (["a", "ab", "abc", "b", "b ", "c", "c1", "zz", ""] : List Str).map D.str = E9 at *
          have l9 : E9.length ≤ 16777216 := by rw [← c1]; decide
          simp [E70, c1, l9, e8]
        rintro ev m' ⟨ke, rfl, rfl⟩
        have f := f.draw (k + 1 + 1 + 1 + 1 + 1 + 1)
        generalize m.set 0 (U (k + 1 + 1 + 1 + 1 + 1 + 1)) = m at f
        have K := f.keys (by omega)
        rw [hSK] at K
        have KL := K.len
        have a1 := List.length_filter_le (fun x => !strLt ke x) SK
        have a2 := List.length_filter_le (fun x => !strLt x ke) SK
        refine ws_cut (fun ev m' => m' = m ∧ ev = E70 ns p q SK (some (.int (j : Nat))) (some (optS fi)) (some (optS la)) (some (.int (most : Nat))) (some (.bl b)) (some (.lst (DU.map (kvD (lkA st))))) (some (.str tx)) (some (.str ke)) (some (strsD (SK.filter fun x => !strLt ke x))) o15) ?_ ?_
        · simp [E70, strsD]
          refine wp_lcP SK D.str (fun x => [some (scr ns), some (.ref 0), some (.ref p), some (.ref q), some (strsD SK), some (.lst (ends.map optS)), some (.int (j : Nat)), some (optS fi), some (optS la), some (.int (most : Nat)), some (.bl b), some (.lst (DU.map (kvD (lkA st)))), some (.str tx), some (.str ke), o14, o15, none, none, none, none, some (.str x)]) (fun x => !strLt ke x) D.str trivial (by show SK.length ≤ 16777216; omega) (fun x _ => by simp [wipeE, strsD]) (fun x hx => by simp) (fun x hx _ => by simp) ?_
          exact ⟨by rw [List.length_map]; omega, rfl, by simp [strsD]⟩
        rintro ev m' ⟨hm', rfl⟩
        rw [hm']
        clear hm' m'
        have nr := sp_nearest f.g.sd K.ak (by omega) ke
        have eqn : ∀ m, eqD (.tup [lastD (SK.filter fun k => !strLt ke k), headD (SK.filter fun k => !strLt k ke)]) (.tup [lastD (SK.filter fun k => !strLt ke k), headD (SK.filter fun k => !strLt k ke)]) m = some true := by
          intro m
          refine eqD_good ?_
          show goods 59 _ = true
          have gl : ∀ (xs : List Str), (∀ x ∈ xs, x ∈ SK) → good 59 (lastD xs) = true ∧ good 59 (headD xs) = true := by
            intro xs hxs
            unfold lastD headD
            refine ⟨?_, ?_⟩
            · cases hv : xs.getLast? with
              | none => rfl
              | some x => exact K8_str (K.k8 x (hxs x (List.mem_of_getLast? hv)))
            · cases hv : xs.head? with
              | none => rfl
              | some x => exact K8_str (K.k8 x (hxs x (List.mem_of_head? hv)))
          have h1 := (gl (SK.filter fun k => !strLt ke k) fun x hx => (List.mem_filter.mp hx).1).1
          have h2 := (gl (SK.filter fun k => !strLt k ke) fun x hx => (List.mem_filter.mp hx).1).2
          unfold goods
          rw [h1]
          unfold goods
          rw [h2]
          rfl
        generalize hA : (SK.filter fun k => !strLt ke k) = A at *
        refine ws_cut (fun ev m' => m' = m ∧ ev = E70 ns p q SK (some (.int (j : Nat))) (some (optS fi)) (some (optS la)) (some (.int (most : Nat))) (some (.bl b)) (some (.lst (DU.map (kvD (lkA st))))) (some (.str tx)) (some (.str ke)) (some (strsD A)) (some (strsD (SK.filter fun x => !strLt x ke)))) ?_ ?_
        · simp [E70, strsD]
          refine wp_lcP SK D.str (fun x => [some (scr ns), some (.ref 0), some (.ref p), some (.ref q), some (strsD SK), some (.lst (ends.map optS)), some (.int (j : Nat)), some (optS fi), some (optS la), some (.int (most : Nat)), some (.bl b), some (.lst (DU.map (kvD (lkA st)))), some (.str tx), some (.str ke), some (strsD A), o15, none, none, none, none, some (.str x)]) (fun x => !strLt x ke) D.str trivial (by show SK.length ≤ 16777216; omega) (fun x _ => by simp [wipeE, strsD]) (fun x hx => by simp) (fun x hx _ => by simp) ?_
          exact ⟨by rw [List.length_map]; omega, rfl, by simp [strsD]⟩
        rintro ev m' ⟨hm', rfl⟩
        rw [hm']
        clear hm' m'
        generalize hB : (SK.filter fun k => !strLt k ke) = B at *
        have ixA : atI (D.non :: A.map .str) (-1) = some (lastD A) := by
          rcases List.eq_nil_or_concat A with e | ⟨A', a, e⟩
          · rw [e]; exact atI_last [] D.non
          · rw [e, List.concat_eq_append]
            have : (D.non :: (A' ++ [a]).map D.str) = (D.non :: A'.map D.str) ++ [.str a] := by simp
            rw [this, atI_last]
            simp [lastD, optS]
        have ixB : atI (B.map .str ++ [D.non]) 0 = some (headD B) := by
          cases B <;> simp [headD, optS]
        rw [ws_sIf]
        simp [E70, nr, strsD, ixA, ixB, eqn]
        refine ⟨by omega, by omega, k + 1 + 1 + 1 + 1 + 1 + 1, _, _, _, _, _, _, _, _, _, _, by omega, f, rfl⟩
      · rintro ev m h
        rw [rng0_len, ← hN6] at h
        exact h
    rintro ev m ⟨k', o6, o7, o8, o9, o10, o11, o12, o13, o14, o15, hk', f, rfl⟩
    have K := f.keys (by omega)
    rw [hSK] at K
    have KL := K.len
    have hd := draw_at (ns := ns) f.t (b := 4) (by decide) (by omega)
    obtain ⟨q1, q2⟩ := dv_rng ns k' (b := 4) (by decide)
    obtain ⟨c0, hc0⟩ := Int.eq_ofNat_of_zero_le q1
    rw [hc0] at hd q2
    have ec : (1 : Int) + c0 = ((c0 + 1 : Nat) : Int) := by omega
    refine ws_cut (fun ev m' => m' = m.set 0 (U (k' + 1)) ∧ ev = E70 ns p q SK o6 o7 o8 (some (.int ((c0 + 1 : Nat) : Int))) o10 o11 o12 o13 o14 o15) ?_ ?_
    · simp [E70, hd]
      omega
    rintro ev m' ⟨rfl, rfl⟩
    have f := f.draw (k' + 1)
    generalize m.set 0 (U (k' + 1)) = m at f
    have K := f.keys (by omega)
    rw [hSK] at K
    obtain ⟨c, hc⟩ : ∃ c, c0 + 1 = c := ⟨_, rfl⟩
    rw [hc]
    have c1 : 1 ≤ c := by omega
    have c4 : c ≤ 4 := by omega
    have tp := told_pages f.g.sd K.ak (by omega) c1 c4
    have P := pgN SK.length c c1 c4
    have ht := pgs_take SK c ((SK.length + c - 1) / c)
    have pa := pgs_at SK c ((SK.length + c - 1) / c)
    have pl := pgs_len SK c ((SK.length + c - 1) / c)
    have nl : (SK.length + c - 1) / c ≤ 100 := by
      have := Nat.div_le_self (SK.length + c - 1) c
      omega
    generalize (SK.length + c - 1) / c = N at *
    generalize hPG : pgs SK c N = PG at *
    have whole : PG.flatten = SK := by
      have := ht N (Nat.le_refl _)
      rw [← pl, List.take_length, pl, List.take_of_length_le P.hi] at this
      exact this
    have ple : ∀ L ∈ PG, L ≠ [] ∧ L.length ≤ c ∧ ∀ x ∈ L, x ∈ SK := by
      intro L hL
      obtain ⟨t, ht2, rfl⟩ := List.getElem_of_mem hL
      rw [pa t ht2]
      have := P.lo t (by omega)
      refine ⟨fun e => ?_, by simp; omega, fun x hx => List.mem_of_mem_drop (List.mem_of_mem_take hx)⟩
      have := congrArg List.length e
      simp at this
      omega
    have pfull : ∀ L ∈ PG.dropLast, L.length = c := by
      intro L hL
      obtain ⟨t, ht2, rfl⟩ := List.getElem_of_mem hL
      rw [List.getElem_dropLast, pa t (by simp at ht2; omega)]
      simp at ht2
      have := P.lo (t + 1) (by omega)
      rw [Nat.add_mul, Nat.one_mul] at this
      simp
      omega
    have flt : ∀ j, (PG.take j).flatten.length ≤ 8 := by
      intro j
      have : PG.flatten = (PG.take j).flatten ++ (PG.drop j).flatten := by rw [← List.flatten_append, List.take_append_drop]
      have h2 := congrArg List.length this
      rw [whole, List.length_append] at h2
      omega
    refine ws_cut (fun ev m' => m' = m ∧ ev = ((E70 ns p q SK o6 o7 o8 (some (.int (c : Nat))) o10 o11 o12 o13 o14 o15).set 16 (some (.lst (PG.map strsD))))) ?_ ?_
    · simp [E70, tp]
    rintro ev m' ⟨hm', rfl⟩
    rw [hm']
    clear hm' m'
    refine ws_cut (fun ev m' => m' = m ∧ ev = (((E70 ns p q SK o6 o7 o8 (some (.int (c : Nat))) o10 o11 o12 o13 o14 o15).set 16 (some (.lst (PG.map strsD)))).set 17 (some (strsD [])))) ?_ ?_
    · simp [E70, strsD]
    rintro ev m' ⟨hm', rfl⟩
    rw [hm']
    clear hm' m'
    refine ws_cut (fun ev m' => m' = m ∧ ∃ o18, ev = ((((E70 ns p q SK o6 o7 o8 (some (.int (c : Nat))) o10 o11 o12 o13 o14 o15).set 16 (some (.lst (PG.map strsD)))).set 17 (some (strsD SK))).set 18 o18)) ?_ ?_
    · rw [ws_sFor]
      simp [E70]
      refine ws_forGo (xs := PG.map strsD) (fun j ev m' => m' = m ∧ ∃ o18, ev = ((((E70 ns p q SK o6 o7 o8 (some (.int (c : Nat))) o10 o11 o12 o13 o14 o15).set 16 (some (.lst (PG.map strsD)))).set 17 (some (strsD (PG.take j).flatten))).set 18 o18)) (fun _ _ _ _ _ => trivial) ?_ ?_ ⟨rfl, none, by simp [E70]⟩
      · rintro j ev m' hj ⟨hm', o18, rfl⟩
        rw [hm']
        have hj2 : j < PG.length := by simpa using hj
        have f1 := flt j
        have e1 : (PG.take (j + 1)).flatten = (PG.take j).flatten ++ PG[j] := by rw [List.take_succ_eq_append_getElem hj2, List.flatten_append, List.flatten_singleton]
        have f2 := flt (j + 1)
        rw [e1, List.length_append] at f2
        refine ⟨_, rfl, ?_⟩
        rw [e1]
        generalize (PG.take j).flatten = A at *
        have : (PG.map strsD)[j] = strsD PG[j] := by simp
        rw [this]
        generalize PG[j] = B at *
        simp [E70, strsD]
        omega
      · rintro ev m' ⟨hm', o18, rfl⟩
        rw [List.length_map, List.take_length, whole]
        exact ⟨hm', o18, by simp [E70]⟩
    rintro ev m' ⟨hm', o18, rfl⟩
    rw [hm']
    clear hm' m'
    have strg : ∀ x ∈ SK, PyData.strOk x = true := fun x hx => K8_str (K.k8 x hx)
    have eqk : eqD (strsD SK) (strsD SK) m = some true := by
      refine eqD_good ?_
      show goods 59 _ = true
      exact goods_map fun x hx => strg x hx
    have inn := inP_nil (m := m) (Ls := PG) fun L hL => ⟨(ple L hL).1, fun x hx => strg x ((ple L hL).2.2 x hx)⟩
    have eqn := eqD_nil (m := m) (xs := PG.map strsD) (goods_map fun L hL => goods_map fun x hx => strg x ((ple L hL).2.2 x hx))
    refine ws_cut (fun ev m' => m' = m ∧ ev = ((((E70 ns p q SK o6 o7 o8 (some (.int (c : Nat))) o10 o11 o12 o13 o14 o15).set 16 (some (.lst (PG.map strsD)))).set 17 (some (strsD SK))).set 18 o18)) ?_ ?_
    · rw [ws_sIf]
      have cb := cutD_back (PG.map strsD)
      rw [← List.map_dropLast] at cb
      have dl : PG.dropLast.length ≤ 100 := by simp; omega
      have dl2 : (PG.dropLast.map strsD).length ≤ 100 := by rw [List.length_map]; exact dl
      have hall : wp (lcGo (fun _ => True) (gName 18) tYes (eBin oEq (eB1 bLen (aCons (eVar 18) aNil)) (eVar 9)) [some (scr ns), some (.ref 0), some (.ref p), some (.ref q), some (strsD SK), some (.lst (ends.map optS)), o6, o7, o8, some (.int (c : Nat)), o10, o11, o12, o13, o14, o15, some (.lst (PG.map strsD)), some (strsD SK), none, none, none] (PG.dropLast.map strsD) [] m) (fun xs m' => xs = PG.dropLast.map (fun _ => D.bl true) ∧ m' = m) (fun _ _ => False) := by
        refine wp_lcA PG.dropLast strsD (fun L => [some (scr ns), some (.ref 0), some (.ref p), some (.ref q), some (strsD SK), some (.lst (ends.map optS)), o6, o7, o8, some (.int (c : Nat)), o10, o11, o12, o13, o14, o15, some (.lst (PG.map strsD)), some (strsD SK), some (strsD L), none, none]) (fun _ => .bl true) trivial (by show PG.dropLast.length ≤ 16777216; omega) (fun L _ => by simp) (fun L hL => ?_) ⟨rfl, rfl⟩
        have := pfull L hL
        simp [strsD, this]
      simp [E70, eqk, cb, wp_oInP, inn]
      rw [← List.map_dropLast]
      refine ⟨by omega, ?_⟩
      refine wp_mono hall ?_ (fun _ _ h => h.elim)
      rintro _ _ ⟨rfl, rfl⟩
      refine ⟨by simp; omega, _, allB_map (fun _ => true) _, by simp; intro hf; have := List.dropLast_subset _ hf; simp at this, by simp [inn]⟩
    rintro ev m' ⟨hm', rfl⟩
    rw [hm']
    clear hm' m'
    refine ws_cut (fun ev m' => m' = m ∧ ev = ((((E70 ns p q SK o6 o7 o8 (some (.int (c : Nat))) o10 o11 o12 o13 o14 o15).set 16 (some (.lst (PG.map strsD)))).set 17 (some (strsD SK))).set 18 o18)) ?_ ?_
    · rw [ws_sIf]
      by_cases hP0 : PG = []
      · subst hP0
        simp [E70, eqn] at eqn ⊢
        simp [eqn]
      · have hd2 : decide (PG.map strsD = []) = false := by simp [hP0]
        rw [hd2] at eqn
        obtain ⟨P', L, e⟩ : ∃ P' L, PG = P' ++ [L] := by
          rcases List.eq_nil_or_concat PG with e | ⟨P', L, e⟩
          · exact absurd e hP0
          · exact ⟨P', L, by rw [e, List.concat_eq_append]⟩
        have al : atI (PG.map strsD) (-1) = some (strsD L) := by rw [e, List.map_append]; exact atI_last _ _
        have ll := (ple L (by rw [e]; simp)).2.1
        have ll2 : ¬ ((c : Int) < (L.length : Int)) := by omega
        generalize PG.map strsD = PD at *
        simp [E70, eqn, al, strsD]
        omega
    rintro ev m' ⟨hm', rfl⟩
    rw [hm']
    clear hm' m'
    have hd := draw_at (ns := ns) f.t (b := 5) (by decide) (by omega)
    obtain ⟨q1, q2⟩ := dv_rng ns (k' + 1) (b := 5) (by decide)
    generalize dv ns (k' + 1) 5 = z at *
    refine ws_cut (fun ev m' => m' = m.set 0 (U (k' + 1 + 1)) ∧ ev = (((((E70 ns p q SK o6 o7 o8 (some (.int (c : Nat))) o10 o11 o12 o13 o14 o15).set 16 (some (.lst (PG.map strsD)))).set 17 (some (strsD SK))).set 18 o18).set 19 (some (.int (0 - z))))) ?_ ?_
    · simp [E70, hd]
    rintro ev m' ⟨rfl, rfl⟩
    generalize m.set 0 (U (k' + 1 + 1)) = m
    have b0 := told_bad0 (m := m) (p := p) (z := 0 - z - 1) (by omega)
    have b1 := told_bad1 (m := m) (p := p) (z := 0 - z) (by omega)
    have er : eqD (refD .size) (refD .size) m = some true := eqD_good (by decide +kernel)
    simp only [refD, ecN] at er b0 b1
    simp [E70, b0, b1, er] at b0 b1 ⊢
    simp [b0, b1, er]
  obtain ⟨d, m, h, rfl⟩ := wp_ex key
  exact ⟨m, h⟩
end Lt

set_option Elab.async false
set_option maxRecDepth 100000
set_option maxHeartbeats 0
open PySem PySem.W PySem.Calls PyProof.Rows
theorem PySem.Challenge.cw_logtable_k70_whole_walks_holds : PySem.Challenge.rw_logtable_k70_whole_walks.Holds := by
  w_on; o_law
  refine HandSHeadRun.head_any (r := OpenLaw.row PySem.Challenge.rw_logtable_k70_whole_walks) (q := view (OpenLaw.row PySem.Challenge.rw_logtable_k70_whole_walks).prog [63]) (H := Lt.hk) (ob := Lt.obX 5 Lt.hFa Lt.hFn Lt.hEx) (M := 9000) (loose := Lt.loose) (d := HandSHeadRun.topDef (OpenLaw.row PySem.Challenge.rw_logtable_k70_whole_walks).prog 63) (kwd := []) Lt.obX_eq
    (by kernel_rfl) (fun s => by kernel_rfl) Lt.run (by kernel_rfl) (by kernel_rfl) (by kernel_rfl) (by rfl) (by first | assumption | decide +kernel) (by decide +kernel) ⟨rfl, rfl, rfl, rfl, rfl, by decide +kernel⟩ ?hw ?hc
  case hw => w_witness2
  case hc =>
    refine L2.walk_ofE (l := PySem.Challenge.rw_logtable_k70_whole_walks) (n := 63) (k := 10) (x := "_law_script") (CX := L2.CX0) rfl (by decide) (by kernel_rfl) ⟨rfl, by decide, by decide⟩ ?F (fun _ _ _ _ z => z)
    intro w mg fa h Y G hmg0
    obtain ⟨K, KX, tb, c⟩ := Y
    have hmg : mg ("law" : PySem.Str) = some (.ref fa) := by
      have e : (HandSHeadRun.topDef (OpenLaw.row PySem.Challenge.rw_logtable_k70_whole_walks).prog 63).name = ("law" : PySem.Str) := by kernel_rfl
      rw [← e]
      exact hmg0
    obtain ⟨fd, hb, hF⟩ := Lt.law_of (P := (PySem.Challenge.rw_logtable_k70_whole_walks).prog) (w := w) KX G hmg tb c
    exact ⟨K, fd, Lt.spL (Lt.cnOf K) Lt.m_law, KX, hb, fun H a ns hl hO hS => Lt.spL_of hO hS (Lt.law_true ns hl), hF⟩
