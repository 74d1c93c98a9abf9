import PyProof.Rows.All
import Wide.All
import OpenK.AllK
import Wide.FinOn
import KE.KDictKeyed
import KE.KeyNested
import KE.KDictWalk
import HandS.TupLen
import HandS.TupSets
import HandS.ForMost
import HandS.ForExc
import HandS.Walk
import HandS.Flow
import HandS.IsInst
import HandS.TupAny
import HandS.TupMul
import HandS.Wide
import HandS.Style
import HandS.Conv
import HandS.Deep
import HandS.SetKeys
import HandS.HeadHook1
import HandS.Codes
import HandS.Replace
import KE.KDictCopyH
import KE.KDictOf
import KE.KDictPairs
import PyProof.DictMoreH
import HandS.ExcCtx
import HandS.Defaults
import HandS.HotCalls
import HandS.ExcIs
import HandS.HeadWalk
import HandS.NamedTupGet
import HandS.CallSlots
import HandS.NoneIn
import PyProof.ExcBaseAll.ValueError
import KE.KSortTupAny
import KE.KDictSum
import HandS.SortRule
import HandS.ExcValue
import HandS.DictEq
import KE.KEqDict
import HandS.DictComp
import PyProof.DictTable
import HandS.HeadHook2
import HandS.HeadHook4
import HandS.Head2
import HandS.Words
import PySem.Challenge.RW_kincalls_k11_sure_refused
set_option Elab.async false
set_option linter.all false
set_option maxRecDepth 100000
set_option maxHeartbeats 0
namespace Kn
abbrev Tx := List Nat

inductive Val where
  | non | bl (b : Bool) | int (i : Int) | str (s : Tx) | tup (vs : List Val) | ref (n : Nat) | fn (f : Nat) | exc (c : Nat)

def txEq : Tx → Tx → Bool
  | [], [] => true
  | a :: r, b :: t => Nat.beq a b && txEq r t
  | _, _ => false
mutual
def vEq : Val → Val → Bool
  | .non, .non => true
  | .bl a, .bl b => (a == b)
  | .int a, .int b => decide (a = b)
  | .str a, .str b => txEq a b
  | .tup a, .tup b => vsEq a b
  | .ref a, .ref b => Nat.beq a b
  | .fn a, .fn b => Nat.beq a b
  | .exc a, .exc b => Nat.beq a b
  | _, _ => false
def vsEq : List Val → List Val → Bool
  | [], [] => true
  | a :: r, b :: t => vEq a b && vsEq r t
  | _, _ => false
end

/-- what may be a key: texts, ints, tuples of such, n deep -/
def isKeyD : Nat → Val → Bool
  | _, .int _ => true
  | _, .str _ => true
  | n + 1, .tup vs => vs.all (isKeyD n)
  | _, _ => false
def isKey (v : Val) : Bool := isKeyD 6 v

inductive Obj where
  | list (vs : List Val)
  | dict (kvs : List (Val × Val))
  | inst (c : Nat) (fs : List (Nat × Val))
  | frz (o : Obj)
  | lck (vs : List Val)

abbrev Hs := List Obj
abbrev St := List (Option Val)

/-- data without addresses -/
inductive Dt where
  | non | num (i : Int) | bl (b : Bool) | str (s : Tx) | tup (vs : List Dt) | lst (vs : List Dt)
def b2i (b : Bool) : Int := if b then 1 else 0
mutual
def dEq : Dt → Dt → Bool
  | .non, .non => true
  | .num a, .num b => decide (a = b)
  | .bl a, .bl b => a == b
  | .bl a, .num b => decide (b2i a = b)
  | .num a, .bl b => decide (a = b2i b)
  | .str a, .str b => txEq a b
  | .tup a, .tup b => dsEq a b
  | .lst a, .lst b => dsEq a b
  | _, _ => false
def dsEq : List Dt → List Dt → Bool
  | [], [] => true
  | a :: r, b :: t => dEq a b && dsEq r t
  | _, _ => false
end
def unfrz : Obj → Obj
  | .frz o => unfrz o
  | o => o
def listAt (h : Hs) (n : Nat) : Option (List Val) := match h[n]? with
  | some (.list vs) => some vs
  | some (.frz (.list vs)) => some vs
  | some (.lck vs) => some vs
  | _ => none
def dictAt (h : Hs) (n : Nat) : Option (List (Val × Val)) := match h[n]? with
  | some (.dict kvs) => some kvs
  | some (.frz (.dict kvs)) => some kvs
  | _ => none
def mapO {α β : Type} (f : α → Option β) : List α → Option (List β)
  | [] => some []
  | a :: r => match f a with
    | some b => (match mapO f r with
      | some t => some (b :: t)
      | none => none)
    | none => none
/-- a value as data, n deep -/
def deep (h : Hs) : Nat → Val → Option Dt
  | 0, _ => none
  | n + 1, v => match v with
    | .non => some .non
    | .bl b => some (.bl b)
    | .int i => some (.num i)
    | .str s => some (.str s)
    | .tup vs => (mapO (deep h n) vs).map .tup
    | .ref r => (match listAt h r with
      | some vs => (mapO (deep h n) vs).map .lst
      | none => none)
    | _ => none
def pyEq (h : Hs) (a b : Val) : Option Bool := match deep h 8 a, deep h 8 b with
  | some x, some y => some (dEq x y)
  | _, _ => none

inductive Out (α : Type) where
  | ok (a : α) (h : Hs) | ex (c : Nat) (h : Hs) | no
def Out.bind {α β : Type} (x : Out α) (f : α → Hs → Out β) : Out β := match x with
  | .ok a h => f a h
  | .ex c h => .ex c h
  | .no => .no
def opt {α : Type} (h : Hs) : Option α → Out α
  | some a => .ok a h
  | none => .no
inductive OutS where
  | nx (s : St) (h : Hs) | rt (v : Val) (h : Hs) | bk (s : St) (h : Hs) | ct (s : St) (h : Hs) | ex (c : Nat) (s : St) (h : Hs) | no

inductive Op where
  | add | sub | mul | mod | fdiv | pow
inductive Cm where
  | eq | ne | lt | le | gt | ge | is | isn | isIn | notIn
inductive Ty where
  | str | int | bool | tuple | list
/-- built-in functions -/
inductive Bi where
  | len | all | any | sum | tuple | list | dict | str | int | divmod | sorted | lenSet | sortedSet | min | tupleR | listR
/-- methods of built-in types -/
inductive Me where
  | append | extend | get | setdefault | pop | update | index | count | join | split | remove
inductive Tg where
  | name (i : Nat) | tup (is : List Nat)
mutual
inductive E where
  | var (i : Nat)
  | lit (v : Val)
  | glob (g : Nat)
  | tup (es : Es)
  | lst (es : Es)
  | dct (es : Es)
  | bin (o : Op) (a b : E)
  | cmp (c : Cm) (a b : E)
  | chain (c d : Cm) (a b e : E)
  | nee (a : E)
  | nil (n : Bool) (a : E)
  | and (a b : E)
  | or (a b : E)
  | orV (a b : E)
  | not (a : E)
  | neg (a : E)
  | ite (c a b : E)
  | idx (a i : E)
  | slc (a : E) (lo hi : Es)
  | rev (a : E)
  | call (f : Nat) (es : Es)
  | callOf (fs : List Nat) (i : E) (es : Es)
  | bi (b : Bi) (es : Es)
  | me (m : Me) (o : E) (es : Es)
  | isi (a : E) (t : Ty)
  | isx (a : E) (c : Nat)
  | fld (o : E) (f : Nat)
  | mth (o : E) (m : Nat) (es : Es)
  | new (c : Nat) (es : Es)
  | comp (elt : E) (tg : Tg) (it : It) (cond : Es)
  | dcomp (k v : E) (tg : Tg) (it : It)
inductive Es where
  | nil | cons (e : E) (r : Es)
inductive It where
  | ex (e : E) | rng (e : E) | rng2 (a b : E) | enum (e : E)
end
inductive Lv where
  | name (i : Nat) | tup (js : List Nat) | sub (o i : E) | fld (o : E) (f : Nat) | flds (o : Nat) (fs : List Nat)
mutual
inductive S where
  | ret (e : E) | expr (e : E) | asg (l : Lv) (e : E) | augN (i : Nat) (o : Op) (e : E) | augS (o i : E) (p : Op) (e : E)
  | ite (c : E) (a b : Ss) | forr (tg : Tg) (it : It) (b : Ss) | whil (c : E) (b : Ss) | pass | raise (c : Nat) | cont
  | tryW (b : Ss) (c i f : Nat) | tryN (b : Ss) (c : Nat)
inductive Ss where
  | nil | cons (s : S) (r : Ss)
end

def sizeMax : Nat := 16777216
def inI (i : Int) (b : Nat) : Bool := Nat.blt i.natAbs b
def new (h : Hs) (o : Obj) : Out Val := .ok (.ref h.length) (h ++ [o])
def rep {α : Type} (xs : List α) : Nat → List α
  | 0 => []
  | n + 1 => xs ++ rep xs n
def small (n : Nat) : Bool := Nat.ble n sizeMax

def binV (o : Op) (a b : Val) (h : Hs) : Out Val := match o with
  | .add => (match a, b with
    | .int i, .int j => .ok (.int (i + j)) h
    | .str s, .str t => if small (s.length + t.length) then .ok (.str (s ++ t)) h else .no
    | .tup s, .tup t => if small (s.length + t.length) then .ok (.tup (s ++ t)) h else .no
    | .ref m, .ref n => (match h[m]?, h[n]? with
      | some (.list s), some (.list t) => if small (s.length + t.length) then new h (.list (s ++ t)) else .no
      | _, _ => .no)
    | _, _ => .no)
  | .sub => (match a, b with
    | .int i, .int j => .ok (.int (i - j)) h
    | _, _ => .no)
  | .mul => (match a, b with
    | .int i, .int j => if inI i 18446744073709551616 || inI j 18446744073709551616 || (inI i (2 ^ 1000) && inI j (2 ^ 1000)) then .ok (.int (i * j)) h else .no
    | .str s, .int k => if decide (0 ≤ k) && Nat.ble k.toNat 1000 && Nat.ble s.length 1000 then .ok (.str (rep s k.toNat)) h else .no
    | .tup s, .int k => if decide (2 ≤ k) && Nat.ble k.toNat 1000 && Nat.ble s.length 1000 && !s.isEmpty then .ok (.tup (rep s k.toNat)) h else .no
    | .ref n, .int k => (match h[n]? with
      | some (.list s) => if decide (0 ≤ k) && Nat.ble k.toNat 1000 && Nat.ble s.length 1000 then new h (.list (rep s k.toNat)) else .no
      | _ => .no)
    | _, _ => .no)
  | .mod => (match a, b with
    | .int i, .int j => if decide (0 < j) then .ok (.int (i % j)) h else .no
    | _, _ => .no)
  | .fdiv => (match a, b with
    | .int i, .int j => if decide (0 < j) && inI j 1073741824 then .ok (.int (i / j)) h else .no
    | _, _ => .no)
  | .pow => (match a, b with
    | .int i, .int j => if decide (0 ≤ j) && Nat.ble j.toNat 1000 && inI i 18446744073709551616 then .ok (.int (i ^ j.toNat)) h else .no
    | _, _ => .no)

def dGet (kvs : List (Val × Val)) (k : Val) : Option Val := match kvs with
  | [] => none
  | (a, v) :: r => if vEq a k then some v else dGet r k
def dPut (kvs : List (Val × Val)) (k v : Val) : List (Val × Val) := match kvs with
  | [] => [(k, v)]
  | (a, x) :: r => if vEq a k then (a, v) :: r else (a, x) :: dPut r k v
def dDel (kvs : List (Val × Val)) (k : Val) : List (Val × Val) := match kvs with
  | [] => []
  | (a, x) :: r => if vEq a k then r else (a, x) :: dDel r k
def dPuts (kvs : List (Val × Val)) : List (Val × Val) → List (Val × Val)
  | [] => kvs
  | (k, v) :: r => dPuts (dPut kvs k v) r

def memN (c : Nat) : Tx → Bool
  | [] => false
  | x :: r => Nat.beq c x || memN c r
def flat : Val → Bool
  | .non => true
  | .bl _ => true
  | .int _ => true
  | .str _ => true
  | _ => false
def flatEq : Val → Val → Bool
  | .non, .non => true
  | .bl a, .bl b => a == b
  | .bl a, .int b => decide (b2i a = b)
  | .int a, .bl b => decide (a = b2i b)
  | .int a, .int b => decide (a = b)
  | .str a, .str b => txEq a b
  | _, _ => false
def inT (a : Val) (vs : List Val) : Option Bool := if flat a && vs.all flat then some (vs.any fun x => flatEq x a) else none
def inL (h : Hs) (a : Val) (vs : List Val) : Option Bool := match mapO (deep h 7) vs, deep h 7 a with
  | some ds, some d => some (ds.any fun z => dEq z d)
  | _, _ => none
def isIn (h : Hs) (a b : Val) : Option Bool := match b with
  | .str t => (match a with
    | .str [c] => some (memN c t)
    | _ => none)
  | .tup vs => inT a vs
  | .ref n => (match h[n]? with
    | some (.list vs) => inL h a vs
    | some (.frz (.list vs)) => inL h a vs
    | some (.lck vs) => inL h a vs
    | some (.dict kvs) => if isKey a then some (dGet kvs a).isSome else none
    | some (.frz (.dict kvs)) => if isKey a then some (dGet kvs a).isSome else none
    | _ => none)
  | _ => none
def isV (a b : Val) : Option Bool := match b with
  | .non => (match a with
    | .non => some true
    | _ => some false)
  | .bl b => (match a with
    | .bl a => some (a == b)
    | _ => some false)
  | _ => none
def cmpO (c : Cm) (a b : Val) (h : Hs) : Option Bool := match c with
  | .eq => pyEq h a b
  | .ne => (pyEq h a b).map not
  | .lt => (match a, b with
    | .int i, .int j => some (decide (i < j))
    | _, _ => none)
  | .le => (match a, b with
    | .int i, .int j => some (decide (i ≤ j))
    | _, _ => none)
  | .gt => (match a, b with
    | .int i, .int j => some (decide (j < i))
    | _, _ => none)
  | .ge => (match a, b with
    | .int i, .int j => some (decide (j ≤ i))
    | _, _ => none)
  | .is => isV a b
  | .isn => (isV a b).map not
  | .isIn => isIn h a b
  | .notIn => (isIn h a b).map not
def cmpV (c : Cm) (a b : Val) (h : Hs) : Out Val := match cmpO c a b h with
  | some t => .ok (.bl t) h
  | none => .no

def atI {α : Type} (xs : List α) (i : Int) : Option α := if i < 0 then (if (xs.length : Int) + i < 0 then none else xs[((xs.length : Int) + i).toNat]?) else xs[i.toNat]?
def idxV (a i : Val) (h : Hs) : Out Val := match a with
  | .tup vs => (match i with
    | .int i => opt h (atI vs i)
    | _ => .no)
  | .str s => (match i with
    | .int i => if decide (0 ≤ i) then opt h ((s[i.toNat]?).map fun c => .str [c]) else .no
    | _ => .no)
  | .ref n => (match h[n]? with
    | some (.list vs) => (match i with
      | .int i => opt h (atI vs i)
      | _ => .no)
    | some (.frz (.list vs)) => (match i with
      | .int i => opt h (atI vs i)
      | _ => .no)
    | some (.lck vs) => (match i with
      | .int i => opt h (atI vs i)
      | _ => .no)
    | some (.dict kvs) => if isKey i then opt h (dGet kvs i) else .no
    | some (.frz (.dict kvs)) => if isKey i then opt h (dGet kvs i) else .no
    | _ => .no)
  | _ => .no
def clampI (n : Nat) (i : Int) : Nat := if i < 0 then ((n : Int) + i).toNat else min i.toNat n
def cut {α : Type} (xs : List α) (lo hi : Option Int) : List α :=
  let a := match lo with | none => 0 | some i => clampI xs.length i
  let b := match hi with | none => xs.length | some i => clampI xs.length i
  (xs.drop a).take (b - a)
def optI : List Val → Option (Option Int)
  | [] => some none
  | [.int i] => if inI i 1073741824 then some (some i) else none
  | _ => none
def revV (a : Val) (h : Hs) : Out Val := match a with
  | .tup vs => .ok (.tup vs.reverse) h
  | .ref n => (match listAt h n with
    | some vs => new h (.list vs.reverse)
    | none => .no)
  | _ => .no
def slcV (a : Val) (l u : Option Int) (h : Hs) : Out Val := match a with
  | .tup vs => .ok (.tup (cut vs l u)) h
  | .str s => .ok (.str (cut s l u)) h
  | .ref n => (match listAt h n with
    | some vs => new h (.list (cut vs l u))
    | none => .no)
  | _ => .no

mutual
def vLt : Val → Val → Option Bool
  | .int a, .int b => some (decide (a < b))
  | .str a, .str b => some (txLt a b)
  | .tup a, .tup b => vsLt a b
  | _, _ => none
def vsLt : List Val → List Val → Option Bool
  | [], [] => some false
  | [], _ :: _ => some true
  | _ :: _, [] => some false
  | a :: r, b :: t => if vEq a b then vsLt r t else vLt a b
def txLt : Tx → Tx → Bool
  | [], [] => false
  | [], _ :: _ => true
  | _ :: _, [] => false
  | a :: r, b :: t => if Nat.beq a b then txLt r t else Nat.blt a b
end
def kIt : Val → Int ⊕ Tx
  | .int i => .inl i
  | .str s => .inr s
  | _ => .inl 0
def kVal : Val → List (Int ⊕ Tx)
  | .tup vs => vs.map kIt
  | .str s => [.inr s]
  | _ => []
def itLt : Int ⊕ Tx → Int ⊕ Tx → Bool
  | .inl a, .inl b => decide (a < b)
  | .inl _, .inr _ => true
  | .inr _, .inl _ => false
  | .inr a, .inr b => txLt a b
def lexK : List (Int ⊕ Tx) → List (Int ⊕ Tx) → Bool
  | [], [] => false
  | [], _ :: _ => true
  | _ :: _, [] => false
  | x :: r, y :: t => itLt x y || (!itLt y x && lexK r t)
def ltB (x y : Val) : Bool := lexK (kVal x) (kVal y)
def insB (x : Val) : List Val → List Val
  | [] => [x]
  | y :: r => if ltB y x then y :: insB x r else x :: y :: r
def srt : List Val → List Val
  | [] => []
  | x :: r => insB x (srt r)
def shI : Val → Option Bool
  | .int _ => some false
  | .str _ => some true
  | _ => none
def isStrV : Val → Bool
  | .str _ => true
  | _ => false
def sameSh : List Bool → List Val → Bool
  | [], [] => true
  | b :: r, v :: t => (match shI v with
    | some c => b == c
    | none => false) && sameSh r t
  | _, _ => false
def tupSh (sh : List Bool) : Val → Bool
  | .tup us => sameSh sh us
  | _ => false
/-- what may be sorted: texts alone, or tuples of one shape -/
def sortOk : List Val → Bool
  | [] => true
  | .str _ :: r => r.all isStrV
  | .tup (w :: ws) :: r => (match mapO shI (w :: ws) with
    | some sh => r.all (tupSh sh)
    | none => false)
  | _ => false
/-- a tuple of ints and texts -/
def flIt : Val → Bool
  | .int _ => true
  | .str _ => true
  | _ => false
def flTup : Val → Bool
  | .tup vs => vs.all flIt
  | _ => false
def uniq : List Val → List Val
  | [] => []
  | x :: r => x :: (uniq r).filter fun y => !vEq x y
def minV : List Val → Option Val
  | [] => none
  | [x] => some x
  | x :: r => match minV r with
    | some m => (match vLt m x with
      | some true => some m
      | some false => some x
      | none => none)
    | none => none

def rng (a : Int) : Nat → List Val
  | 0 => []
  | n + 1 => .int a :: rng (a + 1) n
def iterV (a : Val) (h : Hs) : Option (List Val) := match a with
  | .tup vs => some vs
  | .str s => some (s.map fun c => .str [c])
  | .ref n => (match h[n]? with
    | some (.list vs) => some vs
    | some (.frz (.list vs)) => some vs
    | some (.lck vs) => some vs
    | some (.dict kvs) => some (kvs.map (·.1))
    | some (.frz (.dict kvs)) => some (kvs.map (·.1))
    | _ => none)
  | _ => none
def seqV (a : Val) (h : Hs) : Option (List Val) := match a with
  | .tup vs => some vs
  | .ref n => listAt h n
  | _ => none
def allB : List Val → Option Bool
  | [] => some true
  | .bl b :: r => (allB r).map (b && ·)
  | _ => none
def anyB : List Val → Option Bool
  | [] => some false
  | .bl b :: r => (anyB r).map (b || ·)
  | _ => none
def sumI : List Val → Option Int
  | [] => some 0
  | .int i :: r => (sumI r).map (i + ·)
  | _ => none
def sumLen : List Tx → Nat
  | [] => 0
  | s :: r => s.length + sumLen r
def pairs : List Val → Option (List (Val × Val))
  | [] => some []
  | .tup [k, v] :: r => if isKey k then (pairs r).map ((k, v) :: ·) else none
  | _ => none
def biV (b : Bi) (as : List Val) (h : Hs) : Out Val := match b, as with
  | .len, [.str s] => .ok (.int s.length) h
  | .len, [.tup vs] => .ok (.int vs.length) h
  | .len, [.ref n] => (match listAt h n with
    | some vs => .ok (.int vs.length) h
    | none => (match dictAt h n with
      | some kvs => .ok (.int kvs.length) h
      | none => .no))
  | .all, [.ref n] => (match listAt h n with
    | some vs => opt h ((allB vs).map .bl)
    | none => .no)
  | .any, [.ref n] => (match listAt h n with
    | some vs => opt h ((anyB vs).map .bl)
    | none => .no)
  | .sum, [.ref n] => (match listAt h n with
    | some vs => opt h ((sumI vs).map .int)
    | none => .no)
  | .tuple, [a] => (match seqV a h with
    | some vs => .ok (.tup vs) h
    | none => .no)
  | .list, [a] => (match seqV a h with
    | some vs => new h (.list vs)
    | none => .no)
  | .dict, [.ref n] => (match listAt h n with
    | some vs => (match pairs vs with
      | some ps => new h (.dict (dPuts [] ps))
      | none => .no)
    | none => (match dictAt h n with
      | some kvs => if Nat.ble kvs.length 8 && kvs.all (fun q => isStrV q.1) then new h (.dict (dPuts [] kvs)) else .no
      | none => .no))
  | .str, [.int i] => if decide (0 ≤ i) && Nat.blt i.toNat 10 then .ok (.str [48 + i.toNat]) h else .no
  | .int, [.str [c]] => if Nat.ble 48 c && Nat.ble c 57 then .ok (.int ((c - 48 : Nat) : Int)) h else .no
  | .divmod, [.int i, .int j] => if decide (0 < j) && inI j 1073741824 then .ok (.tup [.int (i / j), .int (i % j)]) h else .no
  | .sorted, [.ref n] => (match listAt h n with
    | some vs => if sortOk vs then new h (.list (srt vs)) else .no
    | none => (match dictAt h n with
      | some kvs => if sortOk (kvs.map (·.1)) then new h (.list (srt (kvs.map (·.1)))) else .no
      | none => .no))
  | .sortedSet, [.ref n] => (match listAt h n with
    | some vs => if sortOk vs && Nat.blt vs.length 64 then new h (.list (srt (uniq vs))) else .no
    | none => .no)
  | .lenSet, [.ref n] => (match listAt h n with
    | some vs => if vs.all flTup && Nat.blt vs.length 64 then .ok (.int (uniq vs).length) h else .no
    | none => .no)
  | .tupleR, [.int j] => if inI j 1073741824 then .ok (.tup (rng 0 j.toNat)) h else .no
  | .listR, [.int j] => if inI j 1073741824 then new h (.list (rng 0 j.toNat)) else .no
  | .min, [.ref n] => (match listAt h n with
    | some vs => opt h (minV vs)
    | none => .no)
  | _, _ => .no
/-- the first place of an item -/
def dIdx (d : Dt) : List Dt → Nat → Option Nat
  | [], _ => none
  | x :: r, k => if dEq x d then some k else dIdx d r (k + 1)
def idxOf (h : Hs) (a : Val) (vs : List Val) : Option Nat := match mapO (deep h 7) vs, deep h 7 a with
  | some ds, some d => dIdx d ds 0
  | _, _ => none
def cntOf (a : Val) (vs : List Val) : Option Nat := if flat a && vs.all flat then some (vs.countP fun x => flatEq x a) else none
def txIdx (c : Nat) : Tx → Nat → Option Nat
  | [], _ => none
  | x :: r, k => if Nat.beq x c then some k else txIdx c r (k + 1)
def joinTx (sep : Tx) : List Tx → Tx
  | [] => []
  | [s] => s
  | s :: r => s ++ sep ++ joinTx sep r
def txsOf : List Val → Option (List Tx)
  | [] => some []
  | .str s :: r => (txsOf r).map (s :: ·)
  | _ => none
/-- cut at each c -/
def splitTx (c : Nat) : Tx → List Tx
  | [] => [[]]
  | x :: r => if Nat.beq x c then [] :: splitTx c r else (match splitTx c r with
    | s :: t => (x :: s) :: t
    | [] => [[x]])
def eraseV (h : Hs) (a : Val) : List Val → Option (List Val)
  | [] => none
  | x :: r => match pyEq h x a with
    | some true => some r
    | some false => (eraseV h a r).map (x :: ·)
    | none => none
def meV (m : Me) (o : Val) (as : List Val) (h : Hs) : Out Val := match o with
  | .ref n => (match h[n]? with
    | some (.list vs) => (match m, as with
      | .append, [v] => if Nat.blt vs.length sizeMax then .ok .non (h.set n (.list (vs ++ [v]))) else .no
      | .extend, [.ref k] => (match h[k]? with
        | some (.list ws) => if small (vs.length + ws.length) && !Nat.beq n k then .ok .non (h.set n (.list (vs ++ ws))) else .no
        | _ => .no)
      | .pop, [] => (match vs.reverse with
        | v :: r => .ok v (h.set n (.list r.reverse))
        | [] => .no)
      | .pop, [.int i] => if decide (0 ≤ i) then (match vs[i.toNat]? with
        | some v => .ok v (h.set n (.list (vs.eraseIdx i.toNat)))
        | none => .no) else .no
      | .index, [v] => opt h ((idxOf h v vs).map fun (k : Nat) => Val.int (k : Int))
      | .count, [v] => opt h ((cntOf v vs).map fun (k : Nat) => Val.int (k : Int))
      | .remove, [v] => (match eraseV h v vs with
        | some ws => .ok .non (h.set n (.list ws))
        | none => .no)
      | _, _ => .no)
    | some (.dict kvs) => (match m, as with
      | .get, [k] => if isKey k then .ok ((dGet kvs k).getD .non) h else .no
      | .get, [k, d] => if isKey k then .ok ((dGet kvs k).getD d) h else .no
      | .setdefault, [k, d] => if isKey k && Nat.blt kvs.length sizeMax then (match dGet kvs k with
        | some v => .ok v h
        | none => .ok d (h.set n (.dict (kvs ++ [(k, d)])))) else .no
      | .pop, [k, d] => if isKey k then (match dGet kvs k with
        | some v => .ok v (h.set n (.dict (dDel kvs k)))
        | none => .ok d h) else .no
      | .update, [.ref k] => (match dictAt h k with
        | some more => if small (kvs.length + more.length) && !Nat.beq n k && !kvs.isEmpty then .ok .non (h.set n (.dict (dPuts kvs more))) else .no
        | none => .no)
      | _, _ => .no)
    | some (.frz (.list vs)) => (match m, as with
      | .index, [v] => opt h ((idxOf h v vs).map fun (k : Nat) => Val.int (k : Int))
      | .count, [v] => opt h ((cntOf v vs).map fun (k : Nat) => Val.int (k : Int))
      | _, _ => .no)
    | some (.lck vs) => (match m, as with
      | .index, [v] => opt h ((idxOf h v vs).map fun (k : Nat) => Val.int (k : Int))
      | .count, [v] => opt h ((cntOf v vs).map fun (k : Nat) => Val.int (k : Int))
      | _, _ => .no)
    | some (.frz (.dict kvs)) => (match m, as with
      | .get, [k] => if isKey k then .ok ((dGet kvs k).getD .non) h else .no
      | .get, [k, d] => if isKey k then .ok ((dGet kvs k).getD d) h else .no
      | _, _ => .no)
    | _ => .no)
  | .tup vs => (match m, as with
    | .count, [v] => opt h ((cntOf v vs).map fun (k : Nat) => Val.int (k : Int))
    | _, _ => .no)
  | .str s => (match m, as with
    | .index, [.str [c]] => if txEq s [102, 109, 115, 100] then opt h ((txIdx c s 0).map fun (k : Nat) => Val.int (k : Int)) else .no
    | .join, [.ref n] => (match listAt h n with
      | some vs => (match txsOf vs with
        | some ts => if small (sumLen ts + ts.length * s.length) then .ok (.str (joinTx s ts)) h else .no
        | none => .no)
      | none => .no)
    | .split, [.str [c]] => if small (s.length + 2) && Nat.blt c 256 then new h (.list ((splitTx c s).map .str)) else .no
    | _, _ => .no)
  | _ => .no
inductive Kd where
  | list | dict | str | tuple
def kdOf (a : Val) (h : Hs) : Option Kd := match a with
  | .str _ => some .str
  | .tup _ => some .tuple
  | .ref n => (match h[n]? with
    | some (.list _) => some .list
    | some (.frz (.list _)) => some .list
    | some (.lck _) => some .list
    | some (.dict _) => some .dict
    | some (.frz (.dict _)) => some .dict
    | _ => none)
  | _ => none
def okMe1 : Kd → Me → Bool
  | .list, .append => true
  | .list, .extend => true
  | .list, .index => true
  | .list, .count => true
  | .dict, .get => true
  | .dict, .setdefault => true
  | .str, .join => true
  | .str, .split => true
  | .str, .index => true
  | _, _ => false
def okMe : Kd → Me → Bool
  | .list, .append => true
  | .list, .extend => true
  | .list, .index => true
  | .list, .count => true
  | .dict, .get => true
  | .dict, .setdefault => true
  | .dict, .update => true
  | .list, .pop => true
  | .dict, .pop => true
  | .str, .join => true
  | .str, .split => true
  | .str, .index => true
  | _, _ => false
/-- more methods -/
def okMe2 : Kd → Me → Bool
  | .dict, .update => true
  | _, _ => false
def okMe3 : Kd → Me → Bool
  | .list, .pop => true
  | .dict, .pop => true
  | _, _ => false
theorem okMe_or {k : Kd} {m : Me} (h : okMe k m = true) : okMe1 k m = true ∨ okMe2 k m = true ∨ okMe3 k m = true := by
  cases k <;> cases m <;> first | exact .inl rfl | exact .inr (.inl rfl) | exact .inr (.inr rfl) | cases h
def isKd (k : Kd) (a : Val) (h : Hs) : Bool := match k, kdOf a h with
  | .list, some .list => true
  | .dict, some .dict => true
  | .str, some .str => true
  | .tuple, some .tuple => true
  | _, _ => false
def meK (k : Kd) (m : Me) (o : Val) (as : List Val) (h : Hs) : Out Val := if isKd k o h then meV m o as h else .no
def isiV (a : Val) (t : Ty) (h : Hs) : Option Bool := match a with
  | .non => some false
  | .bl _ => (match t with
    | .bool => some true
    | .int => some true
    | _ => some false)
  | .int _ => (match t with
    | .int => some true
    | _ => some false)
  | .str _ => (match t with
    | .str => some true
    | _ => some false)
  | .tup _ => (match t with
    | .tuple => some true
    | _ => some false)
  | .ref n => (match h[n]? with
    | some (.list _) => (match t with
      | .list => some true
      | _ => some false)
    | some (.frz (.list _)) => (match t with
      | .list => some true
      | _ => some false)
    | some (.lck _) => (match t with
      | .list => some true
      | _ => some false)
    | _ => none)
  | _ => none

def truthy (v : Val) : Option Bool := match v with
  | .bl b => some b
  | .non => some false
  | .str s => some !s.isEmpty
  | _ => none
def sets (s : St) : List Nat → List Val → Option St
  | [], [] => some s
  | i :: r, v :: t => sets (s.set i (some v)) r t
  | _, _ => none
def tgSet (tg : Tg) (v : Val) (s : St) (h : Hs) : Option St := match tg with
  | .name i => some (s.set i (some v))
  | .tup js => (match v with
    | .tup vs => sets s js vs
    | .ref n => (match listAt h n with
      | some vs => sets s js vs
      | none => none)
    | _ => none)
def lock (h : Hs) (n : Nat) : Hs := match h[n]? with
  | some (.list vs) => h.set n (.lck vs)
  | some (.dict kvs) => h.set n (.frz (.dict kvs))
  | _ => h
def unlock (h0 h : Hs) (n : Nat) : Hs := match h0[n]? with
  | some o => h.set n o
  | none => h
structure Src where
  items : List Val
  lk : Option Nat
  dk : Bool
def srcOf (a : Val) (h : Hs) : Option Src := match a with
  | .tup vs => some ⟨vs, none, false⟩
  | .str s => some ⟨s.map fun c => .str [c], none, false⟩
  | .ref n => (match listAt h n with
    | some vs => some ⟨vs, some n, false⟩
    | none => (match dictAt h n with
      | some kvs => some ⟨kvs.map (·.1), some n, true⟩
      | none => none))
  | _ => none
def enumV (k : Nat) : List Val → List Val
  | [] => []
  | v :: r => .tup [.int k, v] :: enumV (k + 1) r
def lkd (s : Src) (h : Hs) : Hs := match s.lk with
  | some n => lock h n
  | none => h
def unlkd (s : Src) (h0 h : Hs) : Hs := match s.lk with
  | some n => unlock h0 h n
  | none => h
def dcompGo (f : Val → Hs → Out (Option Val)) : List Val → Hs → Out (List Val)
  | [], h => .ok [] h
  | v :: r, h => match f v h with
    | .ok (some x) h1 => (match dcompGo f r h1 with
      | .ok vs h2 => .ok (x :: vs) h2
      | _ => .no)
    | .ok none h1 => dcompGo f r h1
    | _ => .no
/-- the new list stands at n, locked, while its items come -/
def compGo (f : Val → Hs → Out (Option Val)) (n : Nat) : List Val → List Val → Hs → Out (List Val)
  | [], acc, h => .ok acc h
  | v :: r, acc, h => match f v h with
    | .ok (some x) h1 => if Nat.blt acc.length sizeMax then compGo f n r (acc ++ [x]) (h1.set n (.lck (acc ++ [x]))) else .no
    | .ok none h1 => compGo f n r acc h1
    | _ => .no
def compTurn (ec : St → Hs → Out (List Val)) (ee : St → Hs → Out Val) (tg : Tg) (s : St) (v : Val) (h : Hs) : Out (Option Val) := match tgSet tg v s h with
  | some s2 => (match ec s2 h with
    | .ok [] h2 => (match ee s2 h2 with
      | .ok x h3 => .ok (some x) h3
      | _ => .no)
    | .ok [.bl true] h2 => (match ee s2 h2 with
      | .ok x h3 => .ok (some x) h3
      | _ => .no)
    | .ok [.bl false] h2 => .ok none h2
    | _ => .no)
  | none => .no
def dcompTurn (ek ev : St → Hs → Out Val) (tg : Tg) (s : St) (z : Val) (h : Hs) : Out (Option Val) := match tgSet tg z s h with
  | some s2 => (match ek s2 h with
    | .ok x h2 => (match ev s2 h2 with
      | .ok y h3 => .ok (some (.tup [x, y])) h3
      | _ => .no)
    | _ => .no)
  | none => .no
structure Fn where
  pars : Nat
  slots : Nat
  dfl : List Val
  body : Ss
structure Cls where
  init : Nat
  meths : List (Nat × Nat)
structure Glo where
  fns : List Fn
  cst : List Val
  cls : List Cls
  exc : List (List Nat)
  fuel : Nat
abbrev CallF := Nat → List Val → Hs → Out Val
def alist (l : List (Nat × α)) (k : Nat) : Option α := match l with
  | [] => none
  | (a, v) :: r => if Nat.beq a k then some v else alist r k
def alistPut (l : List (Nat × α)) (k : Nat) (v : α) : List (Nat × α) := match l with
  | [] => [(k, v)]
  | (a, x) :: r => if Nat.beq a k then (a, v) :: r else (a, x) :: alistPut r k v
def fldV (G : Glo) (o : Val) (f : Nat) (h : Hs) : Out Val := match o with
  | .ref n => (match h[n]? with
    | some (.inst c fs) => (match G.cls[c]? with
      | some _ => opt h (alist fs f)
      | none => .no)
    | _ => .no)
  | _ => .no

mutual
def refsV : Val → List Nat
  | .tup vs => refsVs vs
  | .ref n => [n]
  | _ => []
def refsVs : List Val → List Nat
  | [] => []
  | v :: r => refsV v ++ refsVs r
end
mutual
def mapR (p : Nat → Nat) : Val → Val
  | .tup vs => .tup (mapRs p vs)
  | .ref n => .ref (p n)
  | v => v
def mapRs (p : Nat → Nat) : List Val → List Val
  | [] => []
  | v :: r => mapR p v :: mapRs p r
end
def refsO : Obj → List Nat
  | .list vs => refsVs vs
  | .dict kvs => refsVs (kvs.map (·.2))
  | .inst _ fs => refsVs (fs.map (·.2))
  | .frz o => refsO o
  | .lck vs => refsVs vs
def mapRO (p : Nat → Nat) : Obj → Obj
  | .list vs => .list (mapRs p vs)
  | .dict kvs => .dict (kvs.map fun q => (q.1, mapR p q.2))
  | .inst c fs => .inst c (fs.map fun q => (q.1, mapR p q.2))
  | .frz o => .frz (mapRO p o)
  | .lck vs => .lck (mapRs p vs)
def reach (h : Hs) : Nat → List Nat → List Nat → List Nat
  | 0, _, acc => acc
  | _ + 1, [], acc => acc
  | f + 1, n :: r, acc => if memN n acc then reach h f r acc else reach h f ((match h[n]? with
    | some o => refsO o
    | none => []) ++ r) (acc ++ [n])
def idxN (n : Nat) : List Nat → Nat → Nat
  | [], k => k
  | x :: r, k => if Nat.beq x n then k else idxN n r (k + 1)
def nodupN : List Nat → Bool
  | [] => true
  | x :: r => !memN x r && nodupN r
def closedB (h : Hs) (ns rs : List Nat) : Bool := nodupN ns && rs.all (fun n => memN n ns) && ns.all fun n => match h[n]? with
  | some o => (refsO o).all fun n => memN n ns
  | none => false
def subOf (h : Hs) (ns : List Nat) : Hs := ns.map fun n => match h[n]? with
  | some o => mapRO (fun n => idxN n ns 0) o
  | none => .list []
def wb (h : Hs) : List Nat → Hs → Hs
  | n :: r, o :: t => wb (h.set n o) r t
  | _, _ => h
/-- back: the old places, the new ones behind all -/
def backN (ns : List Nat) (n j : Nat) : Nat := match ns[j]? with
  | some k => k
  | none => n + (j - ns.length)
def below (m : Nat) (l : List Nat) : Bool := l.all fun n => Nat.blt n m
def putBack (h : Hs) (ns : List Nat) (rs : List Nat) (h1 : Hs) : Hs :=
  if below ns.length rs && (h1.take ns.length).all (fun o => below ns.length (refsO o)) then wb h ns ((h1.take ns.length).map (mapRO (backN ns h.length)))
  else wb h ns ((h1.take ns.length).map (mapRO (backN ns h.length))) ++ (h1.drop ns.length).map (mapRO (backN ns h.length))
def callSub (call : CallF) (f : Nat) (vs : List Val) (h : Hs) (ns rs : List Nat) : Out Val := if closedB h ns rs then (match call f (mapRs (fun n => idxN n ns 0) vs) (subOf h ns) with
    | .ok v h1 => .ok (mapR (backN ns h.length) v) (putBack h ns (refsV v) h1)
    | .ex c h1 => .ex c (putBack h ns [] h1)
    | .no => .no) else .no
def callE (call : CallF) (f : Nat) (vs : List Val) (h : Hs) : Out Val := match refsVs vs with
  | [] => (match call f vs [] with
    | .ok v h1 => (match refsV v with
      | [] => .ok v h
      | _ => .ok (mapR (· + h.length) v) (h ++ h1.map (mapRO (· + h.length))))
    | .ex c _ => .ex c h
    | .no => .no)
  | r :: rs => callSub call f vs h (reach h 10000 (r :: rs) []) (r :: rs)
mutual
def evE (G : Glo) (call : CallF) : E → St → Hs → Out Val
  | .var i, s, h => (match s[i]? with
    | some (some v) => .ok v h
    | _ => .no)
  | .lit v, _, h => .ok v h
  | .glob g, _, h => opt h G.cst[g]?
  | .tup es, s, h => (evEs G call es s h).bind fun vs h => .ok (.tup vs) h
  | .lst es, s, h => (evEs G call es s h).bind fun vs h => new h (.list vs)
  | .dct es, s, h => (evEs G call es s h).bind fun vs h => (match vs with
    | [] => new h (.dict [])
    | [k, v] => if isKey k then new h (.dict [(k, v)]) else .no
    | _ => .no)
  | .bin o a b, s, h => (evE G call a s h).bind fun x h => (evE G call b s h).bind fun y h => binV o x y h
  | .cmp c a b, s, h => (evE G call a s h).bind fun x h => (evE G call b s h).bind fun y h => cmpV c x y h
  | .chain c d a b e, s, h => (evE G call a s h).bind fun x h => (evE G call b s h).bind fun y h => (cmpV c x y h).bind fun t h => (match t with
    | .bl true => (evE G call e s h).bind fun z h => cmpV d y z h
    | .bl false => .ok (.bl false) h
    | _ => .no)
  | .nee a, s, h => (evE G call a s h).bind fun x h => (match x with
    | .ref n => (match h[n]? with
      | some (.dict kvs) => .ok (.bl !kvs.isEmpty) h
      | _ => .no)
    | _ => .no)
  | .nil n a, s, h => (evE G call a s h).bind fun x h => (match x with
    | .ref k => (match listAt h k with
      | some vs => .ok (.bl (if n then !vs.isEmpty else vs.isEmpty)) h
      | none => .no)
    | _ => .no)
  | .and a b, s, h => (evE G call a s h).bind fun x h => (match x with
    | .bl true => evE G call b s h
    | .bl false => .ok (.bl false) h
    | _ => .no)
  | .or a b, s, h => (evE G call a s h).bind fun x h => (match x with
    | .bl true => .ok (.bl true) h
    | .bl false => evE G call b s h
    | _ => .no)
  | .orV a b, s, h => (evE G call a s h).bind fun x h => (match truthy x with
    | some true => .ok x h
    | some false => evE G call b s h
    | none => .no)
  | .not a, s, h => (evE G call a s h).bind fun x h => (match x with
    | .bl b => .ok (.bl !b) h
    | _ => .no)
  | .neg a, s, h => (evE G call a s h).bind fun x h => (match x with
    | .int i => .ok (.int (-i)) h
    | _ => .no)
  | .ite c a b, s, h => (evE G call c s h).bind fun x h => (match x with
    | .bl true => evE G call a s h
    | .bl false => evE G call b s h
    | _ => .no)
  | .idx a i, s, h => (evE G call a s h).bind fun x h => (evE G call i s h).bind fun y h => idxV x y h
  | .slc a lo hi, s, h => (evE G call a s h).bind fun x h => (evEs G call lo s h).bind fun l h => (match optI l with
    | some l => (evEs G call hi s h).bind fun u h => (match optI u with
      | some u => slcV x l u h
      | none => .no)
    | none => .no)
  | .rev a, s, h => (evE G call a s h).bind fun x h => revV x h
  | .call f es, s, h => (evEs G call es s h).bind fun vs h => callE call f vs h
  | .callOf fs i es, s, h => (evE G call i s h).bind fun x h => (match x with
    | .int k => if decide (0 ≤ k) then (match fs[k.toNat]? with
      | some f => (evEs G call es s h).bind fun vs h => callE call f vs h
      | none => .no) else .no
    | _ => .no)
  | .bi b es, s, h => (evEs G call es s h).bind fun vs h => biV b vs h
  | .me m o es, s, h => (evE G call o s h).bind fun x h => (match kdOf x h with
    | some k => if okMe k m then (evEs G call es s h).bind fun vs h => meK k m x vs h else .no
    | none => .no)
  | .isi a t, s, h => (evE G call a s h).bind fun x h => opt h ((isiV x t h).map .bl)
  | .isx a c, s, h => (evE G call a s h).bind fun x h => (match x with
    | .exc k => (match G.exc[k]? with
      | some l => .ok (.bl (l.contains c)) h
      | none => .no)
    | _ => .no)
  | .fld o f, s, h => (evE G call o s h).bind fun x h => fldV G x f h
  | .mth o m es, s, h => (evE G call o s h).bind fun x h => (match x with
    | .ref n => (match h[n]? with
      | some (.inst c _) => (match (G.cls[c]?).bind fun k => alist k.meths m with
        | some f => (evEs G call es s h).bind fun vs h => callE call f (x :: vs) h
        | none => .no)
      | _ => .no)
    | _ => .no)
  | .new c es, s, h => (evEs G call es s h).bind fun vs h => (match G.cls[c]? with
    | some k => (callE call k.init (.ref h.length :: vs) (h ++ [.inst c []])).bind fun r h' => (match r with
      | .non => .ok (.ref h.length) h'
      | _ => .no)
    | none => .no)
  | .comp elt tg it cond, s, h => (evI G call it s h).bind fun src h1 => (match compGo (compTurn (fun s h => evEs G call cond s h) (fun s h => evE G call elt s h) tg s) h1.length src.items [] (lkd src h1 ++ [.lck []]) with
    | .ok vs h2 => .ok (.ref h1.length) ((unlkd src h1 h2).set h1.length (.list vs))
    | _ => .no)
  | .dcomp k v tg it, s, h => (evI G call it s h).bind fun src h1 => (match dcompGo (dcompTurn (fun s h => evE G call k s h) (fun s h => evE G call v s h) tg s) src.items (lkd src h1) with
    | .ok vs h2 => (match pairs vs with
      | some ps => if small vs.length then new (unlkd src h1 h2) (.dict (dPuts [] ps)) else .no
      | none => .no)
    | _ => .no)
def evEs (G : Glo) (call : CallF) : Es → St → Hs → Out (List Val)
  | .nil, _, h => .ok [] h
  | .cons e r, s, h => (evE G call e s h).bind fun x h => (evEs G call r s h).bind fun vs h => .ok (x :: vs) h
def evI (G : Glo) (call : CallF) : It → St → Hs → Out Src
  | .ex e, s, h => (evE G call e s h).bind fun x h => opt h (srcOf x h)
  | .rng e, s, h => (evE G call e s h).bind fun x h => (match x with
    | .int j => if inI j 1073741824 then .ok ⟨rng 0 j.toNat, none, false⟩ h else .no
    | _ => .no)
  | .rng2 a b, s, h => (evE G call a s h).bind fun x h => (evE G call b s h).bind fun y h => (match x, y with
    | .int i, .int j => if inI i 1073741824 && inI j 1073741824 then .ok ⟨rng i (j - i).toNat, none, false⟩ h else .no
    | _, _ => .no)
  | .enum e, s, h => (evE G call e s h).bind fun x h => (match srcOf x h with
    | some src => if src.dk then .no else .ok ⟨enumV 0 src.items, src.lk, false⟩ h
    | none => .no)
end

/-- a value without addresses, two deep -/
def plainV : Val → Bool
  | .non => true
  | .bl _ => true
  | .int _ => true
  | .str _ => true
  | _ => false
def pureV : Val → Bool
  | .tup vs => vs.all plainV
  | v => plainV v
def forGo (f : Val → St → Hs → OutS) : List Val → St → Hs → OutS
  | [], s, h => .nx s h
  | v :: r, s, h => match f v s h with
    | .nx s h => forGo f r s h
    | .ct s h => forGo f r s h
    | .bk s h => .nx s h
    | x => x
def forTurn (eb : St → Hs → OutS) (tg : Tg) (v : Val) (s : St) (h : Hs) : OutS := match tgSet tg v s h with
  | some s2 => eb s2 h
  | none => .no
def whileGo (c : St → Hs → Out Val) (f : St → Hs → OutS) : Nat → St → Hs → OutS
  | 0, _, _ => .no
  | n + 1, s, h => match c s h with
    | .ok (.bl true) h => (match f s h with
      | .nx s h => whileGo c f n s h
      | .ct s h => whileGo c f n s h
      | .bk s h => .nx s h
      | x => x)
    | .ok (.bl false) h => .nx s h
    | .ex c h => .ex c s h
    | _ => .no
def Out.toS (x : Out α) (s : St) (f : α → Hs → OutS) : OutS := match x with
  | .ok a h => f a h
  | .ex c h => .ex c s h
  | .no => .no
def subSet (o i v : Val) (h : Hs) : Option Hs := match o with
  | .ref n => (match h[n]? with
    | some (.list vs) => (match i with
      | .int k => if decide (0 ≤ k) && Nat.blt k.toNat vs.length then some (h.set n (.list (vs.set k.toNat v))) else none
      | _ => none)
    | some (.dict kvs) => if isKey i && Nat.blt kvs.length sizeMax then some (h.set n (.dict (dPut kvs i v))) else none
    | _ => none)
  | _ => none
def augGet (o i : Val) (h : Hs) : Out Val := match o with
  | .ref n => (match h[n]? with
    | some (.list vs) => (match i with
      | .int k => if decide (0 ≤ k) && inI k 1073741824 then opt h vs[k.toNat]? else .no
      | _ => .no)
    | _ => .no)
  | _ => .no
def fldSet (G : Glo) (o : Val) (f : Nat) (v : Val) (h : Hs) : Option Hs := match o with
  | .ref n => (match h[n]? with
    | some (.inst c fs) => (match G.cls[c]? with
      | some _ => if Nat.blt fs.length 100 then some (h.set n (.inst c (alistPut fs f v))) else none
      | none => none)
    | _ => none)
  | _ => none
def fldsSet (G : Glo) (o : Val) : List Nat → List Val → Hs → Option Hs
  | [], [], h => some h
  | f :: r, v :: t, h => (match fldSet G o f v h with
    | some h => fldsSet G o r t h
    | none => none)
  | _, _, _ => none
def optS (s : St) : Option Hs → OutS
  | some h => .nx s h
  | none => .no
def lvSet (G : Glo) (call : CallF) (l : Lv) (v : Val) (s : St) (h : Hs) : OutS := match l with
  | .name i => .nx (s.set i (some v)) h
  | .tup js => (match v with
    | .tup vs => (match sets s js vs with
      | some s => .nx s h
      | none => .no)
    | _ => .no)
  | .sub o i => (evE G call o s h).toS s fun x h => (evE G call i s h).toS s fun y h => optS s (subSet x y v h)
  | .fld o f => (evE G call o s h).toS s fun x h => optS s (fldSet G x f v h)
  | .flds o fs => (match s[o]?, v with
    | some (some x), .tup vs => optS s (fldsSet G x fs vs h)
    | _, _ => .no)
mutual
def exS (G : Glo) (call : CallF) : S → St → Hs → OutS
  | .ret e, s, h => (evE G call e s h).toS s fun v h => .rt v h
  | .expr e, s, h => (evE G call e s h).toS s fun _ h => .nx s h
  | .asg l e, s, h => (evE G call e s h).toS s fun v h => lvSet G call l v s h
  | .augN i o e, s, h => (match s[i]? with
    | some (some x) => (evE G call e s h).toS s fun v h => (match x, v with
      | .int a, .int b => .nx (s.set i (some (.int (a + b)))) h
      | .str a, .str b => if small (a.length + b.length) then .nx (s.set i (some (.str (a ++ b)))) h else .no
      | _, _ => .no)
    | _ => .no)
  | .augS o i p e, s, h => (evE G call o s h).toS s fun x h => (evE G call i s h).toS s fun y h => (augGet x y h).toS s fun z h => (evE G call e s h).toS s fun v h => (match z, v with
    | .int a, .int b => optS s (subSet x y (.int (a + b)) h)
    | _, _ => .no)
  | .ite c a b, s, h => (evE G call c s h).toS s fun x h => (match x with
    | .bl true => exSs G call a s h
    | .bl false => exSs G call b s h
    | _ => .no)
  | .forr tg it b, s, h => (evI G call it s h).toS s fun src h1 => (match forGo (forTurn (fun s h => exSs G call b s h) tg) src.items s (lkd src h1) with
    | .nx s h2 => .nx s (unlkd src h1 h2)
    | .rt v h2 => .rt v (unlkd src h1 h2)
    | .ex c s h2 => if src.dk then .no else .ex c s (unlkd src h1 h2)
    | _ => .no)
  | .whil c b, s, h => whileGo (fun s h => evE G call c s h) (fun s h => exSs G call b s h) G.fuel s h
  | .pass, s, h => .nx s h
  | .raise c, s, h => .ex c s h
  | .cont, s, h => .ct s h
  | .tryW b c i f, s, h => (match exSs G call b s h with
    | .ex k s h2 => (match G.exc[k]? with
      | some l => if l.contains c then (match call f [.exc k] [] with
          | .ok v _ => if pureV v then .rt v h2 else .no
          | _ => .no) else .ex k s h2
      | none => .no)
    | x => x)
  | .tryN b c, s, h => (match exSs G call b s h with
    | .ex k s h2 => (match G.exc[k]? with
      | some l => if l.contains c then .rt .non h2 else .ex k s h2
      | none => .no)
    | x => x)
def exSs (G : Glo) (call : CallF) : Ss → St → Hs → OutS
  | .nil, s, h => .nx s h
  | .cons a r, s, h => (match exS G call a s h with
    | .nx s h => exSs G call r s h
    | x => x)
end
def startOf (F : Fn) (vs : List Val) : St := vs.map some ++ List.replicate (F.slots - vs.length) none
def callAt (G : Glo) : Nat → CallF
  | 0 => fun _ _ _ => .no
  | k + 1 => fun f as h => match G.fns[f]? with
    | some F => if Nat.ble as.length F.pars && Nat.ble F.pars (as.length + F.dfl.length) then
        (match exSs G (callAt G k) F.body (startOf F (as ++ F.dfl.drop (F.dfl.length - (F.pars - as.length)))) h with
        | .nx _ h => .ok .non h
        | .rt v h => .ok v h
        | .ex c _ h => .ex c h
        | _ => .no) else .no
    | none => .no
end Kn
namespace Kn
theorem memNat_iff {n : Nat} : ∀ {l : List Nat}, memN n l = true ↔ n ∈ l
  | [] => by simp [memN]
  | x :: r => by
    unfold memN
    rw [Bool.or_eq_true, memNat_iff (l := r), List.mem_cons]
    constructor
    · rintro (h | h)
      · exact .inl (Nat.eq_of_beq_eq_true h)
      · exact .inr h
    · rintro (h | h)
      · exact .inl (by subst h; exact Nat.beq_refl _)
      · exact .inr h
theorem nodupN_iff : ∀ {l : List Nat}, nodupN l = true ↔ l.Nodup
  | [] => by simp [nodupN]
  | x :: r => by
    unfold nodupN
    rw [Bool.and_eq_true, nodupN_iff (l := r), List.nodup_cons, Bool.not_eq_true']
    constructor
    · rintro ⟨h, h2⟩
      exact ⟨fun z => by (rw [memNat_iff.mpr z] at h; cases h), h2⟩
    · rintro ⟨h, h2⟩
      refine ⟨?_, h2⟩
      cases e : memN x r with
      | false => rfl
      | true => exact absurd (memNat_iff.mp e) h
theorem idxN_get {n : Nat} : ∀ {l : List Nat} {k : Nat}, n ∈ l → k ≤ idxN n l k ∧ l[idxN n l k - k]? = some n
  | [], k, h => by cases h
  | x :: r, k, h => by
    unfold idxN
    by_cases e : x = n
    · subst e
      rw [if_pos (Nat.beq_refl x)]
      simp
    · rw [if_neg (by intro z; exact e (Nat.eq_of_beq_eq_true z))]
      have hm : n ∈ r := by
        rcases List.mem_cons.mp h with z | z
        · exact absurd z.symm e
        · exact z
      obtain ⟨h1, h2⟩ := idxN_get (l := r) (k := k + 1) hm
      refine ⟨by omega, ?_⟩
      have : idxN n r (k + 1) - k = (idxN n r (k + 1) - (k + 1)) + 1 := by omega
      rw [this, List.getElem?_cons_succ]
      exact h2
theorem idxN_at {n : Nat} {l : List Nat} (h : n ∈ l) : l[idxN n l 0]? = some n := (idxN_get (k := 0) h).2
theorem backN_idx {n m : Nat} {l : List Nat} (h : n ∈ l) : backN l m (idxN n l 0) = n := by
  unfold backN
  rw [idxN_at h]
mutual
theorem mapR_id {p : Nat → Nat} : ∀ (v : Val), (∀ n ∈ refsV v, p n = n) → mapR p v = v
  | .non, _ => rfl
  | .bl _, _ => rfl
  | .int _, _ => rfl
  | .str _, _ => rfl
  | .tup vs, h => by unfold mapR; rw [mapRs_id vs (by unfold refsV at h; exact h)]
  | .ref n, h => by unfold mapR; rw [h n (by unfold refsV; simp)]
  | .fn _, _ => rfl
  | .exc _, _ => rfl
theorem mapRs_id {p : Nat → Nat} : ∀ (vs : List Val), (∀ n ∈ refsVs vs, p n = n) → mapRs p vs = vs
  | [], _ => rfl
  | v :: r, h => by
    unfold refsVs at h
    unfold mapRs
    rw [mapR_id v fun n hn => h n (List.mem_append_left _ hn), mapRs_id r fun n hn => h n (List.mem_append_right _ hn)]
end
mutual
theorem mapR_comp {p q : Nat → Nat} : ∀ (v : Val), mapR q (mapR p v) = mapR (fun n => q (p n)) v
  | .non => rfl
  | .bl _ => rfl
  | .int _ => rfl
  | .str _ => rfl
  | .tup vs => by simp only [mapR]; rw [mapRs_comp vs]
  | .ref n => rfl
  | .fn _ => rfl
  | .exc _ => rfl
theorem mapRs_comp {p q : Nat → Nat} : ∀ (vs : List Val), mapRs q (mapRs p vs) = mapRs (fun n => q (p n)) vs
  | [] => rfl
  | v :: r => by simp only [mapRs]; rw [mapR_comp v, mapRs_comp r]
end
theorem kv_id {α : Type} {p : Nat → Nat} : ∀ (l : List (α × Val)), (∀ n ∈ refsVs (l.map (·.2)), p n = n) → l.map (fun q => (q.1, mapR p q.2)) = l
  | [], _ => rfl
  | (a, v) :: r, h => by
    simp only [List.map_cons, refsVs] at h ⊢
    rw [mapR_id v fun n hn => h n (List.mem_append_left _ hn), kv_id r fun n hn => h n (List.mem_append_right _ hn)]
theorem mapRO_id {p : Nat → Nat} : ∀ (o : Obj), (∀ n ∈ refsO o, p n = n) → mapRO p o = o
  | .list vs, h => by unfold mapRO; rw [mapRs_id vs h]
  | .dict kvs, h => by unfold mapRO; rw [kv_id kvs h]
  | .inst c fs, h => by unfold mapRO; rw [kv_id fs h]
  | .frz o, h => by unfold mapRO; rw [mapRO_id o h]
  | .lck vs, h => by unfold mapRO; rw [mapRs_id vs h]
theorem mapRO_comp {p q : Nat → Nat} : ∀ (o : Obj), mapRO q (mapRO p o) = mapRO (fun n => q (p n)) o
  | .list vs => by simp only [mapRO]; rw [mapRs_comp]
  | .dict kvs => by simp only [mapRO, List.map_map]; congr 1; refine List.map_congr_left fun x _ => ?_; simp only [Function.comp]; rw [mapR_comp]
  | .inst c fs => by simp only [mapRO, List.map_map]; congr 1; refine List.map_congr_left fun x _ => ?_; simp only [Function.comp]; rw [mapR_comp]
  | .frz o => by simp only [mapRO]; rw [mapRO_comp o]
  | .lck vs => by simp only [mapRO]; rw [mapRs_comp]
theorem wb_len : ∀ {ns : List Nat} {l h : Hs}, (wb h ns l).length = h.length
  | [], _, _ => by unfold wb; rfl
  | n :: r, [], _ => by unfold wb; rfl
  | n :: r, o :: t, h => by unfold wb; rw [wb_len, List.length_set]
theorem wb_ne {n : Nat} : ∀ {ns : List Nat} {l h : Hs}, n ∉ ns → (wb h ns l)[n]? = h[n]?
  | [], _, _, _ => by unfold wb; rfl
  | m :: r, [], _, _ => by unfold wb; rfl
  | m :: r, o :: t, h, hn => by
    unfold wb
    rw [List.mem_cons, not_or] at hn
    rw [wb_ne hn.2, List.getElem?_set_ne fun z => hn.1 z.symm]
theorem wb_at : ∀ {ns : List Nat} {l h : Hs} {i n : Nat} {o : Obj}, ns.Nodup → ns[i]? = some n → l[i]? = some o → n < h.length → (wb h ns l)[n]? = some o
  | [], _, _, _, _, _, _, e, _, _ => by simp at e
  | m :: r, [], _, _, _, _, _, _, e, _ => by simp at e
  | m :: r, x :: t, h, 0, n, o, nd, e, e2, hl => by
    simp at e e2
    subst e e2
    unfold wb
    rw [wb_ne (List.nodup_cons.mp nd).1, List.getElem?_set_self hl]
  | m :: r, x :: t, h, i + 1, n, o, nd, e, e2, hl => by
    unfold wb
    exact wb_at (List.nodup_cons.mp nd).2 (by simpa using e) (by simpa using e2) (by rw [List.length_set]; exact hl)
structure Closed (h : Hs) (ns rs : List Nat) : Prop where
  nd : ns.Nodup
  rs : ∀ n ∈ rs, n ∈ ns
  ob : ∀ n ∈ ns, ∃ o, h[n]? = some o ∧ ∀ m ∈ refsO o, m ∈ ns
theorem closedB_ok {h : Hs} {ns rs : List Nat} (e : closedB h ns rs = true) : Closed h ns rs := by
  unfold closedB at e
  simp only [Bool.and_eq_true, List.all_eq_true] at e
  obtain ⟨⟨h1, h2⟩, h3⟩ := e
  refine ⟨nodupN_iff.mp h1, fun n hn => memNat_iff.mp (h2 n hn), fun n hn => ?_⟩
  have := h3 n hn
  cases eo : h[n]? with
  | none => rw [eo] at this; cases this
  | some o =>
    rw [eo] at this
    simp only [List.all_eq_true] at this
    exact ⟨o, rfl, fun m hm => memNat_iff.mp (this m hm)⟩
theorem subOf_len {h : Hs} {ns : List Nat} : (subOf h ns).length = ns.length := by unfold subOf; rw [List.length_map]
theorem subOf_at {h : Hs} {ns : List Nat} {i n : Nat} {o : Obj} (e : ns[i]? = some n) (eo : h[n]? = some o) : (subOf h ns)[i]? = some (mapRO (fun n => idxN n ns 0) o) := by
  unfold subOf
  rw [List.getElem?_map, e, Option.map_some, eo]
theorem isLk_map {p : Nat → Nat} {o : Obj} (l : (match o with | .frz _ => true | .lck _ => true | _ => false) = true) : (match mapRO p o with | .frz _ => true | .lck _ => true | _ => false) = true := by
  cases o <;> simp [mapRO] at l ⊢
/-- an object, there and back -/
theorem there_back {h : Hs} {ns rs : List Nat} (c : Closed h ns rs) {n : Nat} {o : Obj} (hn : n ∈ ns) (eo : h[n]? = some o) (m : Nat) : mapRO (backN ns m) (mapRO (fun n => idxN n ns 0) o) = o := by
  rw [mapRO_comp]
  obtain ⟨o', e', hr⟩ := c.ob n hn
  rw [eo] at e'; cases e'
  exact mapRO_id o fun k hk => backN_idx (hr k hk)
end Kn
namespace Kn
def isLk : Obj → Bool
  | .frz _ => true
  | .lck _ => true
  | _ => false
def Fz (h h' : Hs) : Prop := ∀ (n : Nat) (o : Obj), h[n]? = some o → isLk o = true → h'[n]? = some o
theorem Fz.refl {h : Hs} : Fz h h := fun _ _ e _ => e
theorem Fz.trans {a b c : Hs} (x : Fz a b) (y : Fz b c) : Fz a c := fun n o e l => y n o (x n o e l) l
theorem Fz.app {h l : Hs} : Fz h (h ++ l) := fun n o e _ => by
  rw [List.getElem?_append_left (List.getElem?_eq_some_iff.mp e).1]; exact e
theorem Fz.set {h : Hs} {n : Nat} {o o' : Obj} (e : h[n]? = some o) (l : isLk o = false) : Fz h (h.set n o') := fun m x ex lx => by
  by_cases hm : n = m
  · subst hm
    rw [e] at ex; cases ex
    rw [l] at lx; cases lx
  · rw [List.getElem?_set_ne hm]; exact ex
def KO {α : Type} (h : Hs) : Out α → Prop
  | .ok _ h' => Fz h h'
  | .ex _ h' => Fz h h'
  | .no => True
def KS (h : Hs) : OutS → Prop
  | .nx _ h' => Fz h h'
  | .rt _ h' => Fz h h'
  | .bk _ h' => Fz h h'
  | .ct _ h' => Fz h h'
  | .ex _ _ h' => Fz h h'
  | .no => True
theorem KO.bind {α β : Type} {h : Hs} {x : Out α} {f : α → Hs → Out β} (a : KO h x) (b : ∀ v h', KO h' (f v h')) : KO h (x.bind f) := by
  cases x with
  | no => trivial
  | ex c h' => exact a
  | ok v h' =>
    have := b v h'
    show KO h (f v h')
    cases e : f v h' with
    | no => trivial
    | ok w h2 => rw [e] at this; exact Fz.trans a this
    | ex c h2 => rw [e] at this; exact Fz.trans a this
theorem KO.toS {α : Type} {h : Hs} {s : St} {x : Out α} {f : α → Hs → OutS} (a : KO h x) (b : ∀ v h', KS h' (f v h')) : KS h (x.toS s f) := by
  cases x with
  | no => trivial
  | ex c h' => exact a
  | ok v h' =>
    have := b v h'
    show KS h (f v h')
    cases e : f v h' <;> rw [e] at this <;> first | trivial | exact Fz.trans a this
theorem KS.trans {h h' : Hs} {x : OutS} (a : Fz h h') (b : KS h' x) : KS h x := by
  cases x <;> first | trivial | exact Fz.trans a b
theorem KO.trans {α : Type} {h h' : Hs} {x : Out α} (a : Fz h h') (b : KO h' x) : KO h x := by
  cases x <;> first | trivial | exact Fz.trans a b
theorem KO.opt {α : Type} {h : Hs} {o : Option α} : KO h (opt h o) := by
  cases o <;> first | trivial | exact Fz.refl
theorem KO.new {h : Hs} {o : Obj} : KO h (new h o) := Fz.app
theorem binV_k (o : Op) (a b : Val) (h : Hs) : KO h (binV o a b h) := by
  unfold binV
  repeat' split
  all_goals first | trivial | exact Fz.refl | exact KO.new
theorem cmpV_k (o : Cm) (a b : Val) (h : Hs) : KO h (cmpV o a b h) := by
  unfold cmpV
  repeat' split
  all_goals first | trivial | exact Fz.refl | exact KO.new
theorem idxV_k (a b : Val) (h : Hs) : KO h (idxV a b h) := by
  unfold idxV
  repeat' split
  all_goals first | trivial | exact Fz.refl | exact KO.opt
theorem slcV_k (a : Val) (l u : Option Int) (h : Hs) : KO h (slcV a l u h) := by
  unfold slcV
  repeat' split
  all_goals first | trivial | exact Fz.refl | exact KO.new
theorem revV_k (a : Val) (h : Hs) : KO h (revV a h) := by
  unfold revV
  repeat' split
  all_goals first | trivial | exact Fz.refl | exact KO.new
theorem biV_k (b : Bi) (as : List Val) (h : Hs) : KO h (biV b as h) := by
  unfold biV
  repeat' split
  all_goals first | trivial | exact Fz.refl | exact KO.new | exact KO.opt
theorem meV_k (m : Me) (o : Val) (as : List Val) (h : Hs) : KO h (meV m o as h) := by
  unfold meV
  repeat' split
  all_goals first | trivial | exact Fz.refl | exact KO.new | exact KO.opt | (rename_i e _ _ _; exact Fz.set e rfl) | skip
  all_goals first | exact Fz.set ‹_[_]? = some (Obj.list _)› rfl | exact Fz.set ‹_[_]? = some (Obj.dict _)› rfl
theorem meK_k (k : Kd) (m : Me) (o : Val) (as : List Val) (h : Hs) : KO h (meK k m o as h) := by
  unfold meK
  split
  · exact meV_k m o as h
  · trivial
theorem augGet_k (o i : Val) (h : Hs) : KO h (augGet o i h) := by
  unfold augGet
  repeat' split
  all_goals first | trivial | exact KO.opt
theorem fldV_k (G : Glo) (o : Val) (f : Nat) (h : Hs) : KO h (fldV G o f h) := by
  unfold fldV
  repeat' split
  all_goals first | trivial | exact KO.opt
theorem lock_k (h : Hs) (n : Nat) : Fz h (lock h n) := by
  unfold lock
  split
  · exact Fz.set ‹_› rfl
  · exact Fz.set ‹_› rfl
  · exact Fz.refl
theorem unlock_k {h h2 : Hs} {n : Nat} (x : Fz (lock h n) h2) : Fz h (unlock h h2 n) := by
  intro m o e l
  have e2 := x m o (lock_k h n m o e l) l
  unfold unlock
  split
  · rename_i o' e'
    by_cases hm : n = m
    · subst hm
      rw [e] at e'; cases e'
      rw [List.getElem?_set_self (List.getElem?_eq_some_iff.mp e2).1]
    · rw [List.getElem?_set_ne hm]; exact e2
  · exact e2
theorem lkd_k (s : Src) (h : Hs) : Fz h (lkd s h) := by
  unfold lkd
  split
  · exact lock_k _ _
  · exact Fz.refl
theorem lkd_len (s : Src) (h : Hs) : (lkd s h).length = h.length := by
  unfold lkd lock
  repeat' split
  all_goals simp
theorem unlkd_k {s : Src} {h h2 : Hs} (x : Fz (lkd s h) h2) : Fz h (unlkd s h h2) := by
  unfold lkd at x
  unfold unlkd
  split
  · rename_i e; rw [e] at x; exact unlock_k x
  · rename_i e; rw [e] at x; exact x
theorem dcompGo_k {f : Val → Hs → Out (Option Val)} (hf : ∀ v h, KO h (f v h)) : ∀ (l : List Val) (h : Hs), KO h (dcompGo f l h)
  | [], h => Fz.refl
  | v :: r, h => by
    unfold dcompGo
    have := hf v h
    split
    · rename_i e; rw [e] at this
      have ih := dcompGo_k hf r ‹_›
      split
      · rename_i e2; rw [e2] at ih; exact Fz.trans this ih
      · trivial
    · rename_i e; rw [e] at this
      exact KO.trans this (dcompGo_k hf r _)
    · trivial
theorem compGo_k {f : Val → Hs → Out (Option Val)} (hf : ∀ v h, KO h (f v h)) {n : Nat} {h0 : Hs} (hn : h0.length ≤ n) : ∀ (l acc : List Val) (h : Hs), Fz h0 h → KO h0 (compGo f n l acc h)
  | [], _, h, k => k
  | v :: r, acc, h, k => by
    unfold compGo
    have := hf v h
    split
    · rename_i e; rw [e] at this
      split
      · refine compGo_k hf hn r _ _ fun m o e l => ?_
        rw [List.getElem?_set_ne (fun z => by
          have := (List.getElem?_eq_some_iff.mp e).1
          omega)]
        exact this m o (k m o e l) l
      · trivial
    · rename_i e; rw [e] at this
      exact compGo_k hf hn r _ _ (Fz.trans k this)
    · trivial
theorem compTurn_k {ec : St → Hs → Out (List Val)} {ee : St → Hs → Out Val} (h1 : ∀ s h, KO h (ec s h)) (h2 : ∀ s h, KO h (ee s h)) (tg : Tg) (s : St) (v : Val) (h : Hs) : KO h (compTurn ec ee tg s v h) := by
  unfold compTurn
  split
  · rename_i s2 _
    have k1 := h1 s2 h
    split
    · rename_i e1; rw [e1] at k1
      have k2 := h2 s2 ‹_›
      split
      · rename_i e2; rw [e2] at k2; exact Fz.trans k1 k2
      · trivial
    · rename_i e1; rw [e1] at k1
      have k2 := h2 s2 ‹_›
      split
      · rename_i e2; rw [e2] at k2; exact Fz.trans k1 k2
      · trivial
    · rename_i e1; rw [e1] at k1; exact k1
    · trivial
  · trivial
theorem dcompTurn_k {ek ev : St → Hs → Out Val} (h1 : ∀ s h, KO h (ek s h)) (h2 : ∀ s h, KO h (ev s h)) (tg : Tg) (s : St) (v : Val) (h : Hs) : KO h (dcompTurn ek ev tg s v h) := by
  unfold dcompTurn
  split
  · rename_i s2 _
    have k1 := h1 s2 h
    split
    · rename_i e1; rw [e1] at k1
      have k2 := h2 s2 ‹_›
      split
      · rename_i e2; rw [e2] at k2; exact Fz.trans k1 k2
      · trivial
    · trivial
  · trivial
theorem forTurn_k {eb : St → Hs → OutS} (h1 : ∀ s h, KS h (eb s h)) (tg : Tg) (v : Val) (s : St) (h : Hs) : KS h (forTurn eb tg v s h) := by
  unfold forTurn
  split
  · exact h1 _ h
  · trivial
theorem putBack_k {h h1 : Hs} {ns rs rs' : List Nat} (c : Closed h ns rs) (k : Fz (subOf h ns) h1) : Fz h (putBack h ns rs' h1) := by
  have key : ∀ n o, h[n]? = some o → isLk o = true → (wb h ns ((h1.take ns.length).map (mapRO (backN ns h.length))))[n]? = some o := fun n o e l => by
    by_cases hn : n ∈ ns
    · obtain ⟨i, hi⟩ := List.getElem?_of_mem hn
      have h2 := k i _ (subOf_at hi e) (by unfold isLk; exact isLk_map (by unfold isLk at l; exact l))
      have hl : i < ns.length := (List.getElem?_eq_some_iff.mp hi).1
      refine wb_at c.nd hi ?_ (List.getElem?_eq_some_iff.mp e).1
      rw [List.getElem?_map, List.getElem?_take, if_pos hl, h2, Option.map_some, there_back c hn e]
    · rw [wb_ne hn]; exact e
  unfold putBack
  split
  · exact key
  · intro n o e l
    have := key n o e l
    rw [List.getElem?_append_left (List.getElem?_eq_some_iff.mp this).1]
    exact this
theorem callSub_k {call : CallF} (hc : ∀ f vs h, KO h (call f vs h)) (f : Nat) (vs : List Val) (h : Hs) (ns rs : List Nat) : KO h (callSub call f vs h ns rs) := by
  unfold callSub
  split
  · rename_i cl
    have c := closedB_ok cl
    have k := hc f (mapRs (fun n => idxN n ns 0) vs) (subOf h ns)
    split
    · rename_i e; rw [e] at k; exact putBack_k c k
    · rename_i e; rw [e] at k; exact putBack_k c k
    · trivial
  · trivial
theorem callE_k {call : CallF} (hc : ∀ f vs h, KO h (call f vs h)) (f : Nat) (vs : List Val) (h : Hs) : KO h (callE call f vs h) := by
  unfold callE
  split
  · split
    · split
      · exact Fz.refl
      · exact Fz.app
    · exact Fz.refl
    · trivial
  · exact callSub_k hc f vs h _ _
section
variable {G : Glo} {call : CallF} (hc : ∀ f vs h, KO h (call f vs h))
include hc
mutual
theorem evE_k : ∀ (e : E) (s : St) (h : Hs), KO h (evE G call e s h)
  | .var i, s, h => by unfold evE; split <;> first | trivial | exact Fz.refl
  | .lit v, s, h => by unfold evE; exact Fz.refl
  | .glob g, s, h => by unfold evE; exact KO.opt
  | .tup es, s, h => by unfold evE; exact (evEs_k es s h).bind fun v h => Fz.refl
  | .lst es, s, h => by unfold evE; exact (evEs_k es s h).bind fun v h => KO.new
  | .dct es, s, h => by
    unfold evE
    refine (evEs_k es s h).bind fun v h => ?_
    repeat' split
    all_goals first | trivial | exact KO.new
  | .bin o a b, s, h => by unfold evE; exact (evE_k a s h).bind fun x h => (evE_k b s h).bind fun y h => binV_k o x y h
  | .cmp c a b, s, h => by unfold evE; exact (evE_k a s h).bind fun x h => (evE_k b s h).bind fun y h => cmpV_k c x y h
  | .chain c d a b e, s, h => by
    unfold evE
    refine (evE_k a s h).bind fun x h => (evE_k b s h).bind fun y h => (cmpV_k c x y h).bind fun t h => ?_
    split
    · exact (evE_k e s h).bind fun z h => cmpV_k d y z h
    · exact Fz.refl
    · trivial
  | .nee a, s, h => by
    unfold evE
    refine (evE_k a s h).bind fun x h => ?_
    repeat' split
    all_goals first | trivial | exact Fz.refl
  | .nil n a, s, h => by
    unfold evE
    refine (evE_k a s h).bind fun x h => ?_
    repeat' split
    all_goals first | trivial | exact Fz.refl
  | .and a b, s, h => by
    unfold evE
    refine (evE_k a s h).bind fun x h => ?_
    split
    · exact evE_k b s h
    · exact Fz.refl
    · trivial
  | .or a b, s, h => by
    unfold evE
    refine (evE_k a s h).bind fun x h => ?_
    split
    · exact Fz.refl
    · exact evE_k b s h
    · trivial
  | .orV a b, s, h => by
    unfold evE
    refine (evE_k a s h).bind fun x h => ?_
    split
    · exact Fz.refl
    · exact evE_k b s h
    · trivial
  | .not a, s, h => by
    unfold evE
    refine (evE_k a s h).bind fun x h => ?_
    split <;> first | trivial | exact Fz.refl
  | .neg a, s, h => by
    unfold evE
    refine (evE_k a s h).bind fun x h => ?_
    split <;> first | trivial | exact Fz.refl
  | .ite c a b, s, h => by
    unfold evE
    refine (evE_k c s h).bind fun x h => ?_
    split
    · exact evE_k a s h
    · exact evE_k b s h
    · trivial
  | .idx a i, s, h => by unfold evE; exact (evE_k a s h).bind fun x h => (evE_k i s h).bind fun y h => idxV_k x y h
  | .slc a lo hi, s, h => by
    unfold evE
    refine (evE_k a s h).bind fun x h => (evEs_k lo s h).bind fun l h => ?_
    split
    · refine (evEs_k hi s h).bind fun u h => ?_
      split
      · exact slcV_k _ _ _ h
      · trivial
    · trivial
  | .rev a, s, h => by unfold evE; exact (evE_k a s h).bind fun x h => revV_k x h
  | .call f es, s, h => by unfold evE; exact (evEs_k es s h).bind fun vs h => callE_k hc f vs h
  | .callOf fs i es, s, h => by
    unfold evE
    refine (evE_k i s h).bind fun x h => ?_
    repeat' split
    all_goals first | trivial | exact (evEs_k es s h).bind fun vs h => callE_k hc _ vs h
  | .bi b es, s, h => by unfold evE; exact (evEs_k es s h).bind fun vs h => biV_k b vs h
  | .me m o es, s, h => by
    unfold evE
    refine (evE_k o s h).bind fun x h => ?_
    repeat' split
    all_goals first | trivial | exact (evEs_k es s h).bind fun vs h => meK_k _ m x vs h
  | .isi a t, s, h => by unfold evE; exact (evE_k a s h).bind fun x h => KO.opt
  | .isx a c, s, h => by
    unfold evE
    refine (evE_k a s h).bind fun x h => ?_
    repeat' split
    all_goals first | trivial | exact Fz.refl
  | .fld o f, s, h => by unfold evE; exact (evE_k o s h).bind fun x h => fldV_k G x f h
  | .mth o m es, s, h => by
    unfold evE
    refine (evE_k o s h).bind fun x h => ?_
    repeat' split
    all_goals first | trivial | exact (evEs_k es s h).bind fun vs h => callE_k hc _ (_ :: vs) h
  | .new c es, s, h => by
    unfold evE
    refine (evEs_k es s h).bind fun vs h => ?_
    split
    · refine KO.trans Fz.app ((callE_k hc _ _ _).bind fun r h' => ?_)
      split <;> first | trivial | exact Fz.refl
    · trivial
  | .comp elt tg it cond, s, h => by
    unfold evE
    refine (evI_k it s h).bind fun src h1 => ?_
    have key := compGo_k (compTurn_k (fun s h => evEs_k cond s h) (fun s h => evE_k elt s h) tg s) (Nat.le_of_eq (lkd_len src h1)) src.items [] (lkd src h1 ++ [.lck []]) Fz.app
    split
    · rename_i e; rw [e] at key
      intro m o e l
      rw [List.getElem?_set_ne (fun z => by
        have := (List.getElem?_eq_some_iff.mp e).1
        omega)]
      exact unlkd_k key m o e l
    · trivial
  | .dcomp k v tg it, s, h => by
    unfold evE
    refine (evI_k it s h).bind fun src h1 => ?_
    have key := dcompGo_k (dcompTurn_k (fun s h => evE_k k s h) (fun s h => evE_k v s h) tg s) src.items (lkd src h1)
    split
    · rename_i e; rw [e] at key
      split
      · split
        · exact KO.trans (unlkd_k key) KO.new
        · trivial
      · trivial
    · trivial
theorem evEs_k : ∀ (es : Es) (s : St) (h : Hs), KO h (evEs G call es s h)
  | .nil, s, h => by unfold evEs; exact Fz.refl
  | .cons e r, s, h => by unfold evEs; exact (evE_k e s h).bind fun x h => (evEs_k r s h).bind fun vs h => Fz.refl
theorem evI_k : ∀ (i : It) (s : St) (h : Hs), KO h (evI G call i s h)
  | .ex e, s, h => by unfold evI; exact (evE_k e s h).bind fun x h => KO.opt
  | .rng e, s, h => by
    unfold evI
    refine (evE_k e s h).bind fun x h => ?_
    repeat' split
    all_goals first | trivial | exact Fz.refl
  | .rng2 a b, s, h => by
    unfold evI
    refine (evE_k a s h).bind fun x h => (evE_k b s h).bind fun y h => ?_
    repeat' split
    all_goals first | trivial | exact Fz.refl
  | .enum e, s, h => by
    unfold evI
    refine (evE_k e s h).bind fun x h => ?_
    repeat' split
    all_goals first | trivial | exact Fz.refl
end
omit hc in
theorem forGo_k {f : Val → St → Hs → OutS} (hf : ∀ v s h, KS h (f v s h)) : ∀ (l : List Val) (s : St) (h : Hs), KS h (forGo f l s h)
  | [], s, h => Fz.refl
  | v :: r, s, h => by
    unfold forGo
    have := hf v s h
    split
    · rename_i e; rw [e] at this; exact KS.trans this (forGo_k hf r _ _)
    · rename_i e; rw [e] at this; exact KS.trans this (forGo_k hf r _ _)
    · rename_i e; rw [e] at this; exact this
    · exact this
omit hc in
theorem whileGo_k {c : St → Hs → Out Val} {f : St → Hs → OutS} (hcn : ∀ s h, KO h (c s h)) (hf : ∀ s h, KS h (f s h)) : ∀ (n : Nat) (s : St) (h : Hs), KS h (whileGo c f n s h)
  | 0, s, h => trivial
  | n + 1, s, h => by
    unfold whileGo
    have k1 := hcn s h
    split
    · rename_i h1 e; rw [e] at k1
      have k2 := hf s h1
      split
      · rename_i e2; rw [e2] at k2; exact KS.trans k1 (KS.trans k2 (whileGo_k hcn hf n _ _))
      · rename_i e2; rw [e2] at k2; exact KS.trans k1 (KS.trans k2 (whileGo_k hcn hf n _ _))
      · rename_i e2; rw [e2] at k2; exact Fz.trans k1 k2
      · exact KS.trans k1 k2
    · rename_i e; rw [e] at k1; exact k1
    · rename_i e; rw [e] at k1; exact k1
    · trivial
omit hc in
theorem subSet_k {o i v : Val} {h h' : Hs} (e : subSet o i v h = some h') : Fz h h' := by
  unfold subSet at e
  repeat' split at e
  all_goals first | cases e; done | skip
  all_goals (cases e; first | exact Fz.set ‹_[_]? = some (Obj.list _)› rfl | exact Fz.set ‹_[_]? = some (Obj.dict _)› rfl)
omit hc in
theorem fldSet_k {o : Val} {f : Nat} {v : Val} {h h' : Hs} (e : fldSet G o f v h = some h') : Fz h h' := by
  unfold fldSet at e
  repeat' split at e
  all_goals first | (cases e; done) | (cases e; exact Fz.set ‹_[_]? = some (Obj.inst _ _)› rfl)
omit hc in
theorem fldsSet_k {o : Val} : ∀ {fs : List Nat} {vs : List Val} {h h' : Hs}, fldsSet G o fs vs h = some h' → Fz h h'
  | [], [], h, h', e => by cases e; exact Fz.refl
  | [], _ :: _, h, h', e => by cases e
  | _ :: _, [], h, h', e => by cases e
  | f :: r, v :: t, h, h', e => by
    unfold fldsSet at e
    split at e
    · rename_i e1; exact Fz.trans (fldSet_k e1) (fldsSet_k e)
    · cases e
theorem lvSet_k (l : Lv) (v : Val) (s : St) (h : Hs) : KS h (lvSet G call l v s h) := by
  unfold lvSet
  split
  · exact Fz.refl
  · repeat' split
    all_goals first | trivial | exact Fz.refl
  · refine (evE_k hc _ s h).toS fun x h => (evE_k hc _ s h).toS fun y h => ?_
    unfold optS
    split
    · rename_i e; exact subSet_k e
    · trivial
  · refine (evE_k hc _ s h).toS fun x h => ?_
    unfold optS
    split
    · rename_i e; exact fldSet_k e
    · trivial
  · split
    · unfold optS
      split
      · rename_i e; exact fldsSet_k e
      · trivial
    · trivial
mutual
theorem exS_k : ∀ (a : S) (s : St) (h : Hs), KS h (exS G call a s h)
  | .ret e, s, h => by unfold exS; exact (evE_k hc e s h).toS fun v h => Fz.refl
  | .expr e, s, h => by unfold exS; exact (evE_k hc e s h).toS fun v h => Fz.refl
  | .asg l e, s, h => by unfold exS; exact (evE_k hc e s h).toS fun v h => lvSet_k hc l v s h
  | .augN i o e, s, h => by
    unfold exS
    split
    · refine (evE_k hc e s h).toS fun v h => ?_
      repeat' split
      all_goals first | trivial | exact Fz.refl
    · trivial
  | .augS o i p e, s, h => by
    unfold exS
    refine (evE_k hc o s h).toS fun x h => (evE_k hc i s h).toS fun y h => (augGet_k x y h).toS fun z h => (evE_k hc e s h).toS fun v h => ?_
    split
    · unfold optS
      split
      · rename_i e; exact subSet_k e
      · trivial
    · trivial
  | .ite c a b, s, h => by
    unfold exS
    refine (evE_k hc c s h).toS fun x h => ?_
    split
    · exact exSs_k a s h
    · exact exSs_k b s h
    · trivial
  | .forr tg it b, s, h => by
    unfold exS
    refine (evI_k hc it s h).toS fun src h1 => ?_
    have key := forGo_k (forTurn_k (fun s h => exSs_k b s h) tg) src.items s (lkd src h1)
    split
    · rename_i e; rw [e] at key; exact unlkd_k key
    · rename_i e; rw [e] at key; exact unlkd_k key
    · rename_i e; rw [e] at key
      split
      · trivial
      · exact unlkd_k key
    · trivial
  | .whil c b, s, h => by
    unfold exS
    exact whileGo_k (fun s h => evE_k hc c s h) (fun s h => exSs_k b s h) _ s h
  | .pass, s, h => by unfold exS; exact Fz.refl
  | .raise c, s, h => by unfold exS; exact Fz.refl
  | .cont, s, h => by unfold exS; exact Fz.refl
  | .tryW b c i f, s, h => by
    unfold exS
    have k1 := exSs_k b s h
    split
    · rename_i e; rw [e] at k1
      split
      · split
        · split
          · split
            · exact k1
            · trivial
          · trivial
        · exact k1
      · trivial
    · exact k1
  | .tryN b c, s, h => by
    unfold exS
    have k1 := exSs_k b s h
    split
    · rename_i e; rw [e] at k1
      split
      · split
        · exact k1
        · exact k1
      · trivial
    · exact k1
theorem exSs_k : ∀ (a : Ss) (s : St) (h : Hs), KS h (exSs G call a s h)
  | .nil, s, h => by unfold exSs; exact Fz.refl
  | .cons a r, s, h => by
    unfold exSs
    have k1 := exS_k a s h
    split
    · rename_i e; rw [e] at k1; exact KS.trans k1 (exSs_k r _ _)
    · exact k1
end
end
theorem callAt_k {G : Glo} : ∀ (k f : Nat) (vs : List Val) (h : Hs), KO h (callAt G k f vs h)
  | 0, f, vs, h => trivial
  | k + 1, f, vs, h => by
    unfold callAt
    split
    · split
      · rename_i F _ _
        have k1 := exSs_k (G := G) (call := callAt G k) (callAt_k k) F.body (startOf F (vs ++ F.dfl.drop (F.dfl.length - (F.pars - vs.length)))) h
        split
        · rename_i e; rw [e] at k1; exact k1
        · rename_i e; rw [e] at k1; exact k1
        · rename_i e; rw [e] at k1; exact k1
        · trivial
      · trivial
    · trivial
end Kn
namespace KnK
open PySem PySem.SeqAt
section
variable {prog : Program} {w : World} {A : Around} {E : Value → Shared → Prop} {s : Shared}
/-- the entries' keys -/
structure Keys (w : World) (h : Heap) (ks : List NestedKey) (es : Array DictEntry) : Prop where
  len : ks.length = es.size
  at_ : ∀ (i : Nat) (k : NestedKey) (e : DictEntry), ks[i]? = some k → es[i]? = some e → NestedIs h k e.key ∧ e.hash = k.hash w ∧ k.depth ≤ 8
theorem Keys.get {h : Heap} {ks : List NestedKey} {es : Array DictEntry} (x : Keys w h ks es) {i : Nat} {e : DictEntry} (he : es[i]? = some e) : ∃ k, ks[i]? = some k ∧ NestedIs h k e.key ∧ e.hash = k.hash w ∧ k.depth ≤ 8 := by
  have hi : i < es.size := (Array.getElem?_eq_some_iff.mp he).1
  have hk : ks[i]? = some (ks[i]'(by rw [x.len]; exact hi)) := List.getElem?_eq_getElem _
  exact ⟨_, hk, x.at_ i _ e hk he⟩
theorem Keys.get' {h : Heap} {ks : List NestedKey} {es : Array DictEntry} (x : Keys w h ks es) {i : Nat} {k : NestedKey} (he : ks[i]? = some k) : ∃ e, es[i]? = some e ∧ NestedIs h k e.key ∧ e.hash = k.hash w ∧ k.depth ≤ 8 := by
  have hi : i < ks.length := (List.getElem?_eq_some_iff.mp he).1
  have hk : es[i]? = some (es[i]'(by rw [← x.len]; exact hi)) := Array.getElem?_eq_getElem _
  exact ⟨_, hk, x.at_ i k _ he hk⟩
theorem nk_uniq {ks : List NestedKey} (hn : ks.Nodup) {i j : Nat} {k : NestedKey} (a : ks[i]? = some k) (b : ks[j]? = some k) : i = j :=
  (List.getElem?_inj (List.getElem?_eq_some_iff.mp a).1 hn).mp (a.trans b.symm)
theorem eq_dec (x y : NestedKey) : NestedKey.beq x y = decide (x = y) := by
  by_cases h : x = y
  · subst h; simp [NestedKey.beq_self]
  · rw [decide_eq_false h]
    cases e : NestedKey.beq x y with
    | false => rfl
    | true => exact absurd (NestedKey.eq_of_beq x y e) h
theorem eq_key {A : Around} {x y : NestedKey} {u v : Value} {Q : Bool → Shared → Prop} (hx : NestedIs s.heap x u) (hy : NestedIs s.heap y v) (dx : x.depth ≤ 8) (hu : A.units + 8 < cLine) (h : Q (decide (x = y)) s) :
    wpAny (model prog w) A (eqBool u v) Q E s := eqAt_key x y A s u v hx hy (by omega) _ _ _ _ (by rw [eq_dec]; exact h)

/-- one turn of the search; what is known ahead of it: no key below i is k -/
theorem find_any {d : Addr} {o : Obj} {es : Array DictEntry} {ep : Nat} {ks : List NestedKey} {k : NestedKey} {u : Value} {Q : Option Nat → Shared → Prop} (hu : A.units + 8 < cLine) (hkey : NestedIs s.heap k u) (hkd : k.depth ≤ 8)
    (ho : s.heap.get? d = some o) (hd : o.data = .dict es ep) (K : Keys w s.heap ks es) (hn : ks.Nodup)
    (hnone : k ∉ ks → Q none s) (hsome : ∀ (j : Nat), ks[j]? = some k → Q (some j) s) :
    wpAny (model prog w) A (dictFind d u (k.hash w)) Q E s := by
  have haskey : ∀ (j : Nat), ks[j]? = some k → ((es[j]?.map (·.hash)) == some (k.hash w)) = true := fun j hj => by
    obtain ⟨e, he, _, hh, _⟩ := K.get' hj
    rw [he]
    simp [hh]
  have hnone' : (∀ j : Nat, ks[j]? ≠ some k) → Q none s := fun h => hnone fun hm => by
    obtain ⟨j, hj, e⟩ := List.getElem_of_mem hm
    exact h j (by rw [List.getElem?_eq_getElem hj, e])
  -- the plain search
  have plain : wpAny (model prog w) A (dictWalkPlain d u (k.hash w) es (placesWithHash es.size (fun i => es[i]?.map (·.hash)) (k.hash w))) Q E s := by
    unfold dictWalkPlain
    refine wpAny_bind ?_
    refine wpAny_forIn_list _
      (fun rest b s' => s' = s ∧ b = (none, ()) ∧ ∃ i, rest = (List.range' i (es.size - i)).filter (fun i => (es[i]?.map (·.hash)) == some (k.hash w)) ∧ i ≤ es.size ∧
        ∀ j, j < i → ks[j]? ≠ some k) _ ?_ ?_ _ _
      ⟨rfl, rfl, 0, by rw [placesWithHash, List.range_eq_range', Nat.sub_zero], Nat.zero_le _, fun _ h => absurd h (Nat.not_lt_zero _)⟩
    · rintro x rest b s' ⟨rfl, rfl, i, hr, hi, hno⟩
      obtain ⟨hix, hxn, hpx, hskip, hrest⟩ := filter_range'_cons _ _ _ _ _ hr.symm
      have hlt : x < es.size := by omega
      have hex : es[x]? = some es[x] := Array.getElem?_eq_getElem hlt
      obtain ⟨k', hk', is', hh', hd'⟩ := K.get hex
      have hnox : ∀ j, j < x → ks[j]? ≠ some k := fun j hj e => by
        rcases Nat.lt_or_ge j i with h | h
        · exact hno j h e
        · have := hskip j h hj
          rw [haskey j e] at this
          cases this
      have hnext : k' ≠ k → ∃ i, rest = (List.range' i (es.size - i)).filter (fun i => (es[i]?.map (·.hash)) == some (k.hash w)) ∧ i ≤ es.size ∧ ∀ j, j < i → ks[j]? ≠ some k := fun hne =>
        ⟨x + 1, by rw [hrest]; congr 2; omega, hlt, fun j hj e => by
          rcases Nat.lt_or_ge j x with h | h
          · exact hnox j h e
          · have : j = x := by omega
            subst this
            rw [hk'] at e; cases e; exact hne rfl⟩
      simp only [hex]
      by_cases hh : (es[x].hash == k.hash w) = true
      · rw [if_pos hh]
        refine wpAny_bind (wpAny_dictEpoch ho hd (wpAny_bind (eq_key is' hkey hd' hu (wpAny_bind (wpAny_dictEpoch ho hd ?_)))))
        show wpAny _ _ (if (ep != ep) = true then _ else _) _ E _
        rw [if_neg (by simp)]
        by_cases hkk : k' = k
        · rw [decide_eq_true hkk]
          subst hkk
          exact wpAny_bind (wpAny_rule (wpAny_pure (wpAny_pure (hsome x hk'))))
        · rw [decide_eq_false hkk]
          exact wpAny_bind (wpAny_rule (wpAny_pure ⟨rfl, rfl, hnext hkk⟩))
      · rw [if_neg hh]
        refine wpAny_pure ⟨rfl, rfl, hnext fun e => ?_⟩
        subst e
        rw [hh'] at hh; simp at hh
    · rintro b s' ⟨rfl, rfl, i, hr, hi, hno⟩
      refine wpAny_pure (hnone' fun j e => ?_)
      rcases Nat.lt_or_ge j i with h | h
      · exact hno j h e
      · have hjl : j < es.size := by rw [← K.len]; exact (List.getElem?_eq_some_iff.mp e).1
        have := List.filter_eq_nil_iff.mp hr.symm j (List.mem_range'_1.mpr ⟨h, by omega⟩)
        rw [haskey j e] at this
        exact this rfl
  -- the search where a key may be an object
  have hst : ∀ v ∈ (placesWithHash es.size (fun i => es[i]?.map (·.hash)) (k.hash w)).filterMap (fun i => es[i]?.map (·.key)), ∃ k', NestedIs s.heap k' v ∧ k'.depth ≤ 8 := by
    intro v hv
    obtain ⟨i, _, hi⟩ := List.mem_filterMap.mp hv
    cases hei : es[i]? with
    | none => rw [hei] at hi; cases hi
    | some e =>
      rw [hei] at hi
      obtain rfl : e.key = v := by simpa using hi
      obtain ⟨k', _, h1, _, h2⟩ := K.get hei
      exact ⟨k', h1, h2⟩
  have tells : ∀ {Q : Bool → Shared → Prop} {st : List Value}, (∀ v ∈ st, ∃ k', NestedIs s.heap k' v ∧ k'.depth ≤ 8) → Q false s → wpAny (model prog w) A (tableMayTell u st) Q E s := by
    intro Q st hst h
    unfold tableMayTell
    split
    · exact wpAny_pure h
    · refine wpAny_bind (quiet_key k u 8 s hkey hkd A E _ ?_)
      simp only [Bool.not_true, Bool.false_eq_true, if_false]
      refine wpAny_bind ?_
      refine wpAny_forIn_list _ (fun rest r s' => s' = s ∧ r = (none, ()) ∧ ∀ v ∈ rest, ∃ k', NestedIs s.heap k' v ∧ k'.depth ≤ 8) _ ?_ ?_ _ _ ⟨rfl, rfl, hst⟩
      · rintro x rest r s' ⟨rfl, rfl, hr⟩
        obtain ⟨k', hb, hb2⟩ := hr x List.mem_cons_self
        refine wpAny_bind (quiet_key k' x 8 s' hb hb2 A E _ ?_)
        simp only [Bool.not_true, Bool.false_eq_true, if_false]
        exact wpAny_pure ⟨rfl, rfl, fun v hv => hr v (List.mem_cons_of_mem _ hv)⟩
      · rintro r s' ⟨rfl, rfl, _⟩
        exact wpAny_pure h
  have wide : ∀ (stored : List Value), (∀ v ∈ stored, ∃ k', NestedIs s.heap k' v ∧ k'.depth ≤ 8) → wpAny (model prog w) A (do
      let tells ← if stored == [u] then pure false else tableMayTell u stored
      if tells && stored.length ≥ 2 then unsupported "dict.find:order-among-keys-of-one-hash"
      let mut hit : Option Nat := none
      for i in placesWithHash es.size (fun i => es[i]?.map (·.hash)) (k.hash w) do
        if let some e := es[i]? then
          if e.hash == k.hash w then
            let before ← dictEpoch d (keyPart u)
            let same ← eqBool e.key u
            if (← dictEpoch d (keyPart u)) != before then unsupported "dict.changed-during-lookup"
            if same then
              if hit.isSome then unsupported "dict.find:order-among-keys-of-one-hash"
              rule "dict.find.hit"
              if stored.length < 2 then return some i
              hit := some i
            else
              rule "dict.find.same-hash-other-key"
              if tells && !(0 ≤ k.hash w && k.hash w < 32) then unsupported "dict.find:asked-again-or-not-hangs-on-the-table"
      return hit) Q E s := by
    intro stored hst
    by_cases hone : (stored == [u]) = true <;>
    (first | rw [if_pos hone] | rw [if_neg hone]) <;> (first | refine wpAny_bind (wpAny_pure ?_) | refine wpAny_bind (tells hst ?_)) <;> (
      dsimp only
      rw [if_neg (by simp)]
      refine wpAny_bind ?_
      refine wpAny_forIn_list _
        (fun rest b s' => s' = s ∧ ∃ i hit, b = (none, hit) ∧ rest = (List.range' i (es.size - i)).filter (fun i => (es[i]?.map (·.hash)) == some (k.hash w)) ∧ i ≤ es.size ∧
          ((hit = none ∧ ∀ j, j < i → ks[j]? ≠ some k) ∨ ∃ j, hit = some j ∧ j < i ∧ ks[j]? = some k)) _ ?_ ?_ _ _
        ⟨rfl, 0, none, rfl, by rw [placesWithHash, List.range_eq_range', Nat.sub_zero], Nat.zero_le _, .inl ⟨rfl, fun _ h => absurd h (Nat.not_lt_zero _)⟩⟩
      · rintro x rest b s' ⟨rfl, i, hit, rfl, hr, hi, hH⟩
        obtain ⟨hix, hxn, hpx, hskip, hrest⟩ := filter_range'_cons _ _ _ _ _ hr.symm
        have hlt : x < es.size := by omega
        have hrest' : rest = (List.range' (x + 1) (es.size - (x + 1))).filter (fun i => (es[i]?.map (·.hash)) == some (k.hash w)) := by rw [hrest]; congr 2; omega
        have hex : es[x]? = some es[x] := Array.getElem?_eq_getElem hlt
        obtain ⟨k', hk', is', hh', hd'⟩ := K.get hex
        have hHx : (hit = none ∧ ∀ j, j < x → ks[j]? ≠ some k) ∨ ∃ j, hit = some j ∧ j < x ∧ ks[j]? = some k := by
          rcases hH with ⟨h0, hno⟩ | ⟨j, h1, hji, hj⟩
          · refine .inl ⟨h0, fun j hjx hj => ?_⟩
            rcases Nat.lt_or_ge j i with h | h
            · exact hno j h hj
            · have := hskip j h hjx
              rw [haskey j hj] at this
              exact absurd this (by decide)
          · exact .inr ⟨j, h1, by omega, hj⟩
        have hstay : ¬ k' = k → ((hit = none ∧ ∀ j, j < x + 1 → ks[j]? ≠ some k) ∨ ∃ j, hit = some j ∧ j < x + 1 ∧ ks[j]? = some k) := by
          intro hne
          rcases hHx with ⟨h0, hno⟩ | ⟨j, h1, hjx, hj⟩
          · refine .inl ⟨h0, fun j hjx hj => ?_⟩
            rcases Nat.lt_or_ge j x with h | h
            · exact hno j h hj
            · have hjx' : j = x := by omega
              subst hjx'
              rw [hk'] at hj
              cases hj
              exact hne rfl
          · exact .inr ⟨j, h1, by omega, hj⟩
        rw [hex]
        dsimp only
        by_cases hh : (es[x].hash == k.hash w) = true
        · rw [if_pos hh]
          refine wpAny_bind (wpAny_dictEpoch ho hd (wpAny_bind (eq_key is' hkey hd' hu (wpAny_bind (wpAny_dictEpoch ho hd ?_)))))
          show wpAny _ _ (if (ep != ep) = true then _ else _) _ E _
          rw [if_neg (by simp)]
          by_cases hkk : k' = k
          · rw [decide_eq_true hkk]
            subst hkk
            rcases hHx with ⟨rfl, _⟩ | ⟨j, _, hjx, hj⟩
            · first | rw [if_pos rfl] | skip
              simp only [Option.isSome_none, Bool.false_eq_true, if_false]
              first | refine wpAny_bind (wpAny_pure ?_) | skip
              refine wpAny_bind (wpAny_rule ?_)
              split
              · exact wpAny_pure (wpAny_pure (hsome x hk'))
              · exact wpAny_pure ⟨rfl, x + 1, some x, rfl, hrest', hlt, .inr ⟨x, rfl, Nat.lt_succ_self x, hk'⟩⟩
            · exact absurd (nk_uniq hn hj hk') (by omega)
          · rw [decide_eq_false hkk]
            simp only [Bool.false_eq_true, if_false]
            refine wpAny_bind (wpAny_rule ?_)
            first | rw [if_neg (by simp)] | skip
            first
              | exact wpAny_pure ⟨rfl, x + 1, hit, rfl, hrest', hlt, hstay hkk⟩
              | exact wpAny_bind (wpAny_pure (wpAny_pure ⟨rfl, x + 1, hit, rfl, hrest', hlt, hstay hkk⟩))
        · rw [if_neg hh]
          refine wpAny_pure ⟨rfl, x + 1, hit, rfl, hrest', hlt, hstay ?_⟩
          intro hkk
          subst hkk
          rw [hh'] at hh; simp at hh
      · rintro b s' ⟨rfl, i, hit, rfl, hr, hi, hH⟩
        rcases hH with ⟨rfl, hno⟩ | ⟨j, rfl, _, hj⟩
        · refine wpAny_pure (hnone' fun j hj => ?_)
          rcases Nat.lt_or_ge j i with h | h
          · exact hno j h hj
          · have hjl : j < es.size := by rw [← K.len]; exact (List.getElem?_eq_some_iff.mp hj).1
            have := List.filter_eq_nil_iff.mp hr.symm j (List.mem_range'_1.mpr ⟨h, by omega⟩)
            rw [haskey j hj] at this
            exact this rfl
        · exact wpAny_pure (hsome j hj))
  -- the three ways
  have rest : ∀ {x : Sem (Option Nat)}, (x = if ((u :: (placesWithHash es.size (fun i => es[i]?.map (·.hash)) (k.hash w)).filterMap fun i => es[i]?.map (·.key)).all carriedByValue) = true then
      dictWalkPlain d u (k.hash w) es (placesWithHash es.size (fun i => es[i]?.map (·.hash)) (k.hash w)) else (do
      let tells ← if (placesWithHash es.size (fun i => es[i]?.map (·.hash)) (k.hash w)).filterMap (fun i => es[i]?.map (·.key)) == [u] then pure false else tableMayTell u ((placesWithHash es.size (fun i => es[i]?.map (·.hash)) (k.hash w)).filterMap (fun i => es[i]?.map (·.key)))
      if tells && ((placesWithHash es.size (fun i => es[i]?.map (·.hash)) (k.hash w)).filterMap (fun i => es[i]?.map (·.key))).length ≥ 2 then unsupported "dict.find:order-among-keys-of-one-hash"
      let mut hit : Option Nat := none
      for i in placesWithHash es.size (fun i => es[i]?.map (·.hash)) (k.hash w) do
        if let some e := es[i]? then
          if e.hash == k.hash w then
            let before ← dictEpoch d (keyPart u)
            let same ← eqBool e.key u
            if (← dictEpoch d (keyPart u)) != before then unsupported "dict.changed-during-lookup"
            if same then
              if hit.isSome then unsupported "dict.find:order-among-keys-of-one-hash"
              rule "dict.find.hit"
              if ((placesWithHash es.size (fun i => es[i]?.map (·.hash)) (k.hash w)).filterMap (fun i => es[i]?.map (·.key))).length < 2 then return some i
              hit := some i
            else
              rule "dict.find.same-hash-other-key"
              if tells && !(0 ≤ k.hash w && k.hash w < 32) then unsupported "dict.find:asked-again-or-not-hangs-on-the-table"
      return hit)) → wpAny (model prog w) A x Q E s := by
    intro x hx
    rw [hx]
    by_cases hall : ((u :: (placesWithHash es.size (fun i => es[i]?.map (·.hash)) (k.hash w)).filterMap fun i => es[i]?.map (·.key)).all carriedByValue) = true
    · rw [if_pos hall]
      exact plain
    · rw [if_neg hall]
      exact wide _ hst
  cases hkey with
  | none =>
    unfold dictFind
    try with_reducible refine wpAny_holding ?_
    exact wpAny_bind (wpAny_dictEntries ho hd (rest rfl))
  | bool e =>
    unfold dictFind
    try with_reducible refine wpAny_holding ?_
    exact wpAny_bind (wpAny_dictEntries ho hd (rest rfl))
  | int =>
    unfold dictFind
    try with_reducible refine wpAny_holding ?_
    exact wpAny_bind (wpAny_dictEntries ho hd (rest rfl))
  | @text x t =>
    unfold dictFind
    try with_reducible refine wpAny_holding ?_
    refine wpAny_bind (wpAny_dictEntries ho hd ?_)
    by_cases hs : (es.all fun e => isExactStrKey e.key) = true
    · refine (show wpAny _ _ (if (es.all fun e => isExactStrKey e.key) = true then (do return ← foundByValue d (.str x t) es x) else _) _ _ _ from ?_)
      rw [if_pos hs]
      unfold foundByValue
      have shape : ∀ v : Value, v.isStr x = true → ∃ t', v = .str x t' := fun v hv => by
        cases v <;> first | (exact ⟨_, by rw [eq_of_beq (show (_ == x) = true from hv)]⟩) | cases hv
      have noj : ∀ j : Nat, ks[j]? = some (NestedKey.text x) → ∃ e : DictEntry, es[j]? = some e ∧ e.key.isStr x = true := fun j hj => by
        obtain ⟨e, he, is', _, _⟩ := K.get' hj
        refine ⟨e, he, ?_⟩
        generalize e.key = v at is'
        cases is'
        exact beq_self_eq_true x
      cases hf : es.findIdx? (fun e => e.key.isStr x) with
      | none =>
        refine wpAny_pure (hnone' fun j hj => ?_)
        obtain ⟨e, he, h1⟩ := noj j hj
        have := Array.findIdx?_eq_none_iff.mp hf e (Array.mem_of_getElem? he)
        rw [h1] at this
        cases this
      | some i =>
        obtain ⟨hlt, hi, _⟩ := Array.findIdx?_eq_some_iff_getElem.mp hf
        have hex : es[i]? = some es[i] := Array.getElem?_eq_getElem hlt
        obtain ⟨k', hk', is', hh', hd'⟩ := K.get hex
        obtain ⟨t', ev⟩ := shape _ hi
        have hkk : k' = .text x := by rw [ev] at is'; exact NestedIs.inj _ _ _ is' (.text x t')
        subst hkk
        simp only [hex]
        refine wpAny_bind (wpAny_dictEpoch ho hd (wpAny_bind (eq_key is' (.text x t) hd' hu (wpAny_bind (wpAny_dictEpoch ho hd ?_)))))
        show wpAny _ _ (if (ep != ep) = true then _ else _) _ E _
        rw [if_neg (by simp), decide_eq_true rfl]
        exact wpAny_bind (wpAny_rule (wpAny_pure (hsome i hk')))
    · refine (show wpAny _ _ (if (es.all fun e => isExactStrKey e.key) = true then (do return ← foundByValue d (.str x t) es x) else _) _ _ _ from ?_)
      rw [if_neg hs]
      exact rest rfl
  | @tup a o vs n ks' h1 h2 h3 h4 =>
    have hk0 : NestedIs s.heap (.tup ks') (.ref a) := .tup h1 h2 h3 h4
    have hany : ¬ (es.any fun e => e.key == Value.ref a && e.hash != NestedKey.hash w (.tup ks')) = true := by
      rw [← Array.any_toList, List.any_eq_true]
      rintro ⟨e, hin, hc⟩
      obtain ⟨i, hi⟩ := List.mem_iff_getElem?.mp hin
      rw [Array.getElem?_toList] at hi
      obtain ⟨k', hk', is', hh', hd'⟩ := K.get hi
      simp only [Bool.and_eq_true, beq_iff_eq, bne_iff_ne, ne_eq] at hc
      rw [hc.1] at is'
      rw [NestedIs.inj _ _ _ hk0 is'] at hc
      exact hc.2 hh'
    unfold dictFind
    try with_reducible refine wpAny_holding ?_
    refine wpAny_bind (wpAny_dictEntries ho hd ?_)
    have hall : ¬ ((Value.ref a :: (placesWithHash es.size (fun i => es[i]?.map (·.hash)) (NestedKey.hash w (.tup ks'))).filterMap fun i => es[i]?.map (·.key)).all carriedByValue) = true := by simp [carriedByValue]
    refine (show wpAny _ _ (if ((Value.ref a :: (placesWithHash es.size (fun i => es[i]?.map (·.hash)) (NestedKey.hash w (.tup ks'))).filterMap fun i => es[i]?.map (·.key)).all carriedByValue) = true then _ else
      if (es.any fun e => e.key == Value.ref a && e.hash != NestedKey.hash w (.tup ks')) = true then _ else _) _ _ _ from ?_)
    rw [if_neg hall, if_neg hany]
    exact wide _ hst

abbrev L3 := List (NestedKey × Value × Value)
def ent (w : World) (q : NestedKey × Value × Value) : DictEntry := ⟨q.1.hash w, q.2.1, q.2.2⟩
def lkN (l : L3) (k : NestedKey) : Option Value := (l.find? fun q => decide (q.1 = k)).map (·.2.2)
def putAtN (k : NestedKey) (v : Value) (q : NestedKey × Value × Value) : NestedKey × Value × Value := if q.1 = k then (q.1, q.2.1, v) else q
def putN (l : L3) (k : NestedKey) (u v : Value) : L3 := if (lkN l k).isSome then l.map (putAtN k v) else l ++ [(k, u, v)]
def delN (l : L3) (k : NestedKey) : L3 := l.filter fun q => decide (q.1 ≠ k)
/-- at d stands a dict of these entries, in order -/
def DictN (w : World) (h : Heap) (d : Addr) (l : L3) : Prop :=
  ∃ o es ep, h.get? d = some o ∧ o.ExactDict ∧ o.data = .dict es ep ∧ es.toList = l.map (ent w) ∧ (∀ q ∈ l, NestedIs h q.1 q.2.1 ∧ q.1.depth ≤ 8) ∧ (l.map (·.1)).Nodup
theorem lkN_of_get {l : L3} (hn : (l.map (·.1)).Nodup) {i : Nat} {k : NestedKey} {p : Value × Value} (hx : l[i]? = some (k, p)) : lkN l k = some p.2 := by
  induction l generalizing i with
  | nil => simp at hx
  | cons x rest ih =>
    rw [List.map_cons, List.nodup_cons] at hn
    cases i with
    | zero =>
      simp only [List.getElem?_cons_zero, Option.some.injEq] at hx
      subst hx; simp [lkN]
    | succ j =>
      simp only [List.getElem?_cons_succ] at hx
      have hmem : k ∈ rest.map (·.1) := List.mem_map.mpr ⟨(k, p), List.mem_of_getElem? hx, rfl⟩
      have hne : ¬ x.1 = k := fun e => hn.1 (e ▸ hmem)
      have := ih hn.2 hx
      simpa [lkN, List.find?_cons, hne] using this
theorem lkN_none {l : L3} {k : NestedKey} (h : k ∉ l.map (·.1)) : lkN l k = none := by
  have : (l.find? fun x => decide (x.1 = k)) = none := by
    rw [List.find?_eq_none]
    intro x hx hk
    exact h (List.mem_map.mpr ⟨x, hx, of_decide_eq_true hk⟩)
  simp [lkN, this]
theorem map_putAtN_not (l : L3) (k : NestedKey) (v : Value) (hn : k ∉ l.map (·.1)) : l.map (putAtN k v) = l := by
  induction l with
  | nil => rfl
  | cons x xs ih =>
    simp only [List.map_cons, List.mem_cons, not_or] at hn ⊢
    rw [putAtN, if_neg (fun e => hn.1 e.symm), ih hn.2]
theorem keys_putAtN (l : L3) (k : NestedKey) (v : Value) : (l.map (putAtN k v)).map (·.1) = l.map (·.1) := by
  induction l with
  | nil => rfl
  | cons x xs ih =>
    simp only [List.map_cons, ih]
    by_cases hk : x.1 = k <;> simp [putAtN, hk]
theorem modify_putAtN (w : World) (k : NestedKey) (v : Value) : ∀ {l : L3} {j : Nat} {p : Value × Value}, (l.map (·.1)).Nodup → l[j]? = some (k, p) → (l.map (ent w)).modify j (fun e : DictEntry => { e with val := v }) = (l.map (putAtN k v)).map (ent w) := by
  intro l
  induction l with
  | nil => intro j p _ hj; simp at hj
  | cons x rest ih =>
    intro j p hn hj
    rw [List.map_cons, List.nodup_cons] at hn
    cases j with
    | zero =>
      simp only [List.getElem?_cons_zero, Option.some.injEq] at hj
      subst hj
      rw [List.map_cons, List.map_cons, map_putAtN_not rest k v hn.1, putAtN, if_pos rfl, List.map_cons]
      rfl
    | succ j =>
      simp only [List.getElem?_cons_succ] at hj
      have hmem : k ∈ rest.map (·.1) := List.mem_map.mpr ⟨(k, p), List.mem_of_getElem? hj, rfl⟩
      have hne : ¬ x.1 = k := fun e => hn.1 (e ▸ hmem)
      rw [List.map_cons, List.map_cons, putAtN, if_neg hne, List.map_cons]
      show ent w x :: (rest.map (ent w)).modify j _ = ent w x :: (rest.map (putAtN k v)).map (ent w)
      rw [ih hn.2 hj]
theorem keys_of {h : Heap} {es : Array DictEntry} {l : L3} (he : es.toList = l.map (ent w)) (his : ∀ q ∈ l, NestedIs h q.1 q.2.1 ∧ q.1.depth ≤ 8) : Keys w h (l.map (·.1)) es := by
  refine ⟨by rw [List.length_map, ← Array.length_toList, he, List.length_map], fun i k e h1 h2 => ?_⟩
  rw [List.getElem?_map] at h1
  rw [← Array.getElem?_toList, he, List.getElem?_map] at h2
  obtain ⟨q, hq, rfl⟩ := Option.map_eq_some_iff.mp h1
  rw [hq] at h2
  cases h2
  have := his q (List.mem_of_getElem? hq)
  exact ⟨this.1, rfl, this.2⟩
theorem at_of {l : L3} {j : Nat} {k : NestedKey} (h : (l.map (·.1))[j]? = some k) : ∃ p, l[j]? = some (k, p) := by
  rw [List.getElem?_map] at h
  obtain ⟨q, hq, rfl⟩ := Option.map_eq_some_iff.mp h
  exact ⟨q.2, hq⟩
theorem DictN.typeIs {d : Addr} {l : L3} (hm : DictN w s.heap d l) : s.TypeIs (.ref d) "dict" := let ⟨o, _, _, ho, hc, _⟩ := hm; ⟨o, ho, hc.1⟩
theorem keep_is {h h' : Heap} {d : Addr} {o : Obj} {es ep} (ho : h.get? d = some o) (hd : o.data = .dict es ep) (hs : Heap.SameBut d h h') {k : NestedKey} {v : Value} (x : NestedIs h k v) : NestedIs h' k v :=
  NestedIs.at (fun b ob vs n hb hc => by
    refine (hs.2 b fun e => ?_).trans hb
    subst e
    rw [ho] at hb
    cases hb
    rw [hd] at hc
    cases hc) k _ x
section
variable {d : Addr} {l : L3} {k : NestedKey} {u : Value}
theorem get_N {Q : Option Value → Shared → Prop} (hu : A.units + 8 < cLine) (hkey : NestedIs s.heap k u) (hkd : k.depth ≤ 8) (hm : DictN w s.heap d l) (h : ∀ t, Q (lkN l k) { s with toks := t }) :
    wpAny (model prog w) A (dictGet d u) Q E s := by
  obtain ⟨o, es, ep, ho, _, hd, he, his, hn⟩ := hm
  unfold dictGet
  try with_reducible refine wpAny_holding ?_
  refine wpAny_bind (pyHash_key k u A s _ hkey (by omega) (wpAny_bind (find_any (s := { s with toks := s.toks + k.draws }) hu hkey hkd ho hd (keys_of he his) hn (fun hno => ?_) fun j hj => ?_)))
  · have := h (s.toks + k.draws)
    rw [lkN_none hno] at this
    exact wpAny_pure this
  · obtain ⟨p, hp⟩ := at_of hj
    have := h (s.toks + k.draws)
    rw [lkN_of_get hn hp] at this
    refine wpAny_bind (wpAny_dictEntries (s := { s with toks := s.toks + k.draws }) ho hd ?_)
    have e1 : es[j]? = some (ent w (k, p)) := by rw [← Array.getElem?_toList, he, List.getElem?_map, hp]; rfl
    rw [e1]
    exact wpAny_pure this
theorem put_new_ok {v : Value} {o : Obj} {es : Array DictEntry} {ep : Nat} (ho : s.heap.get? d = some o) (hc : o.ExactDict) (hd : o.data = .dict es ep) (he : es.toList = l.map (ent w)) (his : ∀ q ∈ l, NestedIs s.heap q.1 q.2.1 ∧ q.1.depth ≤ 8) (hn : (l.map (·.1)).Nodup)
    (hkey : NestedIs s.heap k u) (hkd : k.depth ≤ 8) (hno : k ∉ l.map (·.1)) : DictN w (s.heap.update d (Obj.mapDictKeys fun es => es.push ⟨k.hash w, u, v⟩)) d (putN l k u v) := by
  have e0 : putN l k u v = l ++ [(k, u, v)] := by unfold putN; rw [lkN_none hno]; rfl
  rw [e0]
  refine ⟨_, _, ep + 1, Heap.get?_update_self _ ho (Obj.isFreed_of_dict (Obj.data_mapDictKeys hd _)), hc.mapDictKeys _, Obj.data_mapDictKeys hd _, by simp [he, ent], fun q hq => ?_, ?_⟩
  · rcases List.mem_append.mp hq with hq | hq
    · exact ⟨keep_is ho hd (Heap.SameBut.update ..) (his q hq).1, (his q hq).2⟩
    · simp only [List.mem_singleton] at hq
      subst hq
      exact ⟨keep_is ho hd (Heap.SameBut.update ..) hkey, hkd⟩
  · rw [List.map_append, List.nodup_append]
    refine ⟨hn, by simp, ?_⟩
    intro x hx y hy
    simp only [List.map_cons, List.map_nil, List.mem_singleton] at hy
    subst hy
    exact fun e => hno (e ▸ hx)
theorem set_N {v : Value} {Q : Unit → Shared → Prop} (hu : A.units + 8 < cLine) (hkey : NestedIs s.heap k u) (hkd : k.depth ≤ 8) (hm : DictN w s.heap d l)
    (hQ : ∀ h' t, DictN w h' d (putN l k u v) → Heap.SameBut d s.heap h' → Q () { s with heap := h', toks := t }) (hsz : l.length ≤ sizeLine) :
    wpAny (model prog w) A (dictSet d u v) Q E s := by
  obtain ⟨o, es, ep, ho, hc, hd, he, his, hn⟩ := hm
  have hz : es.size = l.length := by rw [← Array.length_toList, he, List.length_map]
  unfold dictSet
  try with_reducible refine wpAny_holding ?_
  refine wpAny_bind (pyHash_key k u A s _ hkey (by omega) ?_)
  unfold dictSetHashed
  try with_reducible refine wpAny_holding ?_
  refine wpAny_bind (find_any (s := { s with toks := s.toks + k.draws }) hu hkey hkd ho hd (keys_of he his) hn (fun hno => ?_) fun j hj => ?_)
  · exact wpAny_bind (wpAny_rule (wpAny_updateDictKeys (hz := by omega) (s := { s with toks := s.toks + k.draws }) ho hd (hQ _ _ (put_new_ok ho hc hd he his hn hkey hkd hno) (Heap.SameBut.update ..))))
  · obtain ⟨p, hp⟩ := at_of hj
    have e0 : putN l k u v = l.map (putAtN k v) := by unfold putN; rw [lkN_of_get hn hp]; rfl
    refine wpAny_bind (wpAny_rule (wpAny_bind (wpAny_updateDict (s := { s with toks := s.toks + k.draws }) ho hd (wpAny_point (hQ _ _ ⟨_, _, ep, Heap.get?_update_self _ ho (Obj.isFreed_of_dict (Obj.data_mapDict hd _)),
      hc.mapDict _, Obj.data_mapDict hd _, ?_, ?_, ?_⟩ (Heap.SameBut.update ..))))))
    · rw [e0]
      have := modify_putAtN w k v hn hp
      rw [← he] at this
      obtain ⟨l⟩ := es
      simpa using this
    · rw [e0]
      intro x hx
      obtain ⟨y, hy, rfl⟩ := List.mem_map.mp hx
      unfold putAtN
      split <;> exact ⟨keep_is ho hd (Heap.SameBut.update ..) (his y hy).1, (his y hy).2⟩
    · rw [e0, keys_putAtN]; exact hn
theorem setdefault_N {v : Value} {Q : Value → Shared → Prop} (hu : A.units + 8 < cLine) (hkey : NestedIs s.heap k u) (hkd : k.depth ≤ 8) (hm : DictN w s.heap d l)
    (h1 : ∀ x t, lkN l k = some x → Q x { s with toks := t }) (h2 : lkN l k = none → ∀ h' t, DictN w h' d (putN l k u v) → Heap.SameBut d s.heap h' → Q v { s with heap := h', toks := t }) (hsz : l.length ≤ sizeLine) :
    wpAny (model prog w) A (dictSetDefault d u v) Q E s := by
  obtain ⟨o, es, ep, ho, hc, hd, he, his, hn⟩ := hm
  have hz : es.size = l.length := by rw [← Array.length_toList, he, List.length_map]
  unfold dictSetDefault
  try with_reducible refine wpAny_holding ?_
  refine wpAny_bind (pyHash_key k u A s _ hkey (by omega) ?_)
  refine wpAny_bind (find_any (s := { s with toks := s.toks + k.draws }) hu hkey hkd ho hd (keys_of he his) hn (fun hno => ?_) fun j hj => ?_)
  · exact wpAny_bind (wpAny_rule (wpAny_bind (wpAny_updateDictKeys (hz := by omega) (s := { s with toks := s.toks + k.draws }) ho hd (wpAny_pure (h2 (lkN_none hno) _ _ (put_new_ok ho hc hd he his hn hkey hkd hno) (Heap.SameBut.update ..))))))
  · obtain ⟨p, hp⟩ := at_of hj
    have e1 : es[j]? = some (ent w (k, p)) := by rw [← Array.getElem?_toList, he, List.getElem?_map, hp]; rfl
    refine wpAny_bind (wpAny_dictEntries (s := { s with toks := s.toks + k.draws }) ho hd ?_)
    rw [e1]
    exact wpAny_bind (wpAny_rule (wpAny_pure (h1 p.2 _ (lkN_of_get hn hp))))
theorem contains_N {Q : Bool → Shared → Prop} (hu : A.units + 9 < cLine) (hkey : NestedIs s.heap k u) (hkd : k.depth ≤ 8) (hd : (d == sysModules) = false) (hm : DictN w s.heap d l)
    (h : ∀ t, Q (lkN l k).isSome { s with toks := t }) : wpAny (model prog w) A (contains (.ref d) u) Q E s := by
  refine wpAny_contains_slot hm.typeIs F.slot_dict_contains ?_
  refine call_meetsIn F.slot_dict_contains hm.typeIs F.entry_dict_contains (F.args_dict_contains_2 _ _) (S := fun A' R s' => A' = A ∧ s' = s ∧ ∀ t, R (.ok (.ret (.bool (lkN l k).isSome))) { s with toks := t }) (fun A' R s' hS => ?_) ⟨rfl, rfl, fun t => wpAny_truthy_bool (h t)⟩
  obtain ⟨rfl, rfl, hq⟩ := hS
  show wpAny _ _ (dictGet d u >>= _) _ _ _
  refine wpAny_bind (get_N (show A'.in1.units + 8 < cLine by show A'.units + 1 + 8 < cLine; omega) hkey hkd hm fun t => ?_)
  cases hf : lkN l k with
  | some p =>
    rw [hf] at hq
    show wpAny _ _ (ret (.bool true)) _ _ _
    exact wpAny_pure (hq t)
  | none =>
    rw [hf] at hq
    show wpAny _ _ (Builtin.Dict.pendingKey? d u >>= _) _ _ _
    exact wpAny_bind (wpAny_pendingKey_other hd (wpAny_pure (hq t)))
theorem in_N {Q : Value → Shared → Prop} (hu : A.units + 9 < cLine) (hkey : NestedIs s.heap k u) (hkd : k.depth ≤ 8) (hd : (d == sysModules) = false) (hm : DictN w s.heap d l)
    (h : ∀ t, Q (.bool (lkN l k).isSome) { s with toks := t }) : wpAny (model prog w) A (compareOp .In u (.ref d)) Q E s := by
  show wpAny _ _ (do return .bool (← contains (.ref d) u)) Q E s
  exact wpAny_bind (contains_N hu hkey hkd hd hm fun t => wpAny_pure (h t))
theorem notIn_N {Q : Value → Shared → Prop} (hu : A.units + 9 < cLine) (hkey : NestedIs s.heap k u) (hkd : k.depth ≤ 8) (hd : (d == sysModules) = false) (hm : DictN w s.heap d l)
    (h : ∀ t, Q (.bool (!(lkN l k).isSome)) { s with toks := t }) : wpAny (model prog w) A (compareOp .NotIn u (.ref d)) Q E s := by
  show wpAny _ _ (do return .bool (!(← contains (.ref d) u))) Q E s
  exact wpAny_bind (contains_N hu hkey hkd hd hm fun t => wpAny_pure (h t))
theorem getItem_N {v : Value} {Q : Value → Shared → Prop} (hu : A.units + 9 < cLine) (hkey : NestedIs s.heap k u) (hkd : k.depth ≤ 8) (hm : DictN w s.heap d l) (hv : lkN l k = some v)
    (h : ∀ t, Q v { s with toks := t }) : wpAny (model prog w) A (getItem (.ref d) u) Q E s := by
  unfold getItem
  try with_reducible refine wpAny_holding ?_
  refine wpAny_bind (wpAny_sequenceKey hm.typeIs (by decide) ?_)
  refine wpAny_bind (wpAny_callSpecial?_slot (name := Str.ofString "__getitem__") hm.typeIs slot_dict_getitem
    (wpAny_call_entry slot_dict_getitem hm.typeIs entry_dict_getitem ?_ (args_dict_getitem _ _)))
  show wpAny _ _ (dictGet d u >>= _) _ _ s
  refine wpAny_bind (get_N (show A.in1.units + 8 < cLine by show A.units + 1 + 8 < cLine; omega) hkey hkd hm fun t => ?_)
  rw [hv]
  exact wpAny_pure ⟨v, rfl, wpAny_pure (h t)⟩
theorem setItem_N {v : Value} {Q : Unit → Shared → Prop} (hu : A.units + 9 < cLine) (hkey : NestedIs s.heap k u) (hkd : k.depth ≤ 8) (hm : DictN w s.heap d l)
    (hQ : ∀ h' t, DictN w h' d (putN l k u v) → Heap.SameBut d s.heap h' → Q () { s with heap := h', toks := t }) (hsz : l.length ≤ sizeLine) :
    wpAny (model prog w) A (setItem (.ref d) u v) Q E s := by
  unfold setItem
  try with_reducible refine wpAny_holding ?_
  refine wpAny_bind (wpAny_sequenceKey hm.typeIs (by decide) ?_)
  refine wpAny_bind (wpAny_callSpecial?_slot (name := Str.ofString "__setitem__") hm.typeIs slot_dict_setitem
    (wpAny_call_entry slot_dict_setitem hm.typeIs entry_dict_setitem ?_ (args_dict_setitem _ _ _)))
  show wpAny _ _ (Builtin.Dict.notOrdered "__setitem__" ⟨[.ref d, u, v], []⟩ >>= _) _ _ s
  refine wpAny_bind (wpAny_notOrdered_dict hm.typeIs ?_)
  show wpAny _ _ (dictSet d u v >>= _) _ _ s
  exact wpAny_bind (set_N (hsz := hsz) (show A.in1.units + 8 < cLine by show A.units + 1 + 8 < cLine; omega) hkey hkd hm fun h' t hm' hs' => wpAny_pure ⟨.none, rfl, wpAny_pure (hQ h' t hm' hs')⟩)
theorem get1_N {Q : Value → Shared → Prop} (hu : A.units + 9 < cLine) (hkey : NestedIs s.heap k u) (hkd : k.depth ≤ 8) (hd : (d == sysModules) = false) (hm : DictN w s.heap d l)
    (h : ∀ t, Q ((lkN l k).getD .none) { s with toks := t }) : wpAny (model prog w) A (call (.builtin "dict.get") [.ref d, u]) Q E s := by
  refine call_meetsIn F.slot_dict_get hm.typeIs F.entry_dict_get (F.args_dict_get_2 _ _) (S := fun A' R s' => A' = A ∧ s' = s ∧ ∀ t, R (.ok (.ret ((lkN l k).getD .none))) { s with toks := t }) (.of_wp fun A' R s' hS => ?_) ⟨rfl, rfl, h⟩
  obtain ⟨rfl, rfl, hq⟩ := hS
  show wpAny _ _ (dictGet d u >>= _) _ _ _
  refine wpAny_bind (get_N (show A'.in1.units + 8 < cLine by show A'.units + 1 + 8 < cLine; omega) hkey hkd hm fun t => ?_)
  cases hf : lkN l k with
  | some v =>
    rw [hf] at hq
    exact wpAny_pure ⟨v, rfl, hq t⟩
  | none =>
    rw [hf] at hq
    show wpAny _ _ (Builtin.Dict.missed d u >>= _) _ _ _
    exact wpAny_bind (wpAny_missed_other hd (wpAny_pure ⟨.none, rfl, hq t⟩))
theorem get2_N {x : Value} {Q : Value → Shared → Prop} (hu : A.units + 9 < cLine) (hkey : NestedIs s.heap k u) (hkd : k.depth ≤ 8) (hd : (d == sysModules) = false) (hm : DictN w s.heap d l)
    (h : ∀ t, Q ((lkN l k).getD x) { s with toks := t }) : wpAny (model prog w) A (call (.builtin "dict.get") [.ref d, u, x]) Q E s := by
  refine call_meetsIn F.slot_dict_get hm.typeIs F.entry_dict_get (F.args_dict_get_3 _ _ _) (S := fun A' R s' => A' = A ∧ s' = s ∧ ∀ t, R (.ok (.ret ((lkN l k).getD x))) { s with toks := t }) (.of_wp fun A' R s' hS => ?_) ⟨rfl, rfl, h⟩
  obtain ⟨rfl, rfl, hq⟩ := hS
  show wpAny _ _ (dictGet d u >>= _) _ _ _
  refine wpAny_bind (get_N (show A'.in1.units + 8 < cLine by show A'.units + 1 + 8 < cLine; omega) hkey hkd hm fun t => ?_)
  cases hf : lkN l k with
  | some v =>
    rw [hf] at hq
    exact wpAny_pure ⟨v, rfl, hq t⟩
  | none =>
    rw [hf] at hq
    show wpAny _ _ (Builtin.Dict.missed d u >>= _) _ _ _
    exact wpAny_bind (wpAny_missed_other hd (wpAny_pure ⟨x, rfl, hq t⟩))
end
end
end KnK
namespace KnK
open PySem
open Sem (wp)
section
variable {prog : Program} {w : World} {A : Around} {E : Value → Shared → Prop} {s : Shared}
theorem meets_len_raw (d : Addr) (hd : (d == sysModules) = false) :
    MeetsIn prog w (Builtin.«dict.__len__» ⟨[.ref d], []⟩) (fun _ R s => ∃ es ep, s.heap.DictRaw d es ep ∧ R (.ok (.ret (.int es.size s.toks))) { s with toks := s.toks + 1 }) :=
  .of_wp fun A R s ⟨es, ep, hm, h⟩ => by
    obtain ⟨o, ho, hc, hdat⟩ := hm
    show wpAny _ _ (dictSize d >>= _) _ _ s
    unfold dictSize
    refine wpAny_bind (wpAny_bind (wpAny_dictEntries ho hdat (wpAny_pure ?_)))
    show wpAny _ _ (Builtin.Dict.pendingCount d >>= _) _ _ s
    refine wpAny_bind (wpAny_pendingCount_other hd ?_)
    refine wpAny_ret_mkInt ?_
    rw [Nat.add_zero]; exact h
theorem len_raw {d : Addr} {es : Array DictEntry} {ep : Nat} {Q : Value → Shared → Prop} (hd : (d == sysModules) = false) (hm : s.heap.DictRaw d es ep) (hfit : (es.size : Int) < 2 ^ 63)
    (h : Q (.int es.size (s.toks + 1)) { s with toks := s.toks + 1 + 1 }) : wpAny (model prog w) A (PySem.call (.builtin "len") [.ref d]) Q E s := by
  refine Calls.call_function_entry kind_len plain_len entry_len (args_len1 _) ?_
  unfold Builtin.«len»
  refine wpAny_bind (m := oneArg "len" _) (wpAny_pure ?_)
  refine wpAny_bind (m := callSpecial? (.ref d) (Str.ofString "__len__")) (wpAny_callSpecial?_slot (name := Str.ofString "__len__") hm.typeIs F.slot_dict_len
    (call_meetsIn F.slot_dict_len hm.typeIs F.entry_dict_len (F.args_dict_len_1 _) (meets_len_raw d hd) ⟨es, ep, hm, ?_⟩))
  show wpAny _ _ _ _ _ { s with toks := s.toks + 1 }
  refine wpAny_bind (wpAny_holding (wpAny_pure ?_))
  refine wpAny_bind (wpAny_letGo ?_)
  show wpAny _ _ (if ((es.size : Nat) : Int) < 0 then _ else _) _ _ _
  rw [if_neg (by omega)]
  show wpAny _ _ (if ((es.size : Nat) : Int) ≥ 2 ^ 63 then _ else _) _ _ _
  rw [if_neg (by omega)]
  exact wpAny_bind (wpAny_mkInt (wpAny_pure ⟨_, rfl, h⟩))
end
end KnK
namespace KnK
open PySem PySem.SeqAt PySem.Spec PyProof.Rows L2
/-- a tuple of things that carry nothing -/
def FlatA (h : Heap) (u : Value) : Prop := ∃ b o vs n, u = .ref b ∧ h.get? b = some o ∧ o.cls = .type "tuple" ∧ o.data = .seq vs n ∧ ∀ v ∈ vs.toList, v.scannable = true
theorem FlatA.keep {h h' : Heap} {u : Value} (x : FlatA h u) (k : ∀ b o vs n, h.get? b = some o → o.data = .seq vs n → h'.get? b = some o) : FlatA h' u := by
  obtain ⟨b, o, vs, n, e, ho, hc, hd, hs⟩ := x
  exact ⟨b, o, vs, n, e, k b o vs n ho hd, hc, hd, hs⟩
section
variable {P : Program} {w : World} {A : Around} {E : Value → Shared → Prop} {s : Shared}
theorem ofAClass_flatI (n : Nat) {v : Value} (h : v.scannable = true) : ofAClassStatement n v = pure false := by
  cases v <;> first | (cases h; done) | (cases n <;> rfl)
theorem ofAClass_flat {u : Value} {Q : Bool → Shared → Prop} (x : FlatA s.heap u) (h : Q false s) : wpAny (model P w) A (ofAClassStatement 8 u) Q E s := by
  obtain ⟨b, o, vs, n, rfl, ho, hc, hd, hs⟩ := x
  unfold ofAClassStatement
  refine wpAny_bind (wpAny_typeOf ⟨o, ho, hc⟩ ?_)
  dsimp only
  have e : (("tuple" : String) == "tuple") = true := by decide
  simp only [e, if_true, Bool.not_true, Bool.false_eq_true, if_false]
  try refine wpAny_bind (wpAny_pure ?_)
  try simp only [Bool.not_true, Bool.false_eq_true, if_false]
  show wpAny _ _ (seqItems? (.ref b) >>= _) _ _ s
  refine wpAny_bind (wpAny_seqItems ho hd ?_)
  dsimp only
  refine wpAny_bind ?_
  show wpAny _ _ (forIn vs _ _) _ _ s
  rw [← Array.forIn_toList]
  refine wpAny_forIn_list _ (fun rest r s' => r.1 = none ∧ s' = s ∧ ∀ v ∈ rest, v.scannable = true) _ ?_ ?_ _ _ ⟨rfl, rfl, hs⟩
  · rintro v rest r s' ⟨hr, rfl, hall⟩
    rw [ofAClass_flatI _ (hall v (by simp))]
    refine wpAny_bind (wpAny_pure ?_)
    simp only [Bool.false_eq_true, if_false]
    exact wpAny_pure ⟨rfl, rfl, fun z hz => hall z (by simp [hz])⟩
  · rintro ⟨r1, r2⟩ s' ⟨hr, rfl, _⟩
    simp only at hr
    subst hr
    exact wpAny_pure h
theorem hashBy_flat {u : Value} {Q : Bool → Shared → Prop} (x : FlatA s.heap u) (h : ∀ b, Q b s) : wpAny (model P w) A (hashByValue 8 u) Q E s := by
  obtain ⟨b, o, vs, n, rfl, ho, hc, hd, hs⟩ := x
  unfold hashByValue
  refine wpAny_bind (wpAny_specialOf (T := "tuple") ⟨o, ho, hc⟩ F.slot_tuple_hash.lookup ?_)
  show wpAny _ _ (seqItems? (.ref b) >>= _) _ _ s
  refine wpAny_bind (wpAny_seqItems ho hd ?_)
  refine wpAny_bind ?_
  show wpAny _ _ (forIn vs _ _) _ _ s
  rw [← Array.forIn_toList]
  refine wpAny_forIn_list _ (fun rest r s' => s' = s ∧ ∀ v ∈ rest, v.scannable = true) _ ?_ ?_ _ _ ⟨rfl, hs⟩
  · rintro v rest r s' ⟨rfl, hall⟩
    rw [hashByValue_scannable _ (hall v (by simp))]
    refine wpAny_bind (wpAny_pure ?_)
    cases plainKind v
    · simp only [Bool.not_false, if_true]
      refine wpAny_pure ?_
      simp only
      exact wpAny_pure (h _)
    · simp only [Bool.not_true, Bool.false_eq_true, if_false]
      exact wpAny_pure ⟨rfl, fun z hz => hall z (by simp [hz])⟩
  · rintro ⟨r1, r2⟩ s' ⟨rfl, _⟩
    cases r1 with
    | none => exact wpAny_pure (h _)
    | some c => exact wpAny_pure (h _)
/-- a key that is a flat tuple -/
structure KeyT (h : Heap) (k : NestedKey) (u : Value) : Prop where
  is : NestedIs h k u
  dp : k.depth ≤ 8
  fl : FlatA h u
theorem KeyT.keep {h h' : Heap} {k : NestedKey} {u : Value} (x : KeyT h k u) (e : ∀ b o vs n, h.get? b = some o → o.data = .seq vs n → h'.get? b = some o) : KeyT h' k u := ⟨NestedIs.at e k u x.is, x.dp, x.fl.keep e⟩
theorem seen_flat {k : NestedKey} {u : Value} {Q : Bool → Shared → Prop} (x : KeyT s.heap k u) {ys : List Value} (hy : ∀ y ∈ ys, ∃ k', KeyT s.heap k' y) (h : Q false s) :
    wpAny (model P w) A (searchCouldBeSeen u ys) Q E s := by
  unfold searchCouldBeSeen
  refine wpAny_bind ?_
  refine wpAny_forIn_list _ (fun rest r s' => r.1 = none ∧ s' = s ∧ ∀ y ∈ rest, ∃ k', KeyT s.heap k' y) _ ?_ ?_ _ _ ⟨rfl, rfl, hy⟩
  · rintro v rest r s' ⟨hr, rfl, hall⟩
    obtain ⟨k', hc⟩ := hall v (by simp)
    have rest' : ∀ y ∈ rest, ∃ k', KeyT s'.heap k' y := fun z hz => hall z (by simp [hz])
    obtain ⟨b, _, _, _, eb, _⟩ := x.fl
    obtain ⟨c, _, _, _, ec, _⟩ := hc.fl
    subst eb ec
    dsimp only
    by_cases hv : (b == c || (carriedByValue (.ref b) && carriedByValue (.ref c))) = true
    · refine wp_if_pos hv ?_
      exact wpAny_pure ⟨rfl, rfl, rest'⟩
    · refine wp_if_neg hv ?_
      refine wpAny_bind (quiet_key (prog := P) (w := w) k _ 8 s' x.is x.dp _ _ _ ?_)
      simp only [Bool.not_true, Bool.false_eq_true, if_false]
      refine wpAny_bind (quiet_key (prog := P) (w := w) k' _ 8 s' hc.is hc.dp _ _ _ ?_)
      simp only [Bool.not_true, Bool.false_eq_true, if_false]
      refine wpAny_bind (ofAClass_flat x.fl ?_)
      simp only [Bool.false_eq_true, if_false]
      refine wpAny_bind (ofAClass_flat hc.fl ?_)
      simp only [Bool.false_eq_true, if_false]
      exact wpAny_pure ⟨rfl, rfl, rest'⟩
  · rintro ⟨r1, r2⟩ s' ⟨hr, rfl, _⟩
    simp only at hr
    subst hr
    exact wpAny_pure h
end
section
variable {P : Program} {w : World} {A : Around} {E : Value → Shared → Prop} {s : Shared} (kf : Nat → NestedKey) (uf : Nat → Value)
abbrev hN (w : World) (i : Nat) : Int := (kf i).hash w
def rowN (w : World) (L : List Nat) : List (Int × Value) := L.map fun i => (hN kf w i, uf i)
/-- the set's rows, and that it can be walked -/
structure SetG (w : World) (h : Heap) (a : Addr) (L : List Nat) (es : Array (Int × Value)) (ep : Nat) (t : SetTable) : Prop where
  ob : ∃ o, h.get? a = some o ∧ o.ExactSet ∧ o.data = .set es ep t
  rows : es.toList = rowN kf uf w L
  nd : (L.map kf).Nodup
  fit : t.fits es.size = true
  ris : Ris t.place.toList
  led : w.params.followText "set-order" = true ∨ t.led = true
  few : L.length < 64
variable {kf uf} {a : Addr} {L : List Nat} {es : Array (Int × Value)} {ep : Nat} {t : SetTable}
theorem rowN_size (h : es.toList = rowN kf uf w L) : es.size = L.length := by
  have := congrArg List.length h
  unfold rowN at this
  rw [Array.length_toList, List.length_map] at this
  exact this
theorem SetG.size {h : Heap} (R : SetG kf uf w h a L es ep t) : es.size = L.length := rowN_size R.rows
theorem SetG.entry {h : Heap} (R : SetG kf uf w h a L es ep t) {i j : Nat} (e : L[i]? = some j) : es[i]? = some (hN kf w j, uf j) := by
  rw [← Array.getElem?_toList, R.rows]
  unfold rowN
  rw [List.getElem?_map, e]
  rfl
/-- of flat tuples -/
structure SetN (w : World) (h : Heap) (a : Addr) (L : List Nat) (es : Array (Int × Value)) (ep : Nat) (t : SetTable) : Prop extends SetG kf uf w h a L es ep t where
  tab : TabOk t (L.map fun i => hN kf w i)
  tup : ∀ i ∈ L, KeyT h (kf i) (uf i)
  room : L.length * 5 < t.mask * 3
theorem SetN.gw {h : Heap} (R : SetN (kf := kf) (uf := uf) w h a L es ep t) : ¬ t.gaveWay = true := by
  unfold SetTable.gaveWay
  rw [mask_odd R.tab.mok]
  decide
theorem fits_of {es : Array (Int × Value)} {t : SetTable} (h1 : t.place.size = es.size) (h2 : t.dummies = #[]) (h3 : es.size ≤ t.mask) : t.fits es.size = true := by
  unfold SetTable.fits SetTable.fill
  rw [h2, Bool.and_eq_true, beq_iff_eq, decide_eq_true_eq]
  exact ⟨h1, by rw [h1]; exact h3⟩
theorem searchN (R : SetN (kf := kf) (uf := uf) w s.heap a L es ep t) {k : NestedKey} {u : Value} (hx : KeyT s.heap k u) (hu : A.units + 8 < cLine) {K : Nat} (hKf : K < 10 * SetTable.turns t.mask)
    (hK : way t.mask (k.hash w) K ∉ t.place.toList) (hKb : ∀ c, c < K → way t.mask (k.hash w) c ∈ t.place.toList) {Q : SetFound → Shared → Prop}
    (hin : k ∈ L.map kf → Q (.there none) s) (hout : k ∉ L.map kf → Q (.free (way t.mask (k.hash w) K) false) s) :
    ∀ (f c : Nat) (stand : Option SetTable.Probe), stand.getD (t.probeStart (k.hash w)) = nth t.mask (runAt t.mask (SetTable.bits (k.hash w) % (t.mask + 1)) (SetTable.bits (k.hash w))) c → c ≤ K → K - c < f →
      (∀ (i j : Nat), L[i]? = some j → kf j = k → ∃ c', c ≤ c' ∧ c' < K ∧ t.place.toList[i]? = some (way t.mask (k.hash w) c')) →
      wpAny (model P w) A (setSearchFrom a u (k.hash w) true f stand) Q E s
  | 0, c, stand, _, _, hf, _ => absurd hf (Nat.not_lt_zero _)
  | f + 1, c, stand, hst, hc, hf, hre => by
    obtain ⟨o, ho, hex, hd⟩ := R.ob
    rw [setSearchFrom_succ]
    refine wpAny_bind (wpAny_setState_of ho hd R.fit ?_)
    dsimp only
    refine wp_if_neg R.gw ?_
    try refine wpAny_bind (wpAny_pure ?_)
    let p0 := runAt t.mask (SetTable.bits (k.hash w) % (t.mask + 1)) (SetTable.bits (k.hash w))
    have hnd : (nth t.mask p0 c).dummy = none := by
      have key : ∀ (n : Nat) (p : SetTable.Probe), p.dummy = none → (nth t.mask p n).dummy = none := by
        intro n
        induction n with
        | zero => intro p h; exact h
        | succ n ih =>
          intro p h
          refine ih (adv t.mask p) ?_
          unfold adv
          split <;> exact h
      exact key c _ rfl
    have sh : ∀ q, nth t.mask (nth t.mask p0 c) q = nth t.mask p0 (c + q) := fun q => (nth_add t.mask c _ q).symm
    have e1 : ∀ q, (nth t.mask (nth t.mask p0 c) q).j = way t.mask (k.hash w) (c + q) := fun q => congrArg SetTable.Probe.j (sh q)
    have spec := go_spec t R.ris R.tab.dm (fun i => (es[i]?.map (·.1)).getD 0) (k.hash w) (10 * SetTable.turns t.mask) (K - c) _ hnd (by omega)
      (fun q hq => by rw [e1]; exact hKb (c + q) (by omega)) (by rw [e1, show c + (K - c) = K by omega]; exact hK)
    have hashAt : ∀ (i j : Nat), L[i]? = some j → (fun i => (es[i]?.map (·.1)).getD 0) i = (kf j).hash w := fun i j hp => by
      show (es[i]?.map (·.1)).getD 0 = _
      rw [R.entry hp]
      rfl
    rcases spec with ⟨q, i, hq, hi, hh, hno, hpr⟩ | ⟨hno, hpr⟩
    · have hpr' : t.probe (fun i => (es[i]?.map (·.1)).getD 0) (k.hash w) (stand.getD (t.probeStart (k.hash w))) = some (.candidate (way t.mask (k.hash w) (c + q)) i (nth t.mask p0 (c + (q + 1)))) := by
        rw [hst, ← e1, ← sh]
        exact hpr
      rw [hpr']
      dsimp only
      rw [e1] at hi
      have hil : i < L.length := by
        have h1 : i < t.place.toList.length := (List.getElem?_eq_some_iff.mp hi).1
        have h2 := R.tab.sz
        rw [List.length_map] at h2
        rw [Array.length_toList] at h1
        omega
      have hp : L[i]? = some L[i] := List.getElem?_eq_getElem hil
      generalize hpe : L[i] = j at hp
      have hmem : j ∈ L := List.mem_of_getElem? hp
      have hpt := R.tup j hmem
      have rest : wpAny (model P w) A (searchRest a u (k.hash w) true f es t (way t.mask (k.hash w) (c + q)) i (nth t.mask p0 (c + (q + 1)))) Q E s := by
        unfold searchRest
        rw [R.entry hp]
        dsimp only
        refine wpAny_bind (wpAny_holding (eq_key hpt.is hx.is hpt.dp hu ?_))
        refine wpAny_bind (wpAny_setState_of ho hd R.fit ?_)
        dsimp only
        by_cases hkk : kf j = k
        · refine wp_if_pos (by simp [hkk]) ?_
          exact wpAny_pure (hin (List.mem_map.mpr ⟨j, hmem, hkk⟩))
        · refine wp_if_neg (by simp [hkk]) ?_
          try refine wpAny_bind (wpAny_pure ?_)
          rw [sameMem]
          dsimp only
          have hsl : t.slot (way t.mask (k.hash w) (c + q)) = .live i := slot_live R.ris hi
          simp only [if_true, hsl, R.entry hp]
          obtain ⟨b, _, _, _, eb, _⟩ := hpt.fl
          rw [eb]
          refine wpAny_bind (wpAny_isSame_ref_self (wpAny_bind (wpAny_pure ?_)))
          simp only [if_true]
          refine wp_if_neg (by simp [hkk]) ?_
          refine searchN R hx hu hKf hK hKb hin hout f (c + (q + 1)) _ rfl (by omega) (by omega) fun i0 j0 h0 hk0 => ?_
          obtain ⟨c', a1, a2, a3⟩ := hre i0 j0 h0 hk0
          refine ⟨c', ?_, a2, a3⟩
          rcases Nat.lt_or_ge c' (c + q) with z | z
          · exfalso
            refine hno (c' - c) i0 (by omega) (by rw [e1, show c + (c' - c) = c' by omega]; exact a3) ?_
            exact (hashAt i0 j0 h0).trans (by rw [hk0])
          · rcases Nat.lt_or_ge (c + q) c' with y | y
            · omega
            · exfalso
              have ec : c' = c + q := Nat.le_antisymm y z
              rw [ec] at a3
              have s0 := slot_live R.ris a3
              rw [hsl] at s0
              injection s0 with s0
              rw [← s0, hp] at h0
              cases h0
              exact hkk hk0
      by_cases hl : t.led = true
      · refine wp_if_neg (by simp [hl]) ?_
        try refine wpAny_bind (wpAny_pure ?_)
        exact rest
      · refine wp_if_pos (by simp [hl]) ?_
        refine wpAny_bind (seen_flat hx (fun y hy => ?_) ?_)
        · obtain ⟨e, he, ee⟩ := List.mem_map.mp hy
          have he1 : e ∈ es ∧ e.1 = k.hash w := by simpa using he
          have he2 : e ∈ es.toList := by simpa using he1.1
          rw [R.rows] at he2
          obtain ⟨j2, hj2, e2⟩ := List.mem_map.mp he2
          exact ⟨kf j2, by rw [← ee, ← e2]; exact R.tup j2 hj2⟩
        · refine wp_if_neg (by decide) ?_
          try refine wpAny_bind (wpAny_pure ?_)
          exact rest
    · have hpr' : t.probe (fun i => (es[i]?.map (·.1)).getD 0) (k.hash w) (stand.getD (t.probeStart (k.hash w))) = some (.empty (way t.mask (k.hash w) K) none) := by
        have e2 : way t.mask (k.hash w) K = (nth t.mask (nth t.mask p0 c) (K - c)).j := by
          rw [e1, show c + (K - c) = K by omega]
        rw [hst, e2]
        exact hpr
      rw [hpr']
      dsimp only
      refine wpAny_pure (hout fun hm => ?_)
      obtain ⟨j0, h0, hk0⟩ := List.mem_map.mp hm
      obtain ⟨i0, hi0, e0⟩ := List.getElem_of_mem h0
      have h00 : L[i0]? = some j0 := by rw [List.getElem?_eq_getElem hi0, e0]
      obtain ⟨c', a1, a2, a3⟩ := hre i0 j0 h00 hk0
      refine hno (c' - c) i0 (by omega) (by rw [e1, show c + (c' - c) = c' by omega]; exact a3) ?_
      exact (hashAt i0 j0 h00).trans (by rw [hk0])
theorem search_atN (R : SetN (kf := kf) (uf := uf) w s.heap a L es ep t) {k : NestedKey} {u : Value} (hx : KeyT s.heap k u) (hu : A.units + 8 < cLine) {Q : SetFound → Shared → Prop}
    (hin : k ∈ L.map kf → Q (.there none) s)
    (hout : ∀ K, k ∉ L.map kf → way t.mask (k.hash w) K ∉ t.place.toList → (∀ c, c < K → way t.mask (k.hash w) c ∈ t.place.toList) → Q (.free (way t.mask (k.hash w) K) false) s) :
    wpAny (model P w) A (setSearch a u (k.hash w) true) Q E s := by
  have hroom := R.room
  obtain ⟨K, hKf, hK, hKb⟩ := R.tab.first (by rw [List.length_map]; omega) (k.hash w)
  have hbig : K < 100000 := by
    have : 10 * SetTable.turns t.mask ≤ 1420 := by
      unfold SetTable.turns
      rcases R.tab.mok with e | e | e <;> omega
    omega
  unfold setSearch
  refine searchN R hx hu hKf hK hKb hin (fun hn => hout K hn hK hKb) 100000 0 none rfl (Nat.zero_le _) (by omega) fun i j hp hk => ?_
  have hi : (L.map fun i => hN kf w i)[i]? = some (k.hash w) := by rw [List.getElem?_map, hp, ← hk]; rfl
  have hil : i < t.place.toList.length := by
    have h1 : i < L.length := (List.getElem?_eq_some_iff.mp hp).1
    have h2 := R.tab.sz
    rw [List.length_map] at h2
    rw [Array.length_toList]
    omega
  have hj := List.getElem?_eq_getElem hil
  obtain ⟨c, hc, e⟩ := R.tab.before hK hi hj
  exact ⟨c, Nat.zero_le _, hc, by rw [hj, e]⟩
theorem key_same {h h' : Heap} {k : NestedKey} {u : Value} {o : Obj} (hb : KeyT h k u) (ho : h.get? a = some o) (hd : o.data = .set es ep t) (hs : Heap.SameBut a h h') : KeyT h' k u :=
  hb.keep fun b ob vs n hg hq => (hs.2 b fun e => by
    subst e
    rw [ho] at hg
    cases hg
    rw [hd] at hq
    cases hq).trans hg
theorem rowN_put (L : List Nat) (p i : Nat) : rowN kf uf w (L.take p ++ i :: L.drop p) = (rowN kf uf w L).take p ++ (hN kf w i, uf i) :: (rowN kf uf w L).drop p := by
  unfold rowN
  rw [List.map_append, List.map_cons, List.map_take, List.map_drop]
/-- a list that is a mapped one in another order -/
theorem perm_map {α β : Type} {f : α → β} {l m : List β} (h : l.Perm m) : ∀ {x : List α}, m = x.map f → ∃ y : List α, y.Perm x ∧ l = y.map f := by
  induction h with
  | nil =>
    intro x e
    cases x with
    | nil => exact ⟨[], .refl _, rfl⟩
    | cons a r => cases e
  | cons c _ ih =>
    intro x e
    cases x with
    | nil => cases e
    | cons a r =>
      simp only [List.map_cons, List.cons.injEq] at e
      obtain ⟨y, h1, h2⟩ := ih e.2
      exact ⟨a :: y, h1.cons a, by rw [h2, e.1]; rfl⟩
  | swap c d l =>
    intro x e
    match x, e with
    | a :: b :: r, e =>
      simp only [List.map_cons, List.cons.injEq] at e
      exact ⟨b :: a :: r, .swap a b r, by rw [e.1, e.2.1, e.2.2]; rfl⟩
    | [a], e => simp at e
    | [], e => simp at e
  | trans _ _ ih1 ih2 =>
    intro x e
    obtain ⟨y, h1, h2⟩ := ih2 e
    obtain ⟨z, h3, h4⟩ := ih1 h2
    exact ⟨z, h3.trans h1, h4⟩
end
end KnK
namespace KnK
open PySem PySem.SeqAt PySem.Spec PyProof.Rows L2
section
variable {P : Program} {w : World} {A : Around} {E : Value → Shared → Prop} {s : Shared} {kf : Nat → NestedKey} {uf : Nat → Value} {a : Addr} {L : List Nat} {es : Array (Int × Value)} {ep : Nat} {t : SetTable}
theorem order_rowN (L : List Nat) (es : Array (Int × Value)) (order : Array Nat) (hr : es.toList = rowN kf uf w L) (hp : order.toList.Perm (List.range L.length)) :
    ∃ L2 : List Nat, (order.filterMap (es[·]?)).toList = rowN kf uf w L2 ∧ L2.Perm L ∧ (L2.map fun i => hN kf w i) = order.toList.map fun i => (es.map (·.1)).getD i 0 := by
  have hsz := rowN_size hr
  have ent : ∀ i (h : i < L.length), es[i]? = some (hN kf w L[i], uf L[i]) := fun i h => by
    rw [← Array.getElem?_toList, hr]
    unfold rowN
    rw [List.getElem?_map, List.getElem?_eq_getElem h]
    rfl
  have key : ∀ l : List Nat, (∀ i ∈ l, i < L.length) → ∃ L2 : List Nat, l.filterMap (fun i => es[i]?) = rowN kf uf w L2 ∧ L2 = l.filterMap (fun i => L[i]?) ∧ (L2.map fun i => hN kf w i) = l.map fun i => (es.map (·.1)).getD i 0 := by
    intro l
    induction l with
    | nil => intro _; exact ⟨[], rfl, rfl, rfl⟩
    | cons i l ih =>
      intro hl
      have hi := hl i (by simp)
      obtain ⟨L2, e1, e2, e3⟩ := ih fun j hj => hl j (by simp [hj])
      refine ⟨L[i] :: L2, ?_, ?_, ?_⟩
      · rw [List.filterMap_cons_some (ent i hi), e1]
        rfl
      · rw [List.filterMap_cons_some (List.getElem?_eq_getElem hi), e2]
      · rw [List.map_cons, List.map_cons, e3]
        have e5 : (es.map (·.1))[i]? = some (hN kf w L[i]) := by rw [Array.getElem?_map, ent i hi]; rfl
        simp [Array.getD_eq_getD_getElem?, e5]
  obtain ⟨L2, e1, e2, e3⟩ := key order.toList fun i hi => List.mem_range.mp (hp.mem_iff.mp hi)
  refine ⟨L2, by first | (rw [Array.toList_filterMap]; exact e1) | simpa using e1, ?_, e3⟩
  have h1 : L2.Perm ((List.range L.length).filterMap fun i => L[i]?) := by
    rw [e2]
    exact hp.filterMap _
  have h2 : ∀ n, n ≤ L.length → (List.range n).filterMap (fun i => L[i]?) = L.take n := by
    intro n
    induction n with
    | zero => intro _; rfl
    | succ n ih =>
      intro hn
      have hlt : n < L.length := hn
      rw [List.range_succ, List.filterMap_append, ih (Nat.le_of_lt hlt), List.take_succ, List.getElem?_eq_getElem hlt]
      rw [List.filterMap_cons_some (List.getElem?_eq_getElem hlt)]
      rfl
  rw [h2 L.length (Nat.le_refl _), List.take_length] at h1
  exact h1
theorem relayN {o : Obj} (ho : s.heap.get? a = some o) (hex : o.ExactSet) (hd : o.data = .set es ep t) (hrows : es.toList = rowN kf uf w L) (hsz : t.place.size = es.size) (hdm : t.dummies = #[]) (hfl : es.size ≤ t.mask)
    (nd : (L.map kf).Nodup) (tup : ∀ i ∈ L, KeyT s.heap (kf i) (uf i)) (ld : w.params.followText "set-order" = true ∨ t.led = true) (few : L.length < 64) {wanted M : Nat}
    (hw : SetTable.sizeAbove wanted - 1 = M) (hM : MaskOk M) (hw2 : SetTable.sizeAbove wanted ≤ 128) (hn : L.length * 5 < M * 3) {Q : Unit → Shared → Prop}
    (hQ : ∀ h' L' es' ep' t', Heap.SameBut a s.heap h' → SetN (kf := kf) (uf := uf) w h' a L' es' ep' t' → L'.Perm L → Q () { s with heap := h' }) : wpAny (model P w) A (setRelay a wanted) Q E s := by
  have hsl := rowN_size hrows
  have hfits : t.fits es.size = true := fits_of hsz hdm hfl
  obtain ⟨t', order, e, hp, T, em, el, ep', ed⟩ := relaid_ok t (hs := es.map (·.1)) (wanted := wanted) hw hM (by rw [Array.size_map, hsl]; omega)
  rw [Array.size_map, hsl] at hp
  obtain ⟨L2, r1, r2, r3⟩ := order_rowN L es order hrows hp
  rw [← r3] at T
  have hs2 : (order.filterMap (es[·]?)).size = es.size := by rw [rowN_size r1, r2.length_eq, hsl]
  rw [setRelay_eq]
  refine wpAny_bind (wpAny_setState_of ho hd hfits ?_)
  dsimp only
  refine wp_if_neg (by rw [sizeLine_eq]; omega) ?_
  try refine wpAny_bind (wpAny_pure ?_)
  rw [e]
  dsimp only
  refine wpAny_bind ?_
  refine wp_if_neg (by rw [hs2]; simp) ?_
  try refine wpAny_bind (wpAny_pure ?_)
  refine wpAny_pure ?_
  dsimp only
  refine wpAny_storeSet_of ho hd ?_ (by rw [hs2, hsl, sizeLine_eq]; omega)
  have sb : Heap.SameBut a s.heap (s.heap.update a (Obj.putSet (order.filterMap (es[·]?)) t')) := Heap.SameBut.update ..
  refine hQ _ L2 (order.filterMap (es[·]?)) (ep + 1) t' sb ?_ r2
  have hts := T.sz
  rw [List.length_map] at hts
  exact ⟨⟨⟨_, store_at ho hd, ⟨hex.1, hex.2.1, hex.2.2⟩, rfl⟩, r1, (r2.map kf).nodup_iff.mpr nd, fits_of (by rw [hts, hs2, hsl, r2.length_eq]) T.dm (by rw [hs2, hsl, em]; omega), T.ris, by rw [el]; exact ld, by rw [r2.length_eq]; exact few⟩,
    T, fun i hi => key_same (tup i (r2.mem_iff.mp hi)) ho hd sb, by rw [r2.length_eq, em]; exact hn⟩
theorem addN (R : SetN (kf := kf) (uf := uf) w s.heap a L es ep t) (i : Nat) (hx : KeyT s.heap (kf i) (uf i)) (hu : A.units + 8 < cLine) (hfew : L.length + 1 < 64) {Q : Bool → Shared → Prop}
    (hQ : ∀ b h' L' es' ep' t', Heap.SameBut a s.heap h' → SetN (kf := kf) (uf := uf) w h' a L' es' ep' t' → (kf i ∈ L.map kf → L' = L) → (kf i ∉ L.map kf → L'.Perm (i :: L)) → Q b { s with heap := h' }) :
    wpAny (model P w) A (setAddHashed a (uf i) (hN kf w i)) Q E s := by
  obtain ⟨o, ho, hex, hd⟩ := R.ob
  have hsl := R.size
  have hroom := R.room
  obtain ⟨b0, _, _, _, eb, _⟩ := hx.fl
  unfold setAddHashed
  refine wpAny_holding ?_
  rw [show (100000 : Nat) = 99999 + 1 from rfl, setAddHashedIn_succ]
  refine wpAny_bind (wpAny_setState_of ho hd R.fit ?_)
  dsimp only
  refine wp_if_neg (by rw [eb]; simp [byScan, Value.scannable]) ?_
  try refine wpAny_bind (wpAny_pure ?_)
  refine wpAny_bind (search_atN R hx hu (fun hm => ?_) fun K hm hK hb => ?_)
  · dsimp only
    exact wpAny_pure (hQ false s.heap L es ep t (Heap.SameBut.refl a s.heap) R (fun _ => rfl) fun z => absurd hm z)
  · dsimp only
    refine wpAny_bind (wpAny_setState_of ho hd R.fit ?_)
    dsimp only
    obtain ⟨q1, q2, q3, q4, q5, q6, q7, q8, q9⟩ := R.tab.put hK hb
    generalize hpt : t.put (way t.mask (hN kf w i) K) = pt at q1 q3 q4 q5 q6 q7 q8 q9 ⊢
    obtain ⟨t0, p⟩ := pt
    dsimp only at q1 q3 q4 q5 q6 q7 q8 q9 ⊢
    subst q1
    have rest : ∀ bv : Bool, wpAny (model P w) A (do
        storeSet a (SetTable.insertAt es (SetTable.below t.place (way t.mask (hN kf w i) K)) (hN kf w i, uf i)) (if bv = true then t0 else { t0 with plain := false })
        if (!false && (if bv = true then t0 else { t0 with plain := false }).tooFull) = true then do
            setRelay a (SetTable.grown (es.size + 1))
            pure true
          else pure true) Q E s := fun bv => by
      obtain ⟨t1, ht1⟩ : ∃ t1, t1 = (if bv = true then t0 else { t0 with plain := false }) := ⟨_, rfl⟩
      rw [← ht1]
      have same : t1.place = t0.place ∧ t1.mask = t0.mask ∧ t1.dummies = t0.dummies ∧ t1.led = t0.led := by
        rw [ht1]; cases bv <;> exact ⟨rfl, rfl, rfl, rfl⟩
      obtain ⟨s1, s2, s3, s4⟩ := same
      have q3 : TabOk t1 _ := ⟨by rw [s1]; exact q3.ris, by rw [s3]; exact q3.dm, by rw [s1]; exact q3.sz, by rw [s2]; exact q3.mok, by rw [s1, s2]; exact q3.bd, by rw [s1, s2]; exact q3.reach⟩
      have q4 : t1.mask = t.mask := s2.trans q4
      have q5 : t1.led = t.led := s4.trans q5
      have q9 : t1.fill = (L.map fun i => hN kf w i).length + 1 := by
        unfold SetTable.fill at q9 ⊢
        rw [s1, s3]; exact q9
      clear ht1 s1 s2 s3 s4 q6 q7 q8 hpt
      have hin : (SetTable.insertAt es (SetTable.below t.place (way t.mask (hN kf w i) K)) (hN kf w i, uf i)).toList = rowN kf uf w (L.take (SetTable.below t.place (way t.mask (hN kf w i) K)) ++ i :: L.drop (SetTable.below t.place (way t.mask (hN kf w i) K))) := by
        rw [SetTable.toList_insertAt, rowN_put, R.rows]
      generalize hpp : SetTable.below t.place (way t.mask (hN kf w i) K) = p at q2 q3 hin ⊢
      have pm := put_perm L p i
      have hlen : (L.take p ++ i :: L.drop p).length = L.length + 1 := pm.length_eq
      have hhs : (L.take p ++ i :: L.drop p).map (fun i => hN kf w i) = (L.map fun i => hN kf w i).take p ++ hN kf w i :: (L.map fun i => hN kf w i).drop p := by
        rw [List.map_append, List.map_cons, List.map_take, List.map_drop]
      rw [← hhs] at q3
      have nd1 : ((L.take p ++ i :: L.drop p).map kf).Nodup := by
        refine (pm.map kf).nodup_iff.mpr ?_
        rw [List.map_cons]
        exact List.nodup_cons.mpr ⟨hm, R.nd⟩
      have hes : (SetTable.insertAt es p (hN kf w i, uf i)).size = L.length + 1 := by rw [rowN_size hin, hlen]
      generalize SetTable.insertAt es p (hN kf w i, uf i) = es1 at hin hes ⊢
      generalize L.take p ++ i :: L.drop p = L1 at pm hlen q3 nd1 hin
      refine wpAny_bind (wpAny_storeSet_of ho hd ?_ (by rw [hes, sizeLine_eq]; omega))
      have sb : Heap.SameBut a s.heap (s.heap.update a (Obj.putSet es1 t1)) := Heap.SameBut.update ..
      have ho1 := store_at (es' := es1) (t' := t1) ho hd
      generalize s.heap.update a (Obj.putSet es1 t1) = h1 at sb ho1 ⊢
      have tup1 : ∀ j ∈ L1, KeyT h1 (kf j) (uf j) := fun j hj => by
        rcases List.mem_cons.mp (pm.mem_iff.mp hj) with e | hj
        · rw [e]; exact key_same hx ho hd sb
        · exact key_same (R.tup j hj) ho hd sb
      have ld1 : w.params.followText "set-order" = true ∨ t1.led = true := by rw [q5]; exact R.led
      have hsz1 : t1.place.size = es1.size := by
        have h := q3.sz
        rw [List.length_map, hlen] at h
        rw [h, hes]
      by_cases hf : t1.tooFull = true
      · first
          | (refine wpAny_bind ?_; refine wp_if_pos (by simp [hf]) ?_)
          | (refine wp_if_pos (by simp [hf]) ?_; refine wpAny_bind ?_)
        have hfull : (L.length + 1) * 5 ≥ t1.mask * 3 := by
          have h := hf
          unfold SetTable.tooFull at h
          rw [decide_eq_true_eq, q9, List.length_map] at h
          exact h
        rw [hsl]
        have cases2 : (t.mask = 7 ∧ L.length = 4) ∨ (t.mask = 31 ∧ L.length = 18) := by
          rcases R.tab.mok with e | e | e
          · left; rw [q4, e] at hfull; rw [e] at hroom; exact ⟨e, by omega⟩
          · right; rw [q4, e] at hfull; rw [e] at hroom; exact ⟨e, by omega⟩
          · exfalso; rw [q4, e] at hfull; omega
        have go : ∀ M, SetTable.sizeAbove (SetTable.grown (L.length + 1)) - 1 = M → MaskOk M → SetTable.sizeAbove (SetTable.grown (L.length + 1)) ≤ 128 → (L.length + 1) * 5 < M * 3 →
            wpAny (model P w) A (setRelay a (SetTable.grown (L.length + 1))) (fun _ s' => wpAny (model P w) A (pure true) Q E s') E { s with heap := h1 } := fun M h1' h2' h3' h4' => by
          refine relayN (s := { s with heap := h1 }) ho1 ⟨hex.1, hex.2.1, hex.2.2⟩ rfl hin hsz1 q3.dm (by rw [hes, q4]; rcases cases2 with ⟨e, e2⟩ | ⟨e, e2⟩ <;> omega) nd1 tup1 ld1 (by rw [hlen]; exact hfew) h1' h2' h3' (by rw [hlen]; exact h4') ?_
          intro h2 L2 es2 ep2 t2 sb2 R2 pm2
          exact wpAny_pure (hQ true h2 L2 es2 ep2 t2 (sb.trans sb2) R2 (fun z => absurd z hm) fun _ => pm2.trans pm)
        rcases cases2 with ⟨_, e2⟩ | ⟨_, e2⟩
        · refine go 31 (by rw [e2, size_20]) (.inr (.inl rfl)) (by rw [e2, size_20]; decide) (by omega)
        · refine go 127 (by rw [e2, size_76]) (.inr (.inr rfl)) (by rw [e2, size_76]; decide) (by omega)
      · first
          | refine wp_if_neg (by simp [hf]) ?_
          | (refine wpAny_bind ?_; refine wp_if_neg (by simp [hf]) ?_; refine wpAny_pure ?_)
        have hnf : ¬ (L.length + 1) * 5 ≥ t1.mask * 3 := by
          have h := hf
          unfold SetTable.tooFull at h
          rw [decide_eq_true_eq, q9, List.length_map] at h
          exact h
        exact wpAny_pure (hQ true h1 L1 es1 (ep + 1) t1 sb ⟨⟨⟨_, ho1, ⟨hex.1, hex.2.1, hex.2.2⟩, rfl⟩, hin, nd1, fits_of hsz1 q3.dm (by omega), q3.ris, ld1, by rw [hlen]; exact hfew⟩, q3, tup1, by rw [hlen]; omega⟩ (fun z => absurd z hm) fun _ => pm)
    split
    · exact wpAny_bind (hashBy_flat hx.fl fun bv => rest bv)
    · exact wpAny_bind (wpAny_pure (rest true))
/-- the items are texts -/
def TxtF (n : Nat) (kf : Nat → NestedKey) (uf : Nat → Value) : Prop := ∀ i, i < n → ∃ x tk, kf i = .text x ∧ uf i = .str x tk
theorem elems_txt {n : Nat} (hT : TxtF n kf uf) (hL : ∀ i ∈ L, i < n) (hr : es.toList = rowN kf uf w L) : ElemsOf (PySem.strKind P w) es.toList := fun e he => by
  rw [hr] at he
  obtain ⟨i, hi, rfl⟩ := List.mem_map.mp he
  obtain ⟨x, tk, e1, e2⟩ := hT i (hL i hi)
  refine ⟨⟨x, ?_, ?_⟩, ?_⟩
  · show (PySem.strKind P w).is x (uf i) = true
    rw [e2]; exact (by simp [PySem.strKind, Value.isStrOf, Value.isStr])
  · show (kf i).hash w = _
    rw [e1]; rfl
  · show (uf i).scannable = true
    rw [e2]; rfl
theorem addT {n : Nat} (hT : TxtF n kf uf) (hL : ∀ i ∈ L, i < n) (R : SetG kf uf w s.heap a L es ep t) {i : Nat} (hi : i < n) (hfew : L.length + 1 < 64) {Q : Bool → Shared → Prop}
    (hQ : ∀ b h' L' es' ep' t', Heap.SameBut a s.heap h' → SetG kf uf w h' a L' es' ep' t' → (kf i ∈ L.map kf → L' = L) → (kf i ∉ L.map kf → L'.Perm (i :: L)) → Q b { s with heap := h' }) :
    wpAny (model P w) A (setAddHashed a (uf i) (hN kf w i)) Q E s := by
  obtain ⟨o, ho, hex, hd⟩ := R.ob
  have hsl := R.size
  obtain ⟨x, tk, ek, eu⟩ := hT i hi
  have hh : hN kf w i = (PySem.strKind P w).hash x := by show (kf i).hash w = _; rw [ek]; rfl
  have hkey : (PySem.strKind P w).is x (.str x tk) = true := by simp [PySem.strKind, Value.isStrOf, Value.isStr]
  have hsc : (Value.str x tk).scannable = true := rfl
  have hel : ElemsOf (PySem.strKind P w) es.toList := elems_txt hT hL R.rows
  have hb : es.size < scanBound := by have := R.few; unfold scanBound; omega
  rw [eu, hh]
  unfold setAddHashed setAddHashedIn
  refine wpAny_holding (wpAny_bind (wpAny_setState_of ho hd R.fit ?_))
  dsimp only
  rw [byScan_of hsc hb hel]
  simp only [↓reduceIte]
  unfold setAddByScan
  refine wpAny_bind ?_
  refine wpAny_bind (wpAny_rule ?_)
  refine wpAny_bind (wpAny_setScan_of hkey ho hd R.fit hel ?_)
  have mem : ∀ e ∈ es.toList, (PySem.strKind P w).is x e.2 = true ↔ ∃ j ∈ L, e = (hN kf w j, uf j) ∧ kf j = kf i := fun e he => by
    rw [R.rows] at he
    obtain ⟨j, hj, rfl⟩ := List.mem_map.mp he
    obtain ⟨y, tk2, e1, e2⟩ := hT j (hL j hj)
    constructor
    · intro q
      refine ⟨j, hj, rfl, ?_⟩
      have q : (PySem.strKind P w).is x (uf j) = true := q
      rw [e2] at q
      have : y = x := by simpa [PySem.strKind, Value.isStrOf, Value.isStr] using q
      rw [e1, ek, this]
    · rintro ⟨j', hj', e3, e4⟩
      have e5 : uf j = uf j' := congrArg Prod.snd e3
      obtain ⟨y', tk3, e6, e7⟩ := hT j' (hL j' hj')
      rw [ek, e6] at e4
      cases e4
      show (PySem.strKind P w).is x (uf j) = true
      rw [e5, e7]
      simp [PySem.strKind, Value.isStrOf, Value.isStr]
  cases hfi : List.findIdx? (fun e => (PySem.strKind P w).is x e.2) es.toList with
  | some j =>
    dsimp only
    obtain ⟨hj, pj, _⟩ := List.findIdx?_eq_some_iff_getElem.mp hfi
    obtain ⟨j', hj', _, e4⟩ := (mem _ (List.getElem_mem hj)).mp pj
    refine wpAny_pure (wpAny_pure ?_)
    exact hQ false s.heap L es ep t (Heap.SameBut.refl a s.heap) R (fun _ => rfl) fun z => absurd (List.mem_map.mpr ⟨j', hj', e4⟩) z
  | none =>
    dsimp only
    have hnk : kf i ∉ L.map kf := fun z => by
      obtain ⟨j, hj, e4⟩ := List.mem_map.mp z
      have hm : (hN kf w j, uf j) ∈ es.toList := by rw [R.rows]; exact List.mem_map.mpr ⟨j, hj, rfl⟩
      have c := List.findIdx?_eq_none_iff.mp hfi _ hm
      rw [(mem _ hm).mpr ⟨j, hj, rfl, e4⟩] at c
      cases c
    have hgw : ∀ (b : Bool) {s₁ : Shared} {Q' : Unit → Shared → Prop}, Q' () s₁ → wpAny (model P w) A (match b with | true => rule "set.scan.the-table-gave-way" | false => pure ()) Q' E s₁ :=
      fun b s₁ Q' q => by cases b <;> first | exact wpAny_pure q | exact wpAny_rule q
    have pm := layNew_perm t es ((PySem.strKind P w).hash x) (.str x tk)
    have hf1 := layNew_fits t es ((PySem.strKind P w).hash x) (.str x tk)
    have hr1 := layNew_ris t es ((PySem.strKind P w).hash x) (.str x tk) R.ris
    have hl1 := layNew_led t es ((PySem.strKind P w).hash x) (.str x tk)
    generalize layNew t es ((PySem.strKind P w).hash x) (.str x tk) = Z at pm hf1 hr1 hl1 ⊢
    obtain ⟨es1, t1, wasDummy, gave⟩ := Z
    dsimp only at pm hf1 hr1 hl1 ⊢
    rw [Array.toList_push] at pm
    have pc : es1.toList.Perm (rowN kf uf w (i :: L)) := by
      refine (pm.trans (List.perm_append_singleton _ _)).trans ?_
      rw [R.rows]
      show ((PySem.strKind P w).hash x, Value.str x tk) :: rowN kf uf w L |>.Perm ((hN kf w i, uf i) :: rowN kf uf w L)
      rw [← hh, ← eu]
    obtain ⟨L1, pL, eL⟩ := perm_map pc rfl
    have nd1 : (L1.map kf).Nodup := (pL.map kf).nodup_iff.mpr (List.nodup_cons.mpr ⟨hnk, R.nd⟩)
    have hsz : es1.size = L.length + 1 := by rw [rowN_size (kf := kf) (uf := uf) (w := w) eL, pL.length_eq, List.length_cons]
    have hb1 : es1.size < scanBound := by unfold scanBound; omega
    have hled : w.params.followText "set-order" = true ∨ t1.led = true := R.led.imp id fun z => by rw [hl1]; exact z
    -- the rest of the adding
    have tail : ∀ (t2 : SetTable), t2.fits es1.size = true → Ris t2.place.toList → (w.params.followText "set-order" = true ∨ t2.led = true) → ∀ (g : Bool → Sem Unit), (∀ (b : Bool) (s₁ : Shared) (Q' : Unit → Shared → Prop), Q' () s₁ → wpAny (model P w) A (g b) Q' E s₁) → ∀ (R' : Option Bool → Shared → Prop),
        (∀ b h' L' es' ep' t', Heap.SameBut a s.heap h' → SetG kf uf w h' a L' es' ep' t' → L'.Perm (i :: L) → R' (some b) { s with heap := h' }) →
        wpAny (model P w) A (do
          storeSet a es1 t2
          if (!wasDummy && t2.tooFull) = true then do
              g (relayAll t2 es1 (SetTable.grown es1.size)).2.2
              storeSet a (relayAll t2 es1 (SetTable.grown es1.size)).1 (relayAll t2 es1 (SetTable.grown es1.size)).2.1
              pure (some true)
            else pure (some true)) R' E s := fun t2 hf2 hr2 hl2 g hg R' hR => by
      refine wpAny_bind (wpAny_storeSet_of ho hd ?_ (fits_of_scanBound hb1))
      have ho1 := store_at (es' := es1) (t' := t2) ho hd
      have sb1 := Heap.SameBut.update s.heap a (Obj.putSet es1 t2)
      split
      · have pm2 := relayAll_perm t2 es1 (SetTable.grown es1.size)
        have hf3 := relayAll_fits t2 es1 (SetTable.grown es1.size)
        have hr3 := relayAll_ris t2 es1 (SetTable.grown es1.size)
        have hl3 := relayAll_led t2 es1 (SetTable.grown es1.size)
        generalize relayAll t2 es1 (SetTable.grown es1.size) = Z at pm2 hf3 hr3 hl3 ⊢
        obtain ⟨es2, t3, gave⟩ := Z
        dsimp only at pm2 hf3 hr3 hl3 ⊢
        rw [eL] at pm2
        obtain ⟨L2, pL2, eL2⟩ := perm_map pm2 rfl
        have hs2 : es2.size = es1.size := by rw [rowN_size (kf := kf) (uf := uf) (w := w) eL2, pL2.length_eq, hsz, pL.length_eq, List.length_cons]
        refine wpAny_bind (hg _ _ _ ?_)
        refine wpAny_bind (wpAny_storeSet_of ho1 rfl ?_ (fits_of_scanBound (by omega)))
        have ho2 := store_at (es' := es2) (t' := t3) ho1 rfl
        exact wpAny_pure (hR true _ L2 es2 _ t3 (sb1.trans (Heap.SameBut.update _ a _)) ⟨⟨_, ho2, hex, rfl⟩, eL2, (pL2.map kf).nodup_iff.mpr nd1, hf3, hr3, hl2.imp id fun z => by rw [hl3]; exact z, by rw [pL2.length_eq, pL.length_eq, List.length_cons]; exact hfew⟩ (pL2.trans pL))
      · exact wpAny_pure (hR true _ L1 es1 _ t2 sb1 ⟨⟨_, ho1, hex, rfl⟩, eL, nd1, hf2, hr2, hl2, by rw [pL.length_eq, List.length_cons]; exact hfew⟩ pL)
    have gg : ∀ (b : Bool) (s₁ : Shared) (Q' : Unit → Shared → Prop), Q' () s₁ → wpAny (model P w) A (match b with | true => rule "set.scan.the-table-gave-way" | false => pure ()) Q' E s₁ := fun b s₁ Q' q => hgw b q
    have fin : ∀ b h' L' es' ep' t', Heap.SameBut a s.heap h' → SetG kf uf w h' a L' es' ep' t' → L'.Perm (i :: L) → Q b { s with heap := h' } := fun b h' L' es' ep' t' sb r p => hQ b h' L' es' ep' t' sb r (fun z => absurd z hnk) fun _ => p
    refine wpAny_bind (hgw _ ?_)
    split
    · refine wpAny_bind ?_
      rw [hashByValue_scannable 8 hsc]
      refine wpAny_pure ?_
      refine tail _ ?_ ?_ ?_ _ ?_ _ ?_
      · first | (split <;> first | exact hf1 | exact SetTable.fits_plain_off hf1) | exact hf1
      · first | (split <;> exact hr1) | exact hr1
      · first | (split <;> exact hled) | exact hled
      · intro b s₁ Q' q; cases b <;> first | exact wpAny_pure q | exact wpAny_rule q
      · intro b h' L' es' ep' t' sb r p; dsimp only; exact wpAny_pure (fin b h' L' es' ep' t' sb r p)
    · refine wpAny_bind (wpAny_pure ?_)
      simp only [↓reduceIte]
      refine tail _ hf1 hr1 hled _ ?_ _ ?_
      · intro b s₁ Q' q; cases b <;> first | exact wpAny_pure q | exact wpAny_rule q
      · intro b h' L' es' ep' t' sb r p; dsimp only; exact wpAny_pure (fin b h' L' es' ep' t' sb r p)
end
end KnK
namespace KnK
open PySem PySem.SeqAt PySem.Spec PyProof.Rows L2
section
variable {P : Program} {w : World} {A : Around} {E : Value → Shared → Prop} {s : Shared} {kf : Nat → NestedKey} {uf : Nat → Value}
/-- how a set grows, item by item -/
structure Grows (P : Program) (w : World) (S : Addr) (h0 : Heap) (n : Nat) (uf : Nat → Value) (J : Nat → Heap → Prop) : Prop where
  keep : ∀ i h h', J i h → (∀ o, h.get? S = some o → h'.get? S = some o) → (∀ b o, h0.get? b = some o → h'.get? b = some o) → J i h'
  base : ∀ i h, J i h → ∀ b o, h0.get? b = some o → h.get? b = some o
  step : ∀ (A : Around) (E : Value → Shared → Prop) (i : Nat) (s : Shared) (Q : Bool → Shared → Prop), A.units + 9 < cLine → i < n → J i s.heap → (∀ b h' tk, s.toks ≤ tk → Heap.SameBut S s.heap h' → J (i + 1) h' → Q b { s with heap := h', toks := tk }) → wpAny (model P w) A (setAdd S (uf i)) Q E s
theorem update_gen {I : Addr} {fp wr : List Addr} {G : Array GenState → Array GenState → Prop} {n : Nat} {Pv : Nat → Value → Prop} {St : Nat → Shared → Prop} {R : Result → Shared → Prop} {J : Nat → Heap → Prop}
    (W : WalksS P w A.in1 I fp wr G n Pv St) (S : Addr) (hSf : S ∉ fp) (hval : ∀ i v, i < n → Pv i v → v = uf i)
    (h0 : Heap) (g : Grows P w S h0 n uf J) (hS0 : h0.get? S = none) (hw0 : ∀ b ∈ wr, h0.get? b = none) (hu : A.in1.units + 9 < cLine) :
    ∀ (k i : Nat) (s : Shared), n - i = k → i ≤ n → St i s → J i s.heap →
      (∀ s', Moved (S :: wr) G s s' → J n s'.heap → R (.ok (.ret .none)) s') →
      codeAny (model P w) A (.builtin "set.update.loop" ⟨[.ref S, .ref I], []⟩) R s := by
  have hSw : S ∉ wr := fun h => hSf (W.sub _ h)
  have hsub : ∀ b ∈ wr, b ∈ S :: wr := fun b hb => List.mem_cons_of_mem _ hb
  have keepM : ∀ {i : Nat} {s s' : Shared}, Moved wr G s s' → J i s.heap → J i s'.heap := fun {i s s'} hm hJ =>
    g.keep i _ _ hJ (fun o e => hm.heap S o hSw e) fun b o e => hm.heap b o (fun hb => by rw [hw0 b hb] at e; cases e) (g.base i _ hJ b o e)
  intro k
  induction k with
  | zero =>
    intro i s hk' hi hst hJ hR
    have hin : i = n := by omega
    subst hin
    refine codeAny_builtin F.entry_set_update_loop ?_
    rw [Around.under_plainId F.plain_set_update_loop _]
    show wpAny _ A.in1 (pyNext (.ref I) >>= _) _ _ s
    refine wpAny_bind (W.done s _ _ hst fun s' hm => ?_)
    show wpAny _ A.in1 (ret Value.none) _ _ s'
    exact wpAny_pure (hR s' (hm.mono hsub) (keepM hm hJ))
  | succ k ih =>
    intro i s hk' hi hst hJ hR
    have hlt : i < n := by omega
    refine codeAny_builtin F.entry_set_update_loop ?_
    rw [Around.under_plainId F.plain_set_update_loop _]
    show wpAny _ A.in1 (pyNext (.ref I) >>= _) _ _ s
    refine wpAny_bind (W.item i s _ _ hlt hst fun v s' hP hst' hm => ?_)
    obtain rfl := hval i v hlt hP
    show wpAny _ A.in1 (holding [uf i] (setAdd S (uf i)) >>= _) _ _ s'
    refine wpAny_bind (wpAny_holding ?_)
    refine g.step A.in1 _ i s' _ hu hlt (keepM hm hJ) fun b h' tk htk hsb hJ' => ?_
    refine wpAny_pure ⟨plainId_quiet F.plain_set_update_loop _, ih (i + 1) _ (by omega) hlt (W.frame _ s' _ _ hst' htk fun b hb o e => ?_) hJ' fun s'' hm'' hJ'' => ?_⟩
    · rw [hsb.2 b (fun h : b = S => hSf (by rw [← h]; exact hb))]; exact e
    · refine hR s'' (Moved.trans W.gtrans ((hm.mono hsub).then_heap htk fun b o hb e => ?_) hm'') hJ''
      rw [hsb.2 b (fun h : b = S => hb (by rw [h]; exact List.mem_cons_self))]; exact e
abbrev newSet (w : World) : Obj := { cls := .type "set", dict := none, data := .set #[] 0 (.fresh 0 0 (!w.params.followText "set-order")) }
theorem call_set_gen {l : Addr} {items : Array Value} {J : Nat → Heap → Prop} {Q : Value → Shared → Prop} (hh : A.handled = none) (hl : s.heap.IsList l items) (hit : ∀ i v, items[i]? = some v → v = uf i)
    (g : Grows P w s.heap.objs.size s.heap items.size uf J) (h0 : ∀ h', h'.get? s.heap.objs.size = some (newSet w) → (∀ b o, s.heap.get? b = some o → h'.get? b = some o) → J 0 h') (hu : A.units + 13 < cLine)
    (h : ∀ (h' : Heap) (tk : Nat), J items.size h' → Q (.ref s.heap.objs.size) { s with heap := h', toks := tk }) :
    wpAny (model P w) A (call (.type "set") [.ref l]) Q E s := by
  obtain ⟨c, tl, hmro⟩ := F.called_set.mro
  have hmade := F.called_set.made
  have hsub := F.called_set.sub
  refine wpAny_call (codeAny_of_tree ?_)
  show wpAny _ _ (callAny (.type "set") _) _ _ _
  refine wpAny_pure ⟨Code.quiet_builtin _ (by decide +kernel), codeAny_builtin F.entry_type_call ?_⟩
  rw [Around.under_plain (weight_type_call_type "set" [.ref l] []) rfl]
  have h1 := F.called_set.notType
  have h2 := F.called_set.canCreate
  have hct := F.typeCall_set_1 (.ref l)
  repeat (any_goals (first | assumption | wp_step))
  refine codeAny_mono (code_set_led1 (.ref l) (E := E) (Q₁ := fun obj s₁ => obj = .ref s.heap.objs.size ∧ s₁ = { s with heap := s.heap.push (newSet w) }) ⟨rfl, rfl⟩) fun r s₁ hr => ?_
  cases r with
  | error e => exact hr
  | ok fl =>
    cases fl with
    | ret obj =>
      obtain ⟨rfl, rfl⟩ := hr
      have hS : (s.heap.push (newSet w)).get? s.heap.objs.size = some (newSet w) := Heap.get?_push_size _ rfl
      have hT : Shared.TypeIs { s with heap := s.heap.push (newSet w) } (.ref s.heap.objs.size) "set" := ⟨_, hS, rfl⟩
      have hli := F.called_set.init.lookup
      have hbi := F.called_set.init.bind (.ref s.heap.objs.size)
      repeat (any_goals (first | assumption | wp_step))
      refine codeAny_mono (codeAny_call_builtin (R := wants (fun r s₂ => r = .none ∧ ∃ h' tk, s₂ = { s with heap := h', toks := tk } ∧ J items.size h') E) F.called_set.init.plain F.entry_set_init (check_set_init_1 hT ?_)) fun r₂ s₂ hr₂ => ?_
      · obtain ⟨ol, hol, hcl, nl, hdl⟩ := hl
        obtain ⟨ocls, odict, odata, oslots⟩ := ol
        simp only at hcl hdl
        subst hcl; subst hdl
        have hol' : (s.heap.push (newSet w)).get? l = some { cls := .type "list", dict := odict, data := .seq items nl, slots := oslots } := Heap.get?_push_of_some _ hol
        have hsls := F.sub_list_set
        have hslf := F.sub_list_frozenset
        have hne : (Value.type "list" == Value.type "dict") = false := by decide
        have hl1 : (s.heap.push (newSet w)).IsList l items := ⟨_, hol', rfl, nl, rfl⟩
        unfold Builtin.«set.__init__» noKeywords Builtin.Frozenset.updateFrom
        generalize hPI : pyIter = PI
        wp_walk
        subst hPI
        refine wpAny_pyIter_list hl1 ?_
        refine wpAny_bind (wpAny_runValue ?_)
        have hlS : l < s.heap.objs.size := Heap.lt_size hol
        have hh3 : A.in1.in1.in1.handled = none := by simp [hh]
        have hneI : l ≠ (s.heap.push (newSet w)).objs.size := by
          rw [Heap.size_push]; exact Nat.ne_of_lt (Nat.lt_succ_of_lt hlS)
        have hSf : s.heap.objs.size ∉ [(s.heap.push (newSet w)).objs.size, l] := by
          rw [Heap.size_push]; simp only [List.mem_cons, List.mem_singleton, List.not_mem_nil, or_false, not_or]
          exact ⟨Nat.ne_of_lt (Nat.lt_succ_self _), Nat.ne_of_gt hlS⟩
        have none_of : ∀ b, s.heap.objs.size ≤ b → s.heap.get? b = none := fun b hb => by
          cases q : s.heap.get? b with
          | none => rfl
          | some o => exact absurd (Nat.lt_of_lt_of_le (Heap.lt_size q) hb) (Nat.lt_irrefl _)
        refine update_gen ((Walks.list hh3 _ l hneI items).toS) s.heap.objs.size
          hSf (fun i v _ hv => hit i v hv) s.heap g (none_of _ (Nat.le_refl _)) (fun b hb => none_of b (by
            rw [List.mem_singleton.mp hb, Heap.size_push]
            exact Nat.le_succ _)) (show A.units + 1 + 1 + 1 + 9 < cLine by omega) (items.size - 0) 0 _ (by omega) (Nat.zero_le _)
          ⟨⟨_, Heap.get?_push_size _ rfl, rfl, rfl⟩, (hl1.push _)⟩ (h0 _ (Heap.get?_push_of_some _ hS) fun b o e => Heap.get?_push_of_some _ (Heap.get?_push_of_some _ e)) ?hR
        case hR =>
          intro s' hm hJ
          obtain ⟨h', g2, d', tk', os'⟩ := s'
          have eg : g2 = s.gens := hm.gens
          have ed : d' = s.drawn := hm.drawn
          have eo : os' = s.os := hm.os
          subst eg; subst ed; subst eo
          show wpAny _ _ _ _ _ _
          refine wpAny_pure ?_
          show wpAny _ _ (ret Value.none) _ _ _
          exact wpAny_pure ⟨rfl, h', tk', rfl, hJ⟩
      · cases r₂ with
        | error e => exact hr₂
        | ok fl₂ =>
          cases fl₂ with
          | ret r =>
            obtain ⟨rfl, h', tk, rfl, hJ⟩ := hr₂
            repeat (any_goals (first | assumption | wp_step))
            exact h _ _ hJ
          | _ => exact hr₂.elim
    | _ => exact hr.elim
structure Had (kf : Nat → NestedKey) (i : Nat) (L : List Nat) : Prop where
  sub : ∀ j ∈ L, j < i
  all : ∀ j, j < i → kf j ∈ L.map kf
  len : L.length ≤ i
theorem Had.zero : Had kf 0 [] := ⟨fun j h => (by cases h), fun j h => absurd h (Nat.not_lt_zero _), Nat.le_refl _⟩
theorem Had.same {L : List Nat} {i : Nat} (g : Had kf i L) (hm : kf i ∈ L.map kf) : Had kf (i + 1) L :=
  ⟨fun j h => Nat.lt_succ_of_lt (g.sub j h), fun j h => (Nat.lt_succ_iff_lt_or_eq.mp h).elim (g.all j) fun e => by rw [e]; exact hm, Nat.le_succ_of_le g.len⟩
theorem Had.more {L L' : List Nat} {i : Nat} (g : Had kf i L) (pm : L'.Perm (i :: L)) : Had kf (i + 1) L' := by
  refine ⟨fun j h => ?_, fun j h => ?_, by rw [pm.length_eq, List.length_cons]; exact Nat.succ_le_succ g.len⟩
  · rcases List.mem_cons.mp (pm.mem_iff.mp h) with e | z
    · omega
    · exact Nat.lt_succ_of_lt (g.sub j z)
  · rw [(pm.map kf).mem_iff, List.map_cons]
    rcases Nat.lt_succ_iff_lt_or_eq.mp h with z | z
    · exact List.mem_cons_of_mem _ (g.all j z)
    · rw [z]; exact List.mem_cons_self
theorem Had.next {L L' : List Nat} {i : Nat} (g : Had kf i L) (c1 : kf i ∈ L.map kf → L' = L) (c2 : kf i ∉ L.map kf → L'.Perm (i :: L)) : Had kf (i + 1) L' := by
  rcases Classical.em (kf i ∈ L.map kf) with c | c
  · rw [c1 c]; exact g.same c
  · exact g.more (c2 c)
theorem setN_fresh {h : Heap} {a : Addr} (ho : h.get? a = some (newSet w)) : SetN (kf := kf) (uf := uf) w h a [] #[] 0 (.fresh 0 0 (!w.params.followText "set-order")) where
  ob := ⟨_, ho, ⟨rfl, rfl, rfl⟩, rfl⟩
  rows := rfl
  nd := List.nodup_nil
  fit := rfl
  ris := List.Pairwise.nil
  led := by
    show _ ∨ (!w.params.followText "set-order") = true
    cases w.params.followText "set-order"
    · exact .inr rfl
    · exact .inl rfl
  few := by show 0 < 64; decide
  tab := ⟨List.Pairwise.nil, rfl, rfl, .inl rfl, fun x hx => (by cases hx), fun i h j hi => (by simp at hi)⟩
  tup := fun p hp => (by cases hp)
  room := by show 0 * 5 < 7 * 3; decide
theorem SetG.keep {h h' : Heap} {a : Addr} {L : List Nat} {es : Array (Int × Value)} {ep : Nat} {t : SetTable} (R : SetG kf uf w h a L es ep t) (ha : ∀ o, h.get? a = some o → h'.get? a = some o) : SetG kf uf w h' a L es ep t := by
  obtain ⟨o, ho, r⟩ := R.ob
  exact ⟨⟨o, ha o ho, r⟩, R.rows, R.nd, R.fit, R.ris, R.led, R.few⟩
/-- sets of flat tuples -/
def JT (n : Nat) (kf : Nat → NestedKey) (uf : Nat → Value) (w : World) (S : Addr) (h0 : Heap) (i : Nat) (h : Heap) : Prop := i ≤ n ∧ (∀ b o, h0.get? b = some o → h.get? b = some o) ∧ ∃ L es ep t, SetN (kf := kf) (uf := uf) w h S L es ep t ∧ Had kf i L
theorem grows_T {S : Addr} {h0 : Heap} {n : Nat} (hk : ∀ i, i < n → KeyT h0 (kf i) (uf i)) (hS : h0.get? S = none) (hn : n < 64) : Grows P w S h0 n uf (JT n kf uf w S h0) where
  keep := fun i h h' ⟨hi, b0, L, es, ep, t, R, g⟩ k1 k2 =>
    ⟨hi, k2, L, es, ep, t, ⟨R.toSetG.keep k1, R.tab, fun j hj => (hk j (Nat.lt_of_lt_of_le (g.sub j hj) hi)).keep fun b o vs m e _ => k2 b o e, R.room⟩, g⟩
  base := fun i h ⟨_, b0, _⟩ => b0
  step := fun A E i s Q hu hi ⟨_, b0, L, es, ep, t, R, g⟩ hQ => by
    have hx : KeyT s.heap (kf i) (uf i) := (hk i hi).keep fun b o vs m e _ => b0 b o e
    unfold setAdd
    refine wpAny_holding ?_
    refine wpAny_bind (pyHash_key (kf i) (uf i) A s _ hx.is (by have := hx.dp; omega) ?_)
    refine addN (s := { s with toks := s.toks + (kf i).draws }) R i hx (by omega) (by have := g.len; omega) fun b h' L' es' ep' t' sb R' c1 c2 => ?_
    refine hQ b h' _ (Nat.le_add_right _ _) sb ⟨hi, fun b o e => (sb.2 b fun z => by rw [z, hS] at e; cases e).trans (b0 b o e), L', es', ep', t', R', g.next c1 c2⟩
/-- sets of texts -/
def JX (n : Nat) (kf : Nat → NestedKey) (uf : Nat → Value) (w : World) (S : Addr) (h0 : Heap) (i : Nat) (h : Heap) : Prop := i ≤ n ∧ (∀ b o, h0.get? b = some o → h.get? b = some o) ∧ ∃ L es ep t, SetG kf uf w h S L es ep t ∧ Had kf i L
theorem grows_X {S : Addr} {h0 : Heap} {n : Nat} (hT : TxtF n kf uf) (hS : h0.get? S = none) (hn : n < 64) : Grows P w S h0 n uf (JX n kf uf w S h0) where
  keep := fun i h h' ⟨hi, b0, L, es, ep, t, R, g⟩ k1 k2 => ⟨hi, k2, L, es, ep, t, R.keep k1, g⟩
  base := fun i h ⟨_, b0, _⟩ => b0
  step := fun A E i s Q hu hi ⟨hin, b0, L, es, ep, t, R, g⟩ hQ => by
    obtain ⟨x, tk, ek, eu⟩ := hT i hi
    unfold setAdd
    refine wpAny_holding ?_
    have hx : NestedIs s.heap (kf i) (uf i) := by rw [ek, eu]; exact .text x tk
    have hd : (kf i).depth = 0 := by rw [ek]; rfl
    refine wpAny_bind (pyHash_key (kf i) (uf i) A s _ hx (by omega) ?_)
    refine addT (s := { s with toks := s.toks + (kf i).draws }) hT (fun j hj => Nat.lt_of_lt_of_le (g.sub j hj) hin) R hi (by have := g.len; omega) fun b h' L' es' ep' t' sb R' c1 c2 => ?_
    refine hQ b h' _ (Nat.le_add_right _ _) sb ⟨hi, fun b o e => (sb.2 b fun z => by rw [z, hS] at e; cases e).trans (b0 b o e), L', es', ep', t', R', g.next c1 c2⟩
/-- set(xs), xs a list of flat tuples, or of texts -/
theorem call_setG {l : Addr} {items : Array Value} {Q : Value → Shared → Prop} (hh : A.handled = none) (hl : s.heap.IsList l items) (hit : ∀ i v, items[i]? = some v → v = uf i) (hn : items.size < 64)
    (hk : (∀ i, i < items.size → KeyT s.heap (kf i) (uf i)) ∨ TxtF items.size kf uf) (hu : A.units + 13 < cLine)
    (h : ∀ (h' : Heap) (tk : Nat) L es ep t, (∀ b o, s.heap.get? b = some o → h'.get? b = some o) → SetG kf uf w h' s.heap.objs.size L es ep t → Had kf items.size L → Q (.ref s.heap.objs.size) { s with heap := h', toks := tk }) :
    wpAny (model P w) A (call (.type "set") [.ref l]) Q E s := by
  have hS : s.heap.get? s.heap.objs.size = none := by
    cases q : s.heap.get? s.heap.objs.size with
    | none => rfl
    | some o => exact absurd (Heap.lt_size q) (Nat.lt_irrefl _)
  rcases hk with hk | hk
  · refine call_set_gen (J := JT items.size kf uf w s.heap.objs.size s.heap) hh hl hit (grows_T hk hS hn) (fun h' hg hb => ⟨Nat.zero_le _, hb, [], #[], 0, _, setN_fresh hg, Had.zero⟩) hu fun h' tk hJ => ?_
    obtain ⟨_, b0, L, es, ep, t, R, g⟩ := hJ
    exact h h' tk L es ep t b0 R.toSetG g
  · refine call_set_gen (J := JX items.size kf uf w s.heap.objs.size s.heap) hh hl hit (grows_X hk hS hn) (fun h' hg hb => ⟨Nat.zero_le _, hb, [], #[], 0, _, (setN_fresh hg).toSetG, Had.zero⟩) hu fun h' tk hJ => ?_
    obtain ⟨_, b0, L, es, ep, t, R, g⟩ := hJ
    exact h h' tk L es ep t b0 R g
end
end KnK
namespace Kn
open PySem L2

abbrev toS (s : Tx) : Str := ⟨s.toArray⟩
/-- a text that may stand -/
def Gd (s : Tx) : Prop := s.length ≤ sizeLine ∧ ∀ c ∈ s, c < 1114112
/-- what the relation leans on: the written part, the classes' addresses, the fields' names, the exceptions that are held -/
structure Rp where
  w : World
  K : PySem.W.Frag
  cl : Nat → Addr
  xc : Nat → Addr
  fd : Nat → Str
  xo : Nat → Addr → Prop
  fzn : Addr → Option HO
  fdInj : ∀ a b, fd a = fd b → a = b

section
variable (R : Rp)
mutual
def RV (as : List Addr) (H : Hp) : Val → V → Prop
  | .non, x => x = .non
  | .bl b, x => x = .bl b
  | .int i, x => x = .int i
  | .str s, x => x = .str (toS s) ∧ Gd s
  | .tup vs, x => ∃ a xs, x = .ref a ∧ SqT R.K H a xs ∧ RVs as H vs xs
  | .ref n, x => ∃ a, as[n]? = some a ∧ x = .ref a
  | .fn _, _ => False
  | .exc c, x => ∃ a, x = .ref a ∧ R.xo c a
def RVs (as : List Addr) (H : Hp) : List Val → List V → Prop
  | [], xs => xs = []
  | v :: r, xs => ∃ x t, xs = x :: t ∧ RV as H v x ∧ RVs as H r t
end
/-- tuples stay, and what is frozen -/
structure Kp (H H' : Hp) : Prop where
  t : ∀ a xs, SqT R.K H a xs → SqT R.K H' a xs
  z : ∀ a ob u, H a = some (.frz ob u) → H' a = some (.frz ob u)
end
/-- tuples stay -/
def Kt (R : Rp) (H H' : Hp) : Prop := ∀ a xs, SqT R.K H a xs → SqT R.K H' a xs
theorem Kp.refl {R : Rp} {H : Hp} : Kp R H H := ⟨fun _ _ h => h, fun _ _ _ h => h⟩
theorem Kp.trans {R : Rp} {H H1 H2 : Hp} (a : Kp R H H1) (b : Kp R H1 H2) : Kp R H H2 := ⟨fun x xs h => b.t x xs (a.t x xs h), fun x ob u h => b.z x ob u (a.z x ob u h)⟩
theorem Kp.new {R : Rp} {H : Hp} {p : Addr} {o : HO} (h : H p = none) : Kp R H (upd H p o) := ⟨fun a xs q => by
  rcases q with (q | ⟨ob, q⟩) | q
  · exact .inl (.inl (by rw [upd_ne (ne_of_none q h)]; exact q))
  · exact .inl (.inr ⟨ob, by rw [upd_ne (ne_of_none q h)]; exact q⟩)
  · exact .inr q, fun a ob u q => by rw [upd_ne (ne_of_none q h)]; exact q⟩
/-- what is written is no tuple, and not frozen -/
def Wr : HO → Prop
  | .tup _ => False
  | .frz _ _ => False
  | _ => True
theorem Kp.write {R : Rp} {H : Hp} {p : Addr} {o o' : HO} (h : H p = some o) (w : Wr o) : Kp R H (upd H p o') := ⟨fun a xs q => by
  rcases q with (q | ⟨ob, q⟩) | q
  · by_cases e : a = p
    · subst e; rw [h] at q; cases q; exact w.elim
    · exact .inl (.inl (by rw [upd_ne e]; exact q))
  · by_cases e : a = p
    · subst e; rw [h] at q; cases q; exact w.elim
    · exact .inl (.inr ⟨ob, by rw [upd_ne e]; exact q⟩)
  · exact .inr q, fun a ob u q => by
    by_cases e : a = p
    · subst e; rw [h] at q; cases q; exact w.elim
    · rw [upd_ne e]; exact q⟩
/-- more objects -/
def PfxA (as as' : List Addr) : Prop := ∀ (n : Nat) (a : Addr), as[n]? = some a → as'[n]? = some a
theorem PfxA.refl {as : List Addr} : PfxA as as := fun _ _ h => h
theorem PfxA.trans {a b c : List Addr} (x : PfxA a b) (y : PfxA b c) : PfxA a c := fun n p h => y n p (x n p h)
theorem PfxA.snoc {as : List Addr} {p : Addr} : PfxA as (as ++ [p]) := fun n a h => by
  rw [List.getElem?_append_left (List.getElem?_eq_some_iff.mp h).1]; exact h
mutual
theorem RV.monoT {R : Rp} {as as' : List Addr} {H H' : Hp} (p : PfxA as as') (k : Kt R H H') : ∀ (v : Val) (x : V), RV R as H v x → RV R as' H' v x
  | .non, _, h => h
  | .bl _, _, h => h
  | .int _, _, h => h
  | .str _, _, h => h
  | .tup vs, x, h => by
    unfold RV at h ⊢
    obtain ⟨a, xs, e, s, r⟩ := h
    exact ⟨a, xs, e, k _ _ s, RVs.monoT p k vs xs r⟩
  | .ref n, x, h => by
    unfold RV at h ⊢
    obtain ⟨a, e, q⟩ := h
    exact ⟨a, p _ _ e, q⟩
  | .fn _, _, h => h
  | .exc _, _, h => h
theorem RVs.monoT {R : Rp} {as as' : List Addr} {H H' : Hp} (p : PfxA as as') (k : Kt R H H') : ∀ (vs : List Val) (xs : List V), RVs R as H vs xs → RVs R as' H' vs xs
  | [], _, h => h
  | v :: r, xs, h => by
    unfold RVs at h ⊢
    obtain ⟨x, t, e, h1, h2⟩ := h
    exact ⟨x, t, e, RV.monoT p k v x h1, RVs.monoT p k r t h2⟩
end
theorem RV.mono {R : Rp} {as as' : List Addr} {H H' : Hp} (p : PfxA as as') (k : Kp R H H') (v : Val) (x : V) (h : RV R as H v x) : RV R as' H' v x := RV.monoT p k.t v x h
theorem RVs.mono {R : Rp} {as as' : List Addr} {H H' : Hp} (p : PfxA as as') (k : Kp R H H') (v : List Val) (x : List V) (h : RVs R as H v x) : RVs R as' H' v x := RVs.monoT p k.t v x h
theorem RVs.len {R : Rp} {as : List Addr} {H : Hp} : ∀ {vs : List Val} {xs : List V}, RVs R as H vs xs → vs.length = xs.length
  | [], _, h => by unfold RVs at h; subst h; rfl
  | v :: r, _, h => by
    unfold RVs at h
    obtain ⟨x, t, rfl, _, h2⟩ := h
    simp [RVs.len h2]
theorem RVs.get {R : Rp} {as : List Addr} {H : Hp} : ∀ {vs : List Val} {xs : List V} {i : Nat} {v : Val}, RVs R as H vs xs → vs[i]? = some v → ∃ x, xs[i]? = some x ∧ RV R as H v x
  | [], _, _, _, _, e => by simp at e
  | w :: r, _, 0, v, h, e => by
    unfold RVs at h
    obtain ⟨x, t, rfl, h1, _⟩ := h
    simp at e; subst e; exact ⟨x, rfl, h1⟩
  | w :: r, _, i + 1, v, h, e => by
    unfold RVs at h
    obtain ⟨x, t, rfl, _, h2⟩ := h
    obtain ⟨y, e1, e2⟩ := RVs.get (i := i) h2 (by simpa using e)
    exact ⟨y, by simpa using e1, e2⟩
theorem RVs.append {R : Rp} {as : List Addr} {H : Hp} : ∀ {vs ws : List Val} {xs ys : List V}, RVs R as H vs xs → RVs R as H ws ys → RVs R as H (vs ++ ws) (xs ++ ys)
  | [], _, _, _, h, q => by unfold RVs at h; subst h; exact q
  | v :: r, ws, _, ys, h, q => by
    unfold RVs at h
    obtain ⟨x, t, rfl, h1, h2⟩ := h
    show RVs R as H (v :: (r ++ ws)) (x :: (t ++ ys))
    unfold RVs
    exact ⟨x, t ++ ys, rfl, h1, RVs.append h2 q⟩
theorem RVs.nil {R : Rp} {as : List Addr} {H : Hp} : RVs R as H [] [] := by unfold RVs; rfl
theorem RVs.cons {R : Rp} {as : List Addr} {H : Hp} {v : Val} {x : V} {vs : List Val} {xs : List V} (h : RV R as H v x) (r : RVs R as H vs xs) : RVs R as H (v :: vs) (x :: xs) := by
  unfold RVs; exact ⟨x, xs, rfl, h, r⟩
theorem RVs.one {R : Rp} {as : List Addr} {H : Hp} {v : Val} {x : V} (h : RV R as H v x) : RVs R as H [v] [x] := RVs.cons h RVs.nil
theorem RVs.take {R : Rp} {as : List Addr} {H : Hp} : ∀ (n : Nat) {vs : List Val} {xs : List V}, RVs R as H vs xs → RVs R as H (vs.take n) (xs.take n)
  | 0, _, _, _ => by simp [RVs.nil]
  | n + 1, [], _, h => by unfold RVs at h; subst h; simp [RVs.nil]
  | n + 1, v :: r, _, h => by
    unfold RVs at h
    obtain ⟨x, t, rfl, h1, h2⟩ := h
    simp only [List.take_succ_cons]
    exact RVs.cons h1 (RVs.take n h2)
theorem RVs.drop {R : Rp} {as : List Addr} {H : Hp} : ∀ (n : Nat) {vs : List Val} {xs : List V}, RVs R as H vs xs → RVs R as H (vs.drop n) (xs.drop n)
  | 0, _, _, h => by simpa using h
  | n + 1, [], _, h => by unfold RVs at h; subst h; simp [RVs.nil]
  | n + 1, v :: r, _, h => by
    unfold RVs at h
    obtain ⟨x, t, rfl, h1, h2⟩ := h
    simp only [List.drop_succ_cons]
    exact RVs.drop n h2
theorem RVs.reverse {R : Rp} {as : List Addr} {H : Hp} : ∀ {vs : List Val} {xs : List V}, RVs R as H vs xs → RVs R as H vs.reverse xs.reverse
  | [], _, h => by unfold RVs at h; subst h; simpa using RVs.nil
  | v :: r, _, h => by
    unfold RVs at h
    obtain ⟨x, t, rfl, h1, h2⟩ := h
    simp only [List.reverse_cons]
    exact RVs.append (RVs.reverse h2) (RVs.one h1)
theorem RVs.set {R : Rp} {as : List Addr} {H : Hp} {v : Val} {x : V} (hv : RV R as H v x) : ∀ (n : Nat) {vs : List Val} {xs : List V}, RVs R as H vs xs → RVs R as H (vs.set n v) (xs.set n x)
  | _, [], _, h => by unfold RVs at h; subst h; simpa using RVs.nil
  | 0, w :: r, _, h => by
    unfold RVs at h
    obtain ⟨y, t, rfl, h1, h2⟩ := h
    exact RVs.cons hv h2
  | n + 1, w :: r, _, h => by
    unfold RVs at h
    obtain ⟨y, t, rfl, h1, h2⟩ := h
    exact RVs.cons h1 (RVs.set hv n h2)
theorem RVs.eraseIdx {R : Rp} {as : List Addr} {H : Hp} : ∀ (n : Nat) {vs : List Val} {xs : List V}, RVs R as H vs xs → RVs R as H (vs.eraseIdx n) (xs.eraseIdx n)
  | _, [], _, h => by unfold RVs at h; subst h; simpa using RVs.nil
  | 0, w :: r, _, h => by
    unfold RVs at h
    obtain ⟨y, t, rfl, h1, h2⟩ := h
    simpa using h2
  | n + 1, w :: r, _, h => by
    unfold RVs at h
    obtain ⟨y, t, rfl, h1, h2⟩ := h
    simpa using RVs.cons h1 (RVs.eraseIdx n h2)
theorem RVs.rep {R : Rp} {as : List Addr} {H : Hp} {vs : List Val} {xs : List V} (h : RVs R as H vs xs) : ∀ n, RVs R as H (rep vs n) (List.replicate n xs).flatten
  | 0 => RVs.nil
  | n + 1 => by
    rw [List.replicate_succ, List.flatten_cons]
    exact RVs.append h (RVs.rep h n)

mutual
def nk : Val → NestedKey
  | .int i => .num i
  | .str s => .text (toS s)
  | .tup vs => .tup (nks vs)
  | _ => .none
def nks : List Val → List NestedKey
  | [] => []
  | v :: r => nk v :: nks r
end
/-- a dict by its entries: the key, where it stands, the value -/
def RKv (R : Rp) (as : List Addr) (H : Hp) : List (Val × Val) → List (NestedKey × V × V) → Prop
  | [], l => l = []
  | (k, v) :: r, l => ∃ q x t, l = (nk k, q, x) :: t ∧ isKey k = true ∧ RV R as H k q ∧ RV R as H v x ∧ RKv R as H r t
def DXr (w : World) (q : NestedKey × V × V) (e : DictEntry) : Prop := e.hash = q.1.hash w ∧ RelV q.2.1 e.key ∧ RelV q.2.2 e.val
def DX (w : World) (a : Addr) (l : List (NestedKey × V × V)) : HO := .ext fun h => (a == sysModules) = false ∧ l.length ≤ sizeLine ∧ ∃ o es ep, h.get? a = some o ∧ o.ExactDict ∧ o.data = .dict es ep ∧ Paired (DXr w) l es.toList
def RF (R : Rp) (as : List Addr) (H : Hp) : List (Nat × Val) → List (Str × V) → Prop
  | [], l => l = []
  | (f, v) :: r, l => ∃ x t, l = (R.fd f, x) :: t ∧ RV R as H v x ∧ RF R as H r t
def RO (R : Rp) (as : List Addr) (H : Hp) (a : Addr) : Obj → HO → Prop
  | .list vs, u => ∃ xs, u = .lst xs ∧ RVs R as H vs xs
  | .dict kvs, u => ∃ l, u = DX R.w a l ∧ RKv R as H kvs l ∧ (l.map (·.1)).Nodup
  | .inst c fs, u => ∃ dx gs, u = .ins (R.cl c) dx gs ∧ RF R as H fs gs
  | .frz o, u => ∃ ob u', u = .frz ob u' ∧ RO R as H a o u'
  | .lck vs, u => ∃ xs, u = .lst xs ∧ RVs R as H vs xs
theorem RKv.monoT {R : Rp} {as as' : List Addr} {H H' : Hp} (p : PfxA as as') (k : Kt R H H') : ∀ (vs : List (Val × Val)) (xs : List (NestedKey × V × V)), RKv R as H vs xs → RKv R as' H' vs xs
  | [], _, h => h
  | (a, b) :: r, xs, h => by
    obtain ⟨q, x, t, e, h0, h1, h2, h3⟩ := h
    exact ⟨q, x, t, e, h0, RV.monoT p k _ _ h1, RV.monoT p k _ _ h2, RKv.monoT p k r t h3⟩
theorem RKv.mono {R : Rp} {as as' : List Addr} {H H' : Hp} (p : PfxA as as') (k : Kp R H H') (vs : List (Val × Val)) (xs : List (NestedKey × V × V)) (h : RKv R as H vs xs) : RKv R as' H' vs xs := RKv.monoT p k.t vs xs h
theorem RF.monoT {R : Rp} {as as' : List Addr} {H H' : Hp} (p : PfxA as as') (k : Kt R H H') : ∀ {fs : List (Nat × Val)} {gs : List (Str × V)}, RF R as H fs gs → RF R as' H' fs gs
  | [], _, h => h
  | (f, v) :: r, _, h => by
    obtain ⟨x, t, e, h1, h2⟩ := h
    exact ⟨x, t, e, RV.monoT p k _ _ h1, RF.monoT p k h2⟩
theorem RF.mono {R : Rp} {as as' : List Addr} {H H' : Hp} (p : PfxA as as') (k : Kp R H H') {fs : List (Nat × Val)} {gs : List (Str × V)} (h : RF R as H fs gs) : RF R as' H' fs gs := RF.monoT p k.t h
theorem RF.get {R : Rp} {as : List Addr} {H : Hp} {f : Nat} {v : Val} : ∀ {fs : List (Nat × Val)} {gs : List (Str × V)}, RF R as H fs gs → alist fs f = some v → ∃ x, gs.lookup (R.fd f) = some x ∧ RV R as H v x
  | [], _, h, e => by simp [alist] at e
  | (g, w) :: r, _, h, e => by
    obtain ⟨x, t, rfl, h1, h2⟩ := h
    unfold alist at e
    by_cases hg : g = f
    · subst hg
      rw [if_pos (by simp)] at e
      cases e
      exact ⟨x, by rw [List.lookup_cons, show (R.fd g == R.fd g) = true from beq_self_eq_true _], h1⟩
    · rw [if_neg (by simpa using hg)] at e
      obtain ⟨y, e1, e2⟩ := RF.get h2 e
      refine ⟨y, ?_, e2⟩
      rw [List.lookup_cons, show (R.fd f == R.fd g) = false from beq_eq_false_iff_ne.mpr fun z => hg (R.fdInj _ _ z).symm]
      exact e1
theorem RF.none {R : Rp} {as : List Addr} {H : Hp} {m : Str} (hm : ∀ f, R.fd f ≠ m) : ∀ {fs : List (Nat × Val)} {gs : List (Str × V)}, RF R as H fs gs → gs.lookup m = none
  | [], _, h => by unfold RF at h; subst h; rfl
  | (g, w) :: r, _, h => by
    obtain ⟨x, t, rfl, h1, h2⟩ := h
    rw [List.lookup_cons, show (m == R.fd g) = false from beq_eq_false_iff_ne.mpr fun z => hm g z.symm]
    exact RF.none hm h2
theorem RF.len {R : Rp} {as : List Addr} {H : Hp} : ∀ {fs : List (Nat × Val)} {gs : List (Str × V)}, RF R as H fs gs → fs.length = gs.length
  | [], _, h => by unfold RF at h; subst h; rfl
  | (g, w) :: r, _, h => by
    obtain ⟨x, t, rfl, h1, h2⟩ := h
    simp [RF.len h2]
theorem RF.put {R : Rp} {as : List Addr} {H : Hp} {f : Nat} {v : Val} {y : V} (hv : RV R as H v y) : ∀ {fs : List (Nat × Val)} {gs : List (Str × V)}, RF R as H fs gs → RF R as H (alistPut fs f v) (putF (R.fd f) y gs)
  | [], _, h => by unfold RF at h; subst h; exact ⟨y, [], rfl, hv, rfl⟩
  | (g, w) :: r, _, h => by
    obtain ⟨x, t, rfl, h1, h2⟩ := h
    unfold alistPut putF
    by_cases hg : g = f
    · subst hg
      rw [if_pos (by simp), if_pos rfl]
      exact ⟨y, t, rfl, hv, h2⟩
    · rw [if_neg (by simpa using hg), if_neg fun z => hg (R.fdInj _ _ z)]
      exact ⟨x, _, rfl, h1, RF.put hv h2⟩
theorem RO.monoT {R : Rp} {as as' : List Addr} {H H' : Hp} {a : Addr} (p : PfxA as as') (k : Kt R H H') : ∀ (o : Obj) (u : HO), RO R as H a o u → RO R as' H' a o u
  | .list vs, u, h => let ⟨xs, e, r⟩ := h; ⟨xs, e, RVs.monoT p k _ _ r⟩
  | .dict kvs, u, h => let ⟨l, e, r, n⟩ := h; ⟨l, e, RKv.monoT p k _ _ r, n⟩
  | .inst c fs, u, h => let ⟨dx, gs, e, r⟩ := h; ⟨dx, gs, e, RF.monoT p k r⟩
  | .frz o, u, h => let ⟨ob, u', e, r⟩ := h; ⟨ob, u', e, RO.monoT p k o u' r⟩
  | .lck vs, u, h => let ⟨xs, e, r⟩ := h; ⟨xs, e, RVs.monoT p k _ _ r⟩
theorem RO.mono {R : Rp} {as as' : List Addr} {H H' : Hp} {a : Addr} (p : PfxA as as') (k : Kp R H H') (o : Obj) (u : HO) (h : RO R as H a o u) : RO R as' H' a o u := RO.monoT p k.t o u h
/-- the heap -/
structure RH (R : Rp) (as : List Addr) (hs : Hs) (H : Hp) : Prop where
  len : as.length = hs.length
  nd : as.Nodup
  fz : ∀ a u, R.fzn a = some u → H a = some u
  nf : ∀ a ∈ as, R.fzn a = none
  obj : ∀ (n : Nat) (o : Obj), hs[n]? = some o → ∃ a u, as[n]? = some a ∧ H a = some u ∧ RO R as H a o u
/-- the slots -/
structure RS (R : Rp) (as : List Addr) (s : St) (hs : Hs) (σ : L2.St) (H : Hp) : Prop where
  h : RH R as hs H
  len : s.length = σ.length
  val : ∀ (i : Nat) (v : Val), s[i]? = some (some v) → ∃ x, σ[i]? = some (some x) ∧ RV R as H v x
theorem RS.to {R : Rp} {as as' : List Addr} {s : St} {hs hs' : Hs} {σ : L2.St} {H H' : Hp} (r : RS R as s hs σ H) (p : PfxA as as') (k : Kp R H H') (h : RH R as' hs' H') : RS R as' s hs' σ H' :=
  ⟨h, r.len, fun i v e => let ⟨x, e1, e2⟩ := r.val i v e; ⟨x, e1, RV.mono p k _ _ e2⟩⟩
theorem RS.set {R : Rp} {as : List Addr} {s : St} {hs : Hs} {σ : L2.St} {H : Hp} (r : RS R as s hs σ H) {v : Val} {x : V} (h : RV R as H v x) (i : Nat) : RS R as (s.set i (some v)) hs (σ.set i (some x)) H := by
  refine ⟨r.h, by simp [r.len], fun j w e => ?_⟩
  by_cases hij : i = j
  · subst hij
    by_cases hl : i < s.length
    · rw [List.getElem?_set_self hl] at e
      cases e
      exact ⟨x, by rw [List.getElem?_set_self (by rw [← r.len]; exact hl)], h⟩
    · rw [List.getElem?_eq_none (by simpa using hl)] at e; cases e
  · rw [List.getElem?_set_ne hij] at e ⊢
    exact r.val j w e
/-- a new object -/
theorem RH.new {R : Rp} {as : List Addr} {hs : Hs} {H : Hp} (r : RH R as hs H) {p : Addr} {o : Obj} {u : HO} (np : H p = none) (q : RO R (as ++ [p]) (upd H p u) p o u) :
    RH R (as ++ [p]) (hs ++ [o]) (upd H p u) := by
  have hn : p ∉ as := fun hm => by
    obtain ⟨n, hn, e⟩ := List.getElem_of_mem hm
    have h1 : n < hs.length := by rw [← r.len]; exact hn
    obtain ⟨a, u, e1, e2, _⟩ := r.obj n hs[n] (by simp [h1])
    rw [List.getElem?_eq_getElem hn, e] at e1
    cases e1
    rw [np] at e2; cases e2
  refine ⟨by simp [r.len], ?_, fun a u e => by rw [upd_ne (ne_of_none (r.fz a u e) np)]; exact r.fz a u e, fun a ha => ?_, fun n ob e => ?_⟩
  rotate_left
  · rcases List.mem_append.mp ha with z | z
    · exact r.nf a z
    · obtain rfl : a = p := by simpa using z
      cases q : R.fzn a with
      | none => rfl
      | some u => rw [r.fz a u q] at np; cases np
  rotate_right
  · rw [List.nodup_append]
    refine ⟨r.nd, by simp, fun a ha b hb => ?_⟩
    simp at hb; subst hb
    exact fun z => hn (z ▸ ha)
  · by_cases hl : n < hs.length
    · rw [List.getElem?_append_left hl] at e
      obtain ⟨a, u', e1, e2, e3⟩ := r.obj n ob e
      refine ⟨a, u', PfxA.snoc n a e1, ?_, RO.mono PfxA.snoc (Kp.new np) _ _ e3⟩
      rw [upd_ne (ne_of_none e2 np)]; exact e2
    · have hn : n = hs.length := by
        have := (List.getElem?_eq_some_iff.mp e).1
        simp at this; omega
      subst hn
      simp at e
      subst e
      exact ⟨p, u, by rw [← r.len]; simp, upd_same, q⟩
/-- an object is written -/
theorem RH.writeT {R : Rp} {as : List Addr} {hs : Hs} {H : Hp} (r : RH R as hs H) {n : Nat} {a : Addr} {o o' : Obj} {u u' : HO} (ho : hs[n]? = some o) (ha : as[n]? = some a) (hu : H a = some u) (kt : Kt R H (upd H a u')) (q : RO R as (upd H a u') a o' u') :
    RH R as (hs.set n o') (upd H a u') := by
  refine ⟨by simp [r.len], r.nd, fun b v e => ?_, r.nf, fun m ob e => ?_⟩
  · have hne : b ≠ a := fun z => by
      subst z
      rw [r.nf b (List.mem_of_getElem? ha)] at e; cases e
    rw [upd_ne hne]; exact r.fz b v e
  by_cases hm : n = m
  · subst hm
    rw [List.getElem?_set_self (List.getElem?_eq_some_iff.mp ho).1] at e
    cases e
    exact ⟨a, u', ha, upd_same, q⟩
  · rw [List.getElem?_set_ne hm] at e
    obtain ⟨b, v, e1, e2, e3⟩ := r.obj m ob e
    have hne : b ≠ a := fun z => by
      subst z
      have i1 := (List.getElem?_eq_some_iff.mp ha)
      have i2 := (List.getElem?_eq_some_iff.mp e1)
      exact hm ((List.getElem?_inj i1.1 r.nd).mp (ha.trans e1.symm))
    refine ⟨b, v, e1, by rw [upd_ne hne]; exact e2, RO.monoT PfxA.refl kt _ _ e3⟩
theorem RH.write {R : Rp} {as : List Addr} {hs : Hs} {H : Hp} (r : RH R as hs H) {n : Nat} {a : Addr} {o o' : Obj} {u u' : HO} (ho : hs[n]? = some o) (ha : as[n]? = some a) (hu : H a = some u) (w : Wr u) (q : RO R as (upd H a u') a o' u') :
    RH R as (hs.set n o') (upd H a u') := r.writeT ho ha hu (Kp.write hu w).t q
end Kn
namespace Kn
open PySem L2
def Rp.wf (R : Rp) (fz : Addr → Option HO) : Rp := { R with fzn := fz }
section
variable {R : Rp}
mutual
theorem RV.re0 {R2 : Rp} (hK : R.K = R2.K) (hx : ∀ k a, R.xo k a → R2.xo k a) {as : List Addr} {H : Hp} : ∀ (v : Val) (x : V), RV R as H v x → RV R2 as H v x
  | .non, _, h => h
  | .bl _, _, h => h
  | .int _, _, h => h
  | .str _, _, h => h
  | .tup vs, x, h => by
    unfold RV at h ⊢
    obtain ⟨a, xs, e, s, r⟩ := h
    exact ⟨a, xs, e, by rw [← hK]; exact s, RVs.re0 hK hx vs xs r⟩
  | .ref n, x, h => h
  | .fn _, _, h => h
  | .exc c, x, h => by
    unfold RV at h ⊢
    obtain ⟨a, e, q⟩ := h
    exact ⟨a, e, hx c a q⟩
theorem RVs.re0 {R2 : Rp} (hK : R.K = R2.K) (hx : ∀ k a, R.xo k a → R2.xo k a) {as : List Addr} {H : Hp} : ∀ (vs : List Val) (xs : List V), RVs R as H vs xs → RVs R2 as H vs xs
  | [], _, h => h
  | v :: r, xs, h => by
    unfold RVs at h ⊢
    obtain ⟨x, t, e, h1, h2⟩ := h
    exact ⟨x, t, e, RV.re0 hK hx v x h1, RVs.re0 hK hx r t h2⟩
end
theorem RV.wf {fz : Addr → Option HO} {as : List Addr} {H : Hp} {v : Val} {x : V} (h : RV R as H v x) : RV (R.wf fz) as H v x := RV.re0 (R := R) (R2 := R.wf fz) rfl (fun _ _ h => h) v x h
theorem RV.uf {fz : Addr → Option HO} {as : List Addr} {H : Hp} {v : Val} {x : V} (h : RV (R.wf fz) as H v x) : RV R as H v x := RV.re0 (R := R.wf fz) (R2 := R) rfl (fun _ _ h => h) v x h
theorem RVs.wf {fz : Addr → Option HO} {as : List Addr} {H : Hp} {v : List Val} {x : List V} (h : RVs R as H v x) : RVs (R.wf fz) as H v x := RVs.re0 (R := R) (R2 := R.wf fz) rfl (fun _ _ h => h) v x h
theorem RVs.uf {fz : Addr → Option HO} {as : List Addr} {H : Hp} {v : List Val} {x : List V} (h : RVs (R.wf fz) as H v x) : RVs R as H v x := RVs.re0 (R := R.wf fz) (R2 := R) rfl (fun _ _ h => h) v x h
/-- places renamed -/
def Rn (p : Nat → Nat) (as as' : List Addr) (l : List Nat) : Prop := ∀ n ∈ l, ∀ a, as[n]? = some a → as'[p n]? = some a
mutual
theorem RV.ren {p : Nat → Nat} {as as' : List Addr} {H : Hp} : ∀ (v : Val) (x : V), Rn p as as' (refsV v) → RV R as H v x → RV R as' H (mapR p v) x
  | .non, _, _, h => h
  | .bl _, _, _, h => h
  | .int _, _, _, h => h
  | .str _, _, _, h => h
  | .tup vs, x, q, h => by
    unfold mapR
    unfold RV at h ⊢
    unfold refsV at q
    obtain ⟨a, xs, e, s, r⟩ := h
    exact ⟨a, xs, e, s, RVs.ren vs xs q r⟩
  | .ref n, x, q, h => by
    unfold mapR
    unfold RV at h ⊢
    obtain ⟨a, e, z⟩ := h
    exact ⟨a, q n (by unfold refsV; simp) a e, z⟩
  | .fn _, _, _, h => h
  | .exc _, _, _, h => by unfold mapR; unfold RV at h ⊢; exact h
theorem RVs.ren {p : Nat → Nat} {as as' : List Addr} {H : Hp} : ∀ (vs : List Val) (xs : List V), Rn p as as' (refsVs vs) → RVs R as H vs xs → RVs R as' H (mapRs p vs) xs
  | [], _, _, h => h
  | v :: r, xs, q, h => by
    unfold mapRs
    unfold RVs at h ⊢
    unfold refsVs at q
    obtain ⟨x, t, e, h1, h2⟩ := h
    exact ⟨x, t, e, RV.ren v x (fun n hn => q n (List.mem_append_left _ hn)) h1, RVs.ren r t (fun n hn => q n (List.mem_append_right _ hn)) h2⟩
end
mutual
theorem key_refs : ∀ (n : Nat) (v : Val), isKeyD n v = true → refsV v = []
  | _, .non, _ => rfl
  | _, .bl _, _ => rfl
  | _, .int _, _ => rfl
  | _, .str _, _ => rfl
  | 0, .tup vs, h => by simp [isKeyD] at h
  | n + 1, .tup vs, h => by unfold isKeyD at h; unfold refsV; exact keys_refs n vs h
  | 0, .ref _, h => by simp [isKeyD] at h
  | n + 1, .ref _, h => by simp [isKeyD] at h
  | _, .fn _, _ => rfl
  | _, .exc _, _ => rfl
theorem keys_refs : ∀ (n : Nat) (vs : List Val), vs.all (isKeyD n) = true → refsVs vs = []
  | n, [], _ => rfl
  | n, v :: r, h => by
    rw [List.all_cons, Bool.and_eq_true] at h
    unfold refsVs
    rw [key_refs n v h.1, keys_refs n r h.2]
    rfl
end
theorem RV.free {as as' : List Addr} {H : Hp} {v : Val} {x : V} (e : refsV v = []) (h : RV R as H v x) : RV R as' H v x := by
  have := RV.ren (p := id) (as' := as') v x (by rw [e]; intro n hn; cases hn) h
  rwa [mapR_id v (by rw [e]; intro n hn; cases hn)] at this
theorem RVs.free {as as' : List Addr} {H : Hp} {v : List Val} {x : List V} (e : refsVs v = []) (h : RVs R as H v x) : RVs R as' H v x := by
  have := RVs.ren (p := id) (as' := as') v x (by rw [e]; intro n hn; cases hn) h
  rwa [mapRs_id v (by rw [e]; intro n hn; cases hn)] at this
theorem RKv.ren {p : Nat → Nat} {as as' : List Addr} {H : Hp} : ∀ (kvs : List (Val × Val)) (l : List (NestedKey × V × V)), Rn p as as' (refsVs (kvs.map (·.2))) → RKv R as H kvs l → RKv R as' H (kvs.map fun q => (q.1, mapR p q.2)) l
  | [], _, _, h => h
  | (k, v) :: r, l, q, h => by
    obtain ⟨z, x, t, e, h0, h1, h2, h3⟩ := h
    simp only [List.map_cons, refsVs] at q ⊢
    exact ⟨z, x, t, e, h0, RV.free (key_refs _ _ h0) h1, RV.ren v x (fun n hn => q n (List.mem_append_left _ hn)) h2, RKv.ren r t (fun n hn => q n (List.mem_append_right _ hn)) h3⟩
theorem RF.ren {p : Nat → Nat} {as as' : List Addr} {H : Hp} : ∀ (fs : List (Nat × Val)) (l : List (Str × V)), Rn p as as' (refsVs (fs.map (·.2))) → RF R as H fs l → RF R as' H (fs.map fun q => (q.1, mapR p q.2)) l
  | [], _, _, h => h
  | (k, v) :: r, l, q, h => by
    obtain ⟨x, t, e, h1, h2⟩ := h
    simp only [List.map_cons, refsVs] at q ⊢
    exact ⟨x, t, e, RV.ren v x (fun n hn => q n (List.mem_append_left _ hn)) h1, RF.ren r t (fun n hn => q n (List.mem_append_right _ hn)) h2⟩
theorem RO.ren {p : Nat → Nat} {as as' : List Addr} {H : Hp} {a : Addr} : ∀ (o : Kn.Obj) (u : HO), Rn p as as' (refsO o) → RO R as H a o u → RO R as' H a (mapRO p o) u
  | .list vs, u, q, h => let ⟨xs, e, r⟩ := h; ⟨xs, e, RVs.ren vs xs q r⟩
  | .dict kvs, u, q, h => let ⟨l, e, r, n⟩ := h; ⟨l, e, RKv.ren kvs l q r, n⟩
  | .inst c fs, u, q, h => let ⟨dx, gs, e, r⟩ := h; ⟨dx, gs, e, RF.ren fs gs q r⟩
  | .frz o, u, q, h => let ⟨ob, u', e, r⟩ := h; ⟨ob, u', e, RO.ren o u' q r⟩
  | .lck vs, u, q, h => let ⟨xs, e, r⟩ := h; ⟨xs, e, RVs.ren vs xs q r⟩
theorem RKv.re {R2 : Rp} (hK : R.K = R2.K) (hx : ∀ k a, R.xo k a → R2.xo k a) {as : List Addr} {H : Hp} : ∀ {kvs : List (Val × Val)} {l : List (NestedKey × V × V)}, RKv R as H kvs l → RKv R2 as H kvs l
  | [], _, h => h
  | (k, v) :: r, l, h => by
    obtain ⟨z, x, t, e, h0, h1, h2, h3⟩ := h
    exact ⟨z, x, t, e, h0, RV.re0 hK hx _ _ h1, RV.re0 hK hx _ _ h2, RKv.re hK hx h3⟩
theorem RF.re {R2 : Rp} (hK : R.K = R2.K) (hf : R.fd = R2.fd) (hx : ∀ k a, R.xo k a → R2.xo k a) {as : List Addr} {H : Hp} : ∀ {fs : List (Nat × Val)} {l : List (Str × V)}, RF R as H fs l → RF R2 as H fs l
  | [], _, h => h
  | (k, v) :: r, l, h => by
    obtain ⟨x, t, e, h1, h2⟩ := h
    exact ⟨x, t, by rw [← hf]; exact e, RV.re0 hK hx _ _ h1, RF.re hK hf hx h2⟩
theorem RO.wf {fz : Addr → Option HO} {as : List Addr} {H : Hp} {a : Addr} : ∀ {o : Kn.Obj} {u : HO}, RO R as H a o u → RO (R.wf fz) as H a o u
  | .list vs, u, h => let ⟨xs, e, r⟩ := h; ⟨xs, e, RVs.wf r⟩
  | .dict kvs, u, h => let ⟨l, e, r, n⟩ := h; ⟨l, e, RKv.re (R := R) (R2 := R.wf fz) rfl (fun _ _ h => h) r, n⟩
  | .inst c fs, u, h => let ⟨dx, gs, e, r⟩ := h; ⟨dx, gs, e, RF.re (R := R) (R2 := R.wf fz) rfl rfl (fun _ _ h => h) r⟩
  | .frz o, u, h => let ⟨ob, u', e, r⟩ := h; ⟨ob, u', e, RO.wf r⟩
  | .lck vs, u, h => let ⟨xs, e, r⟩ := h; ⟨xs, e, RVs.wf r⟩
theorem RO.uf {fz : Addr → Option HO} {as : List Addr} {H : Hp} {a : Addr} : ∀ {o : Kn.Obj} {u : HO}, RO (R.wf fz) as H a o u → RO R as H a o u
  | .list vs, u, h => let ⟨xs, e, r⟩ := h; ⟨xs, e, RVs.uf r⟩
  | .dict kvs, u, h => let ⟨l, e, r, n⟩ := h; ⟨l, e, RKv.re (R := R.wf fz) (R2 := R) rfl (fun _ _ h => h) r, n⟩
  | .inst c fs, u, h => let ⟨dx, gs, e, r⟩ := h; ⟨dx, gs, e, RF.re (R := R.wf fz) (R2 := R) rfl rfl (fun _ _ h => h) r⟩
  | .frz o, u, h => let ⟨ob, u', e, r⟩ := h; ⟨ob, u', e, RO.uf r⟩
  | .lck vs, u, h => let ⟨xs, e, r⟩ := h; ⟨xs, e, RVs.uf r⟩
def asub (as : List Addr) (ns : List Nat) : List Addr := ns.map fun n => (as[n]?).getD 0
def fzAll (as' : List Addr) (H : Hp) : Addr → Option HO := fun a => if a ∈ as' then none else H a
theorem asub_at {as : List Addr} {ns : List Nat} {i n : Nat} {a : Addr} (e : ns[i]? = some n) (ea : as[n]? = some a) : (asub as ns)[i]? = some a := by
  unfold asub
  rw [List.getElem?_map, e, Option.map_some, ea]
  rfl
theorem RH.at {as : List Addr} {hs : Hs} {H : Hp} (r : RH R as hs H) {n : Nat} {o : Kn.Obj} (e : hs[n]? = some o) : ∃ a, as[n]? = some a := let ⟨a, _, h, _⟩ := r.obj n o e; ⟨a, h⟩
theorem asub_of {as : List Addr} {hs : Hs} {H : Hp} {ns rs : List Nat} (r : RH R as hs H) (c : Closed hs ns rs) {i : Nat} {a : Addr} (e : (asub as ns)[i]? = some a) : ∃ n, ns[i]? = some n ∧ as[n]? = some a := by
  unfold asub at e
  rw [List.getElem?_map] at e
  cases en : ns[i]? with
  | none => rw [en] at e; cases e
  | some n =>
    rw [en, Option.map_some] at e
    obtain ⟨o, eo, _⟩ := c.ob n (List.mem_of_getElem? en)
    obtain ⟨b, eb⟩ := r.at eo
    rw [eb] at e
    cases e
    exact ⟨n, rfl, eb⟩
theorem asub_nd {as : List Addr} {hs : Hs} {H : Hp} {ns rs : List Nat} (r : RH R as hs H) (c : Closed hs ns rs) : (asub as ns).Nodup := by
  refine List.pairwise_iff_getElem.mpr fun i j hi hj hij e0 => ?_
  have ea : (asub as ns)[j]? = some (asub as ns)[j] := List.getElem?_eq_getElem hj
  have e : (asub as ns)[i]? = some (asub as ns)[j] := by rw [List.getElem?_eq_getElem hi, e0]
  generalize (asub as ns)[j] = a at ea e
  obtain ⟨n, h1, h2⟩ := asub_of r c e
  obtain ⟨m, h3, h4⟩ := asub_of r c ea
  have : n = m := (List.getElem?_inj (List.getElem?_eq_some_iff.mp h2).1 r.nd).mp (h2.trans h4.symm)
  subst this
  have := (List.getElem?_inj (List.getElem?_eq_some_iff.mp h1).1 c.nd).mp (h1.trans h3.symm)
  omega
theorem sub_ren {as : List Addr} {hs : Hs} {H : Hp} {ns rs : List Nat} (r : RH R as hs H) (c : Closed hs ns rs) {l : List Nat} (hl : ∀ n ∈ l, n ∈ ns) : Rn (fun n => idxN n ns 0) as (asub as ns) l := fun n hn a e => asub_at (idxN_at (hl n hn)) e
theorem RH.sub {as : List Addr} {hs : Hs} {H : Hp} {ns rs : List Nat} (r : RH R as hs H) (c : Closed hs ns rs) : RH (R.wf (fzAll (asub as ns) H)) (asub as ns) (subOf hs ns) H := by
  refine ⟨by rw [subOf_len]; unfold asub; rw [List.length_map], asub_nd r c, fun a u e => ?_, fun a ha => ?_, fun i o e => ?_⟩
  · have e : fzAll (asub as ns) H a = some u := e
    unfold fzAll at e
    split at e
    · cases e
    · exact e
  · show fzAll (asub as ns) H a = none
    unfold fzAll
    rw [if_pos ha]
  · have hi : i < ns.length := by rw [← subOf_len (h := hs)]; exact (List.getElem?_eq_some_iff.mp e).1
    have en : ns[i]? = some ns[i] := List.getElem?_eq_getElem hi
    generalize ns[i] = n at en
    obtain ⟨o', eo, hr⟩ := c.ob n (List.mem_of_getElem? en)
    rw [subOf_at en eo] at e
    cases e
    obtain ⟨a, u, e1, e2, e3⟩ := r.obj n o' eo
    exact ⟨a, u, asub_at en e1, e2, (RO.ren o' u (sub_ren r c hr) e3).wf⟩
theorem back_ok {as as1 : List Addr} {hs h1 : Hs} {H H1 : Hp} {ns rs0 : List Nat} (r : RH R as hs H) (c : Closed hs ns rs0) (r1 : RH (R.wf (fzAll (asub as ns) H)) as1 h1 H1) (p : PfxA (asub as ns) as1) (k : Kp R H H1) (rs : List Nat) :
    ∃ as2, PfxA as as2 ∧ RH R as2 (putBack hs ns rs h1) H1 ∧ ∀ v x, (∀ n ∈ refsV v, n ∈ rs) → RV R as1 H1 v x → RV R as2 H1 (mapR (backN ns hs.length) v) x := by
  have hm : (asub as ns).length = ns.length := by unfold asub; rw [List.length_map]
  have keep : ∀ a u, a ∉ asub as ns → H a = some u → H1 a = some u := fun a u ha e => r1.fz a u (by show fzAll (asub as ns) H a = some u; unfold fzAll; rw [if_neg ha]; exact e)
  have le : ns.length ≤ as1.length := by
    rcases Nat.lt_or_ge as1.length ns.length with z | z
    · have e : (asub as ns)[as1.length]? = some (asub as ns)[as1.length] := List.getElem?_eq_getElem (by omega)
      have := (List.getElem?_eq_some_iff.mp (p _ _ e)).1
      omega
    · exact z
  have old : ∀ j n, ns[j]? = some n → ∃ a, as[n]? = some a ∧ as1[j]? = some a := fun j n e => by
    obtain ⟨o, eo, _⟩ := c.ob n (List.mem_of_getElem? e)
    obtain ⟨a, ea⟩ := r.at eo
    exact ⟨a, ea, p _ _ (asub_at e ea)⟩
  -- those behind are new
  have fresh : ∀ j a, ns.length ≤ j → as1[j]? = some a → a ∉ asub as ns ∧ H a = none := fun j a hj e => by
    have h1 : a ∉ asub as ns := fun hm' => by
      obtain ⟨i, hi⟩ := List.getElem?_of_mem hm'
      have hil : i < ns.length := by rw [← hm]; exact (List.getElem?_eq_some_iff.mp hi).1
      have e2 := p _ _ hi
      have := (List.getElem?_inj (List.getElem?_eq_some_iff.mp e2).1 r1.nd).mp (e2.trans e.symm)
      omega
    refine ⟨h1, ?_⟩
    have := r1.nf a (List.mem_of_getElem? e)
    have this : fzAll (asub as ns) H a = none := this
    unfold fzAll at this
    rwa [if_neg h1] at this
  have nas : ∀ a, H a = none → a ∉ as := fun a e ha => by
    obtain ⟨n, hn⟩ := List.getElem?_of_mem ha
    have hl : n < hs.length := by rw [← r.len]; exact (List.getElem?_eq_some_iff.mp hn).1
    obtain ⟨b, u, e1, e2, _⟩ := r.obj n hs[n] (List.getElem?_eq_getElem hl)
    rw [hn] at e1; cases e1
    rw [e] at e2; cases e2
  have ownas : ∀ n a, as[n]? = some a → n ∉ ns → a ∉ asub as ns := fun n a e hn hm' => by
    obtain ⟨i, hi⟩ := List.getElem?_of_mem hm'
    obtain ⟨m, h3, h4⟩ := asub_of r c hi
    have : n = m := (List.getElem?_inj (List.getElem?_eq_some_iff.mp e).1 r.nd).mp (e.trans h4.symm)
    subst this
    exact hn (List.mem_of_getElem? h3)
  have fz : ∀ a u, R.fzn a = some u → H1 a = some u := fun a u e => by
    refine keep a u (fun ha => ?_) (r.fz a u e)
    obtain ⟨i, hi⟩ := List.getElem?_of_mem ha
    obtain ⟨m, h3, h4⟩ := asub_of r c hi
    rw [r.nf a (List.mem_of_getElem? h4)] at e; cases e
  -- the old objects, written back, seen by as2
  have core : ∀ (as2 : List Addr) (l : List Nat), PfxA as as2 → Rn (backN ns hs.length) as1 as2 l → (∀ o ∈ h1.take ns.length, ∀ m ∈ refsO o, m ∈ l) →
      ∀ (n : Nat) (o : Kn.Obj), (wb hs ns ((h1.take ns.length).map (mapRO (backN ns hs.length))))[n]? = some o → ∃ a u, as2[n]? = some a ∧ H1 a = some u ∧ RO R as2 H1 a o u := fun as2 l p2 rn hl n o e => by
    by_cases hn : n ∈ ns
    · obtain ⟨i, hi⟩ := List.getElem?_of_mem hn
      have hil : i < ns.length := (List.getElem?_eq_some_iff.mp hi).1
      have hih : i < h1.length := by rw [← r1.len]; omega
      have e1 : h1[i]? = some h1[i] := List.getElem?_eq_getElem hih
      generalize hoi : h1[i] = oi at e1
      obtain ⟨on, eon, _⟩ := c.ob n hn
      have ew := wb_at (h := hs) (l := (h1.take ns.length).map (mapRO (backN ns hs.length))) c.nd hi (by rw [List.getElem?_map, List.getElem?_take, if_pos hil, e1]; rfl) (List.getElem?_eq_some_iff.mp eon).1
      rw [ew] at e
      cases e
      obtain ⟨a, u, q1, q2, q3⟩ := r1.obj i oi e1
      obtain ⟨b, z1, z2⟩ := old i n hi
      rw [z2] at q1; cases q1
      have mem : oi ∈ h1.take ns.length := List.mem_of_getElem? (i := i) (by rw [List.getElem?_take, if_pos hil, e1])
      exact ⟨a, u, p2 _ _ z1, q2, RO.ren oi u (fun m hm => rn m (hl oi mem m hm)) q3.uf⟩
    · rw [wb_ne hn] at e
      obtain ⟨a, u, q1, q2, q3⟩ := r.obj n o e
      exact ⟨a, u, p2 _ _ q1, keep a u (ownas n a q1 hn) q2, RO.mono p2 k o u q3⟩
  unfold putBack
  split
  · rename_i hb
    rw [Bool.and_eq_true] at hb
    have bl : ∀ {l : List Nat}, below ns.length l = true → ∀ n ∈ l, n < ns.length := fun h n hn => by
      unfold below at h
      exact Nat.lt_of_succ_le (Nat.le_of_ble_eq_true (List.all_eq_true.mp h n hn))
    have rn : ∀ l : List Nat, (∀ n ∈ l, n < ns.length) → Rn (backN ns hs.length) as1 as l := fun l hl n hn a e => by
      have en : ns[n]? = some (ns[n]'(hl n hn)) := List.getElem?_eq_getElem (hl n hn)
      obtain ⟨b, z1, z2⟩ := old n _ en
      rw [z2] at e; cases e
      unfold backN
      rw [en]
      exact z1
    refine ⟨as, PfxA.refl, ⟨by rw [wb_len]; exact r.len, r.nd, fz, r.nf, ?_⟩, fun v x hv h => RV.ren v x (rn _ fun n hn => bl hb.1 n (hv n hn)) h⟩
    refine core as (List.range ns.length) PfxA.refl (rn _ fun n hn => List.mem_range.mp hn) fun o ho m hm => List.mem_range.mpr (bl (List.all_eq_true.mp hb.2 o ho) m hm)
  · have rn : ∀ l, Rn (backN ns hs.length) as1 (as ++ as1.drop ns.length) l := fun l n hn a e => by
      unfold backN
      cases en : ns[n]? with
      | some m =>
        obtain ⟨b, z1, z2⟩ := old n m en
        rw [z2] at e; cases e
        simp only
        rw [List.getElem?_append_left (List.getElem?_eq_some_iff.mp z1).1]
        exact z1
      | none =>
        have hn : ns.length ≤ n := List.getElem?_eq_none_iff.mp en
        simp only
        rw [List.getElem?_append_right (by rw [r.len]; omega), List.getElem?_drop, r.len]
        rw [show ns.length + (hs.length + (n - ns.length) - hs.length) = n by omega]
        exact e
    have p2 : PfxA as (as ++ as1.drop ns.length) := fun n a e => by rw [List.getElem?_append_left (List.getElem?_eq_some_iff.mp e).1]; exact e
    refine ⟨as ++ as1.drop ns.length, p2, ⟨?_, ?_, fz, fun a ha => ?_, fun n o e => ?_⟩, fun v x hv h => RV.ren v x (rn _) h⟩
    · rw [List.length_append, List.length_append, List.length_map, wb_len, List.length_drop, List.length_drop, r.len, r1.len]
    · rw [List.nodup_append]
      refine ⟨r.nd, r1.nd.drop, fun a ha b hb z => ?_⟩
      subst z
      obtain ⟨j, hj⟩ := List.getElem?_of_mem hb
      rw [List.getElem?_drop] at hj
      exact nas a (fresh _ a (by omega) hj).2 ha
    · rcases List.mem_append.mp ha with z | z
      · exact r.nf a z
      · obtain ⟨j, hj⟩ := List.getElem?_of_mem z
        rw [List.getElem?_drop] at hj
        have := (fresh _ a (by omega) hj).2
        cases ef : R.fzn a with
        | none => rfl
        | some u => rw [r.fz a u ef] at this; cases this
    · by_cases hl : n < hs.length
      · rw [List.getElem?_append_left (by rw [wb_len]; exact hl)] at e
        exact core _ ((h1.take ns.length).flatMap refsO) p2 (rn _) (fun o ho m hm => List.mem_flatMap.mpr ⟨o, ho, hm⟩) n o e
      · rw [List.getElem?_append_right (by rw [wb_len]; omega), wb_len, List.getElem?_map, List.getElem?_drop] at e
        cases e1 : h1[ns.length + (n - hs.length)]? with
        | none => rw [e1] at e; cases e
        | some oi =>
          rw [e1, Option.map_some] at e
          cases e
          obtain ⟨a, u, q1, q2, q3⟩ := r1.obj _ oi e1
          refine ⟨a, u, ?_, q2, RO.ren oi u (rn _) q3.uf⟩
          rw [List.getElem?_append_right (by rw [r.len]; omega), List.getElem?_drop, r.len]
          exact q1
end
end Kn
namespace Kn
open PySem L2

def WpE (X : Cx) (e : Expr) (σ : L2.St) (H : Hp) (Q : VK) : Prop := ∀ (pins : List (Addr × PySem.Obj)) (s : Shared), Inv X pins σ H s → wpAny (model X.prog X.w) X.A (eval e X.env) (EP X pins σ Q) X.xe s
def WpT (X : Cx) (e : Expr) (σ : L2.St) (H : Hp) (Q : Bool → Hp → Prop) : Prop := ∀ (pins : List (Addr × PySem.Obj)) (s : Shared), Inv X pins σ H s → wpAny (model X.prog X.w) X.A (isTrue e X.env (eval e X.env)) (TP X pins σ Q) X.xe s
def WpW (X : Cx) (e : Expr) (σ : L2.St) (H : Hp) (Q : Bool → Hp → Prop) : Prop := ∀ (whole : Sem Value) (pins : List (Addr × PySem.Obj)) (s : Shared), Inv X pins σ H s → wpAny (model X.prog X.w) X.A (isTrue e X.env whole) (TP X pins σ Q) X.xe s
def WpA (X : Cx) (es : List Expr) (σ : L2.St) (H : Hp) (Q : List V → Hp → Prop) : Prop := ∀ (pos : Pos) (pins : List (Addr × PySem.Obj)) (s : Shared), Inv X pins σ H s → wpAny (model X.prog X.w) X.A (spliced (backTo pos (starEach es X.env))) (AP X pins σ Q) X.xe s
def WpS (X : Cx) (st : Stmt) (D : Ends) (σ : L2.St) (H : Hp) : Prop := ∀ (pins : List (Addr × PySem.Obj)) (s : Shared), Inv X pins σ H s → wpAny (model X.prog X.w) X.A (exec st X.env) (SP X pins D) X.xe s
def WpSs (X : Cx) (st : List Stmt) (D : Ends) (σ : L2.St) (H : Hp) : Prop := ∀ (pins : List (Addr × PySem.Obj)) (s : Shared), Inv X pins σ H s → wpAny (model X.prog X.w) X.A (execs st X.env) (SP X pins D) X.xe s
theorem WpE.pe (X : Cx) (e : Expr) : PE X e (WpE X e) := ⟨fun pins s _ _ _ I h => h pins s I⟩
theorem WpT.pt (X : Cx) (e : Expr) : PT X e (WpT X e) := ⟨fun pins s _ _ _ I h => h pins s I⟩
theorem WpW.pw (X : Cx) (e : Expr) : PW X e (WpW X e) := ⟨fun w pins s _ _ _ I h => h w pins s I⟩
theorem WpA.pa (X : Cx) (es : List Expr) : PA X es (WpA X es) := ⟨fun pos pins s _ _ _ I h => h pos pins s I⟩
theorem WpS.ps (X : Cx) (st : Stmt) : PS X st (WpS X st) := ⟨fun pins s _ _ _ I h => h pins s I⟩
theorem WpSs.pss (X : Cx) (st : List Stmt) : PSs X st (WpSs X st) := ⟨fun pins s _ _ _ I h => h pins s I⟩
section
variable {X : Cx} {e : Expr} {σ : L2.St} {H : Hp}
theorem WpE.of {t : TE} {Q : VK} (h : PE X e t) (q : t σ H Q) : WpE X e σ H Q := fun pins s I => h.run pins s σ H Q I q
theorem WpT.of {t : TT} {Q : Bool → Hp → Prop} (h : PT X e t) (q : t σ H Q) : WpT X e σ H Q := fun pins s I => h.run pins s σ H Q I q
theorem WpW.of {t : TT} {Q : Bool → Hp → Prop} (h : PW X e t) (q : t σ H Q) : WpW X e σ H Q := fun w pins s I => h.run w pins s σ H Q I q
theorem WpW.t {Q : Bool → Hp → Prop} (h : WpW X e σ H Q) : WpT X e σ H Q := fun pins s I => h _ pins s I
theorem WpA.of {es : List Expr} {t : TA} {Q : List V → Hp → Prop} (h : PA X es t) (q : t σ H Q) : WpA X es σ H Q := fun pos pins s I => h.run pos pins s σ H Q I q
theorem WpS.of {st : Stmt} {t : TS} {D : Ends} (h : PS X st t) (q : t D σ H) : WpS X st D σ H := fun pins s I => h.run pins s σ H D I q
theorem WpSs.of {st : List Stmt} {t : TS} {D : Ends} (h : PSs X st t) (q : t D σ H) : WpSs X st D σ H := fun pins s I => h.run pins s σ H D I q
end

/-- the end of a piece of the evaluator, as it is wished in the layer -/
def Pst (R : Rp) (W : WX) (s : St) (σ : L2.St) (k : α → Hs → List Addr → Hp → Prop) (as : List Addr) (H : Hp) : Out α → Prop
  | .ok a hs => ∀ as' H', PfxA as as' → Kp R H H' → RS R as' s hs σ H' → k a hs as' H'
  | .ex c hs => ∀ as' H', PfxA as as' → Kp R H H' → RS R as' s hs σ H' → W (.ref (R.xc c)) none σ H'
  | .no => False
section
variable {R : Rp} {W : WX} {s : St} {σ : L2.St} {as as' : List Addr} {H H' : Hp} {α β : Type}
theorem Pst.from {k : α → Hs → List Addr → Hp → Prop} (p : PfxA as as') (q : Kp R H H') : ∀ {x : Out α}, Pst R W s σ k as H x → Pst R W s σ k as' H' x
  | .ok _ _, h => fun a b c d e => h a b (p.trans c) (q.trans d) e
  | .ex _ _, h => fun a b c d e => h a b (p.trans c) (q.trans d) e
  | .no, h => h
theorem Pst.bind {k : β → Hs → List Addr → Hp → Prop} {f : α → Hs → Out β} : ∀ {x : Out α}, Pst R W s σ k as H (x.bind f) → Pst R W s σ (fun a hs as' H' => Pst R W s σ k as' H' (f a hs)) as H x
  | .ok a hs, h => fun as1 H1 p q _ => Pst.from p q h
  | .ex _ _, h => h
  | .no, h => h
theorem Pst.imp {k k' : α → Hs → List Addr → Hp → Prop} : ∀ {x : Out α}, Pst R W s σ k as H x → (∀ a hs as' H', PfxA as as' → Kp R H H' → RS R as' s hs σ H' → k a hs as' H' → k' a hs as' H') → Pst R W s σ k' as H x
  | .ok a hs, h, f => fun as1 H1 p q r => f a hs as1 H1 p q r (h as1 H1 p q r)
  | .ex _ _, h, _ => h
  | .no, h, _ => h
theorem Pst.opt {k : α → Hs → List Addr → Hp → Prop} {hs : Hs} {o : Option α} (h : Pst R W s σ k as H (opt hs o)) : ∃ a, o = some a ∧ Pst R W s σ k as H (.ok a hs) := by
  cases o with
  | none => exact h.elim
  | some a => exact ⟨a, rfl, h⟩
end
/-- what follows a value -/
abbrev KV1 (R : Rp) (Q : VK) : Val → Hs → List Addr → Hp → Prop := fun v _ as H => ∀ x, RV R as H v x → Q x H
abbrev KVs (R : Rp) (Q : List V → Hp → Prop) : List Val → Hs → List Addr → Hp → Prop := fun vs _ as H => ∀ xs, RVs R as H vs xs → Q xs H
abbrev KB (Q : Bool → Hp → Prop) : Val → Hs → List Addr → Hp → Prop := fun v _ _ H => ∃ b, v = .bl b ∧ Q b H
/-- the value v, nothing new -/
theorem Pst.here {R : Rp} {W : WX} {s : St} {σ : L2.St} {as : List Addr} {H : Hp} {hs : Hs} {Q : VK} {v : Val} {x : V} (h : Pst R W s σ (KV1 R Q) as H (.ok v hs)) (r : RS R as s hs σ H) (q : RV R as H v x) : Q x H :=
  h as H PfxA.refl Kp.refl r x q
/-- a new tuple -/
theorem Pst.tup {R : Rp} {W : WX} {s : St} {σ : L2.St} {as : List Addr} {H : Hp} {hs : Hs} {Q : VK} {vs : List Val} {xs : List V} {p : Addr} (h : Pst R W s σ (KV1 R Q) as H (.ok (.tup vs) hs)) (r : RS R as s hs σ H) (q : RVs R as H vs xs) (np : H p = none) :
    Q (.ref p) (upd H p (.tup xs)) := by
  have k : Kp R H (upd H p (.tup xs)) := Kp.new np
  have rh : RH R as hs (upd H p (.tup xs)) := ⟨r.h.len, r.h.nd, fun a u e => by rw [upd_ne (ne_of_none (r.h.fz a u e) np)]; exact r.h.fz a u e, r.h.nf, fun n o e => by
    obtain ⟨a, u, e1, e2, e3⟩ := r.h.obj n o e
    exact ⟨a, u, e1, by rw [upd_ne (ne_of_none e2 np)]; exact e2, RO.mono PfxA.refl k _ _ e3⟩⟩
  refine h as _ PfxA.refl k (r.to PfxA.refl k rh) _ ?_
  unfold RV
  exact ⟨p, xs, rfl, SqT.of upd_same, RVs.mono PfxA.refl k _ _ q⟩
/-- a new object -/
theorem Pst.new {R : Rp} {W : WX} {s : St} {σ : L2.St} {as : List Addr} {H : Hp} {hs : Hs} {Q : VK} {o : Obj} {u : HO} {p : Addr} (h : Pst R W s σ (KV1 R Q) as H (new hs o)) (r : RS R as s hs σ H) (np : H p = none) (q : RO R as H p o u) :
    Q (.ref p) (upd H p u) := by
  have k : Kp R H (upd H p u) := Kp.new np
  refine h (as ++ [p]) _ PfxA.snoc k (r.to PfxA.snoc k (r.h.new np (RO.mono PfxA.snoc k _ _ q))) _ ?_
  unfold RV
  exact ⟨p, by rw [← r.h.len]; simp, rfl⟩
/-- an object is written -/
theorem RS.write {R : Rp} {as : List Addr} {s : St} {hs : Hs} {σ : L2.St} {H : Hp} (r : RS R as s hs σ H) {n : Nat} {a : Addr} {o o' : Obj} {u u' : HO} (ho : hs[n]? = some o) (ha : as[n]? = some a) (hu : H a = some u) (w : Wr u) (q : RO R as H a o' u') :
    Kp R H (upd H a u') ∧ RS R as s (hs.set n o') σ (upd H a u') := by
  have k : Kp R H (upd H a u') := Kp.write hu w
  exact ⟨k, r.to PfxA.refl k (r.h.write ho ha hu w (RO.mono PfxA.refl k _ _ q))⟩
theorem RH.list {R : Rp} {as : List Addr} {hs : Hs} {H : Hp} (r : RH R as hs H) {n : Nat} {vs : List Val} (e : hs[n]? = some (.list vs)) : ∃ a xs, as[n]? = some a ∧ H a = some (.lst xs) ∧ RVs R as H vs xs := by
  obtain ⟨a, u, e1, e2, xs, rfl, e3⟩ := r.obj n _ e
  exact ⟨a, xs, e1, e2, e3⟩
theorem RH.listAt {R : Rp} {as : List Addr} {hs : Hs} {H : Hp} (r : RH R as hs H) {n : Nat} {vs : List Val} (e : listAt hs n = some vs) : ∃ a xs, as[n]? = some a ∧ SqL R.K H a xs ∧ RVs R as H vs xs := by
  unfold Kn.listAt at e
  split at e
  · cases e
    rename_i e
    obtain ⟨a, xs, e1, e2, e3⟩ := r.list e
    exact ⟨a, xs, e1, .inl (.inl e2), e3⟩
  · cases e
    rename_i e
    obtain ⟨a, u, e1, e2, ob, u', rfl, xs, rfl, e3⟩ := r.obj n _ e
    exact ⟨a, xs, e1, .inl (.inr ⟨ob, e2⟩), e3⟩
  · cases e
    rename_i e
    obtain ⟨a, u, e1, e2, xs, rfl, e3⟩ := r.obj n _ e
    exact ⟨a, xs, e1, .inl (.inl e2), e3⟩
  · cases e
theorem RH.inst {R : Rp} {as : List Addr} {hs : Hs} {H : Hp} (r : RH R as hs H) {n c : Nat} {fs : List (Nat × Val)} (e : hs[n]? = some (.inst c fs)) : ∃ a dx gs, as[n]? = some a ∧ H a = some (.ins (R.cl c) dx gs) ∧ RF R as H fs gs := by
  obtain ⟨a, u, e1, e2, dx, gs, rfl, e3⟩ := r.obj n _ e
  exact ⟨a, dx, gs, e1, e2, e3⟩

def WOp (X : Cx) (f : Value → Value → Sem Value) (x y : V) (H : Hp) (Q : VK) : Prop := ∀ (pins : List (Addr × PySem.Obj)) (s : Shared) (σ : L2.St) (v u : Value), Inv X pins σ H s → RelV x v → RelV y u → wpAny (model X.prog X.w) X.A (f v u) (EP X pins σ Q) X.xe s
theorem WOp.r (X : Cx) (f : Value → Value → Sem Value) : OpR X f (WOp X f) := fun pins s σ H x y v u Q I rx ry h => h pins s σ v u I rx ry
theorem WOp.of {X : Cx} {f : Value → Value → Sem Value} {r : R2} {x y : V} {H : Hp} {Q : VK} (h : OpR X f r) (q : r x y H Q) : WOp X f x y H Q := fun pins s σ v u I rx ry => h pins s σ H x y v u Q I rx ry q
def opT : Op → Operator
  | .add => .Add | .sub => .Sub | .mul => .Mult | .mod => .Mod | .fdiv => .FloorDiv | .pow => .Pow
theorem Gd.append {s t : Tx} (a : Gd s) (b : Gd t) (h : s.length + t.length ≤ sizeLine) : Gd (s ++ t) := ⟨by simpa using h, fun c hc => by
  rcases List.mem_append.mp hc with hc | hc
  · exact a.2 c hc
  · exact b.2 c hc⟩
theorem small_le {n : Nat} (h : small n = true) : n ≤ sizeLine := by
  rw [sizeLine_eq]; exact Nat.le_of_ble_eq_true h
theorem toS_len (s : Tx) : (toS s).length = s.length := by simp [toS, Str.length]
theorem toS_append (s t : Tx) : toS s ++ toS t = toS (s ++ t) := by
  show Str.mk (s.toArray ++ t.toArray) = _
  simp [toS]
theorem inI_lt {i : Int} {n : Nat} (h : inI i n = true) : i.natAbs < n := Nat.lt_of_lt_of_le (Nat.lt_of_succ_le (Nat.le_of_ble_eq_true h)) (Nat.le_refl _)
theorem inI_mul {i : Int} (h : inI i 18446744073709551616 = true) : -(2 ^ 64) < i ∧ i < 2 ^ 64 := by
  have := inI_lt h
  omega
theorem rep_len {α : Type} (xs : List α) : ∀ n, (rep xs n).length = xs.length * n
  | 0 => rfl
  | n + 1 => by unfold rep; rw [List.length_append, rep_len xs n, Nat.mul_succ]; omega
section
variable {X : Cx} {R : Rp} {W : WX} {s : St} {σ : L2.St} {as : List Addr} {H : Hp} {hs : Hs} {Q : VK} {a b : Val} {x y : V}
theorem add_ok (hK : X.K = R.K) (r : RS R as s hs σ H) (ra : RV R as H a x) (rb : RV R as H b y) (h : Pst R W s σ (KV1 R Q) as H (binV .add a b hs)) : WOp X (binaryOp .Add) x y H Q := by
  unfold binV at h
  simp only at h
  split at h
  · unfold RV at ra rb; subst ra rb
    exact WOp.of op_add ⟨_, _, rfl, rfl, h.here r (by unfold RV; rfl)⟩
  · unfold RV at ra rb
    obtain ⟨rfl, g1⟩ := ra
    obtain ⟨rfl, g2⟩ := rb
    split at h
    · rename_i hz
      have hz := small_le hz
      refine WOp.of op_add_str ⟨_, _, rfl, rfl, by rw [toS_len, toS_len]; exact hz, ?_⟩
      rw [toS_append]
      exact h.here r (by unfold RV; exact ⟨rfl, g1.append g2 hz⟩)
    · exact h.elim
  · unfold RV at ra rb
    obtain ⟨p, xs, rfl, s1, q1⟩ := ra
    obtain ⟨p', ys, rfl, s2, q2⟩ := rb
    split at h
    · rename_i hz
      have hz := small_le hz
      rw [q1.len, q2.len] at hz
      refine WOp.of op_catA ⟨p, p', xs, ys, rfl, rfl, by rw [hK]; exact s1, by rw [hK]; exact s2, hz, fun e => ?_, fun e1 e2 => ?_, fun e1 e2 q nq => ?_⟩
      · subst e
        have := q1.append q2
        exact h.here r (by unfold RV; exact ⟨p', ys, rfl, s2, by simpa using this⟩)
      · subst e2
        have := q1.append q2
        exact h.here r (by unfold RV; exact ⟨p, xs, rfl, s1, by simpa using this⟩)
      · exact h.tup r (q1.append q2) nq
    · exact h.elim
  · unfold RV at ra rb
    obtain ⟨p, e1, rfl⟩ := ra
    obtain ⟨p', e2, rfl⟩ := rb
    split at h
    · rename_i l1 l2
      obtain ⟨c, xs, f1, f2, f3⟩ := r.h.list l1
      obtain ⟨d, ys, g1, g2, g3⟩ := r.h.list l2
      rw [e1] at f1; cases f1
      rw [e2] at g1; cases g1
      split at h
      · rename_i hz
        have hz := small_le hz
        rw [f3.len, g3.len] at hz
        exact WOp.of op_cat ⟨p, p', xs, ys, rfl, rfl, f2, g2, hz, fun q nq => h.new r nq ⟨_, rfl, f3.append g3⟩⟩
      · exact h.elim
    · exact h.elim
  · exact h.elim
theorem sub_ok (r : RS R as s hs σ H) (ra : RV R as H a x) (rb : RV R as H b y) (h : Pst R W s σ (KV1 R Q) as H (binV .sub a b hs)) : WOp X (binaryOp .Sub) x y H Q := by
  unfold binV at h
  simp only at h
  split at h
  · unfold RV at ra rb; subst ra rb
    exact WOp.of op_sub ⟨_, _, rfl, rfl, h.here r (by unfold RV; rfl)⟩
  · exact h.elim
theorem mod_ok (r : RS R as s hs σ H) (ra : RV R as H a x) (rb : RV R as H b y) (h : Pst R W s σ (KV1 R Q) as H (binV .mod a b hs)) : WOp X (binaryOp .Mod) x y H Q := by
  unfold binV at h
  simp only at h
  split at h
  · unfold RV at ra rb; subst ra rb
    split at h
    · rename_i hz
      exact WOp.of op_mod ⟨_, _, rfl, rfl, of_decide_eq_true hz, h.here r (by unfold RV; rfl)⟩
    · exact h.elim
  · exact h.elim
theorem fdiv_ok (r : RS R as s hs σ H) (ra : RV R as H a x) (rb : RV R as H b y) (h : Pst R W s σ (KV1 R Q) as H (binV .fdiv a b hs)) : WOp X (binaryOp .FloorDiv) x y H Q := by
  unfold binV at h
  simp only at h
  split at h
  · unfold RV at ra rb; subst ra rb
    split at h
    · rename_i hz
      rw [Bool.and_eq_true] at hz
      have h0 := of_decide_eq_true hz.1
      have h1 := inI_lt hz.2
      exact WOp.of op_fdiv ⟨_, _, rfl, rfl, ⟨h0, by omega⟩, h.here r (by unfold RV; rfl)⟩
    · exact h.elim
  · exact h.elim
theorem pow_ok (r : RS R as s hs σ H) (ra : RV R as H a x) (rb : RV R as H b y) (h : Pst R W s σ (KV1 R Q) as H (binV .pow a b hs)) : WOp X (binaryOp .Pow) x y H Q := by
  unfold binV at h
  simp only at h
  split at h
  · unfold RV at ra rb; subst ra rb
    split at h
    · rename_i hz
      rw [Bool.and_eq_true, Bool.and_eq_true] at hz
      have h0 := of_decide_eq_true hz.1.1
      have h1 := Nat.le_of_ble_eq_true hz.1.2
      have h2 := inI_lt hz.2
      exact WOp.of op_pow ⟨_, _, rfl, rfl, ⟨h0, by omega, by omega⟩, h.here r (by unfold RV; rfl)⟩
    · exact h.elim
  · exact h.elim
end
end Kn
namespace Kn
open PySem L2
section
variable {X : Cx} {R : Rp} {W : WX} {s : St} {σ : L2.St} {as : List Addr} {H : Hp} {hs : Hs} {Q : VK} {a b : Val} {x y : V}
theorem foldl_cps (z : Array Nat) : ∀ (n : Nat) (acc : Array Nat), (List.replicate n z).foldl (· ++ ·) acc = acc ++ (rep z.toList n).toArray
  | 0, acc => by simp [rep]
  | n + 1, acc => by
    rw [List.replicate_succ, List.foldl_cons, foldl_cps z n, show rep z.toList (n + 1) = z.toList ++ rep z.toList n from rfl]
    apply Array.ext'
    simp
theorem op_mulS : OpR X (binaryOp .Mult) (fun x y H Q => ∃ (z : Tx) (k : Nat), x = .str (toS z) ∧ y = .int k ∧ z.length ≤ 1000 ∧ k ≤ 1000 ∧ Q (.str (toS (rep z k))) H) := by
  intro pins s σ H x y v u Q I rx ry h
  obtain ⟨z, k, rfl, rfl, h1, h2, q⟩ := h
  obtain ⟨t, rfl⟩ := rx
  obtain ⟨t', rfl⟩ := ry
  have hl : (toS z).length = z.length := toS_len z
  have hm : z.length * k ≤ 1000000 := Nat.le_trans (Nat.mul_le_mul h1 h2) (by decide)
  refine PySem.P.mul_str (by
    have a1 : ¬ (k : Int) < -(2 ^ 63 : Int) := by omega
    have a2 : ¬ (k : Int) ≥ 2 ^ 63 := by omega
    rw [decide_eq_false a1, decide_eq_false a2]; rfl) (fun h3 h4 => ?_) (fun h3 h4 => ?_) ?_
  · rw [hl]
    have hk : (1 : Int) ≤ k := by omega
    have : (2 ^ 63 - 1 : Int) / k ≥ 1000 := by
      rw [ge_iff_le, Int.le_ediv_iff_mul_le (by omega)]
      omega
    omega
  · rw [hl]
    have : ((k : Int)).toNat = k := by simp
    rw [this]
    show decide (z.length * k > sizeLine) = false
    rw [decide_eq_false]
    rw [sizeLine_eq]; omega
  · by_cases c1 : (k : Int) < 1
    · rw [if_pos c1]
      have k0 : k = 0 := by omega
      subst k0
      refine ⟨by decide, ⟨.str Str.empty, H, I.tok _, ⟨_, rfl⟩, ?_⟩⟩
      exact q
    · rw [if_neg c1]
      by_cases c2 : ((k : Int) == 1 || (toS z).length == 0) = true
      · rw [if_pos c2]
        refine ⟨.str (toS z), H, I, ⟨_, rfl⟩, ?_⟩
        have e : rep z k = z := by
          rw [Bool.or_eq_true] at c2
          rcases c2 with c2 | c2
          · have k1 : k = 1 := by have := eq_of_beq c2; omega
            subst k1
            simp [rep]
          · rw [hl] at c2
            have z0 : z = [] := List.eq_nil_of_length_eq_zero (eq_of_beq c2)
            subst z0
            have : (rep ([] : Tx) k).length = 0 := by rw [rep_len]; simp
            exact List.eq_nil_of_length_eq_zero this
        rw [e] at q
        exact q
      · rw [if_neg c2]
        have e : (⟨(List.replicate (k : Int).toNat (toS z).cps).foldl (· ++ ·) #[]⟩ : Str) = toS (rep z k) := by
          rw [foldl_cps]
          simp [toS]
        rw [e]
        refine ⟨?_, ⟨.str (toS (rep z k)), H, I.tok _, ⟨_, rfl⟩, q⟩⟩
        rw [toS_len, rep_len, sizeLine_eq]
        omega
theorem Gd.rep {z : Tx} (g : Gd z) {k : Nat} (h : z.length * k ≤ sizeLine) : Gd (rep z k) := by
  refine ⟨by rw [rep_len]; exact h, ?_⟩
  clear h
  induction k with
  | zero => intro c hc; cases hc
  | succ n ih =>
    intro c hc
    unfold Kn.rep at hc
    rcases List.mem_append.mp hc with hc | hc
    · exact g.2 c hc
    · exact ih c hc
theorem mul_ok (hK : X.K = R.K) (r : RS R as s hs σ H) (ra : RV R as H a x) (rb : RV R as H b y) (h : Pst R W s σ (KV1 R Q) as H (binV .mul a b hs)) : WOp X (binaryOp .Mult) x y H Q := by
  unfold binV at h
  simp only at h
  split at h
  · unfold RV at ra rb; subst ra rb
    split at h
    · rename_i hz
      have fin := h.here (x := .int _) r (by unfold RV; rfl)
      rw [Bool.or_eq_true, Bool.or_eq_true, Bool.and_eq_true] at hz
      rcases hz with (hz | hz) | hz
      · exact WOp.of op_mul ⟨_, _, rfl, rfl, .inl (inI_mul hz), fin⟩
      · exact WOp.of op_mul ⟨_, _, rfl, rfl, .inr (inI_mul hz), fin⟩
      · exact WOp.of op_mulW ⟨_, _, rfl, rfl, wide_mul (inI_lt hz.1) (inI_lt hz.2) (by decide) (by decide) (by decide), fin⟩
    · exact h.elim
  · rename_i k
    unfold RV at ra rb
    obtain ⟨rfl, g1⟩ := ra
    subst rb
    split at h
    · rename_i hz
      rw [Bool.and_eq_true, Bool.and_eq_true] at hz
      have h0 := of_decide_eq_true hz.1.1
      have h1 := Nat.le_of_ble_eq_true hz.1.2
      have h2 := Nat.le_of_ble_eq_true hz.2
      obtain ⟨n, rfl⟩ := Int.eq_ofNat_of_zero_le h0
      refine WOp.of op_mulS ⟨_, n, rfl, rfl, h2, by simpa using h1, ?_⟩
      have h1' : n ≤ 1000 := by simpa using h1
      refine h.here r ?_
      unfold RV
      refine ⟨by simp, g1.rep ?_⟩
      rw [sizeLine_eq]
      exact Nat.le_trans (Nat.mul_le_mul h2 (by simpa using h1)) (by decide)
    · exact h.elim
  · rename_i k
    unfold RV at ra rb
    obtain ⟨p, xs, rfl, s1, q1⟩ := ra
    subst rb
    split at h
    · rename_i hz
      rw [Bool.and_eq_true, Bool.and_eq_true, Bool.and_eq_true] at hz
      have h0 := of_decide_eq_true hz.1.1.1
      have h1 := Nat.le_of_ble_eq_true hz.1.1.2
      have h2 := Nat.le_of_ble_eq_true hz.1.2
      have h3 := hz.2
      refine WOp.of op_repT ⟨p, _, xs, rfl, rfl, by rw [hK]; exact s1, fun e => ?_, h0, by omega, by rw [← q1.len]; exact h2, fun q nq => h.tup r (q1.rep _) nq⟩
      subst e
      have := q1.len
      simp at this
      subst this
      simp at h3
    · exact h.elim
  · unfold RV at ra rb
    obtain ⟨p, e1, rfl⟩ := ra
    subst rb
    split at h
    · rename_i l1
      obtain ⟨c, xs, f1, f2, f3⟩ := r.h.list l1
      rw [e1] at f1; cases f1
      split at h
      · rename_i hz
        rw [Bool.and_eq_true, Bool.and_eq_true] at hz
        have h0 := of_decide_eq_true hz.1.1
        have h1 := Nat.le_of_ble_eq_true hz.1.2
        have h2 := Nat.le_of_ble_eq_true hz.2
        refine WOp.of op_rep ⟨p, _, xs, rfl, rfl, f2, by omega, by omega, ?_, fun q nq => h.new r nq ⟨_, rfl, f3.rep _⟩⟩
        rw [← f3.len, sizeLine_eq]
        exact Nat.le_trans (Nat.mul_le_mul h2 h1) (by decide)
      · exact h.elim
    · exact h.elim
  · exact h.elim
theorem bin_ok (o : Op) (hK : X.K = R.K) (r : RS R as s hs σ H) (ra : RV R as H a x) (rb : RV R as H b y) (h : Pst R W s σ (KV1 R Q) as H (binV o a b hs)) : WOp X (binaryOp (opT o)) x y H Q := by
  cases o
  · exact add_ok hK r ra rb h
  · exact sub_ok r ra rb h
  · exact mul_ok hK r ra rb h
  · exact mod_ok r ra rb h
  · exact fdiv_ok r ra rb h
  · exact pow_ok r ra rb h
end
mutual
def pd : Dt → PyData
  | .non => .none
  | .num i => .int i
  | .bl b => .bool b
  | .str s => .str (toS s)
  | .tup l => .tuple (pds l)
  | .lst l => .list (pds l)
def pds : List Dt → List PyData
  | [] => []
  | d :: r => pd d :: pds r
end
theorem txEq_iff : ∀ {a b : Tx}, txEq a b = true ↔ a = b
  | [], [] => by simp [txEq]
  | [], _ :: _ => by simp [txEq]
  | _ :: _, [] => by simp [txEq]
  | a :: r, b :: t => by
    simp only [txEq, Bool.and_eq_true, List.cons.injEq]
    rw [txEq_iff, Nat.beq_eq]
theorem txEq_decD (a b : Tx) : txEq a b = decide (a = b) := by
  rw [Bool.eq_iff_iff, txEq_iff, decide_eq_true_iff]
theorem toS_inj {a b : Tx} : toS a = toS b ↔ a = b := by
  constructor
  · intro h
    have := congrArg (fun z : Str => z.cps.toList) h
    simpa [toS] using this
  · intro h; rw [h]
theorem toS_beq (a b : Tx) : (toS a == toS b) = txEq a b := by
  rw [txEq_decD]
  show decide (toS a = toS b) = _
  by_cases h : a = b
  · subst h; simp
  · rw [decide_eq_false h, decide_eq_false fun z => h (toS_inj.mp z)]
mutual
theorem pd_eqv : ∀ a b : Dt, PyData.eqv (pd a) (pd b) = dEq a b
  | .non, b => by cases b <;> simp [pd, PyData.eqv, dEq]
  | .num i, b => by cases b <;> simp [pd, PyData.eqv, dEq, b2i] <;> rfl
  | .bl i, b => by cases b <;> simp [pd, PyData.eqv, dEq, b2i] <;> rfl
  | .str i, b => by cases b <;> simp [pd, PyData.eqv, dEq, toS_beq]
  | .tup i, b => by cases b <;> simp [pd, PyData.eqv, dEq, pds_eqv]
  | .lst i, b => by cases b <;> simp [pd, PyData.eqv, dEq, pds_eqv]
theorem pds_eqv : ∀ a b : List Dt, PyData.eqvAll (pds a) (pds b) = dsEq a b
  | [], [] => rfl
  | [], _ :: _ => rfl
  | _ :: _, [] => rfl
  | a :: r, b :: t => by simp [pds, PyData.eqvAll, dsEq, pd_eqv a b, pds_eqv r t]
end
mutual
/-- its signs are signs, it is at most n deep -/
def dOk : Nat → Dt → Prop
  | _, .non => True
  | _, .num _ => True
  | _, .bl _ => True
  | _, .str s => Gd s
  | n, .tup l => ∃ m, n = m + 1 ∧ dsOk m l
  | n, .lst l => ∃ m, n = m + 1 ∧ dsOk m l
def dsOk : Nat → List Dt → Prop
  | _, [] => True
  | n, d :: r => dOk n d ∧ dsOk n r
end
theorem Gd.ok {s : Tx} (g : Gd s) : PyData.strOk (toS s) = true := by
  unfold PyData.strOk
  rw [Array.all_eq_true']
  intro c hc
  exact decide_eq_true (g.2 c (by simpa using hc))
mutual
theorem dOk.lay : ∀ (n : Nat) (d : Dt), dOk n d → (pd d).canLay0 = true ∧ (pd d).depth ≤ n + 1
  | n, .non, _ => ⟨rfl, by simp [pd, PyData.depth]⟩
  | n, .num _, _ => ⟨rfl, by simp [pd, PyData.depth]⟩
  | n, .bl _, _ => ⟨rfl, by simp [pd, PyData.depth]⟩
  | n, .str s, h => ⟨h.ok, by simp [pd, PyData.depth]⟩
  | n, .tup l, h => by
    obtain ⟨m, rfl, h⟩ := h
    have := dsOk.lay m l h
    exact ⟨this.1, by simp only [pd, PyData.depth]; omega⟩
  | n, .lst l, h => by
    obtain ⟨m, rfl, h⟩ := h
    have := dsOk.lay m l h
    exact ⟨this.1, by simp only [pd, PyData.depth]; omega⟩
theorem dsOk.lay : ∀ (n : Nat) (d : List Dt), dsOk n d → PyData.canLayAll0 (pds d) = true ∧ PyData.depthAll (pds d) ≤ n + 1
  | n, [], _ => ⟨rfl, by simp [pds, PyData.depthAll]⟩
  | n, d :: r, h => by
    have h1 := dOk.lay n d h.1
    have h2 := dsOk.lay n r h.2
    exact ⟨by simp [pds, PyData.canLayAll0, h1.1, h2.1], by simp only [pds, PyData.depthAll]; omega⟩
end
theorem mapO_rel {R : Rp} {as : List Addr} {H : Hp} {f : Val → Option Dt} {P : Dt → Prop} (hf : ∀ v d x, f v = some d → RV R as H v x → Dp R.K H x (pd d) ∧ P d) :
    ∀ (vs : List Val) (ds : List Dt) (xs : List V), mapO f vs = some ds → RVs R as H vs xs → DpAll R.K H xs (pds ds) ∧ ∀ d ∈ ds, P d
  | [], ds, xs, e, h => by
    unfold mapO at e; cases e
    unfold RVs at h; subst h
    exact ⟨.nil, fun _ h => by cases h⟩
  | v :: r, ds, xs, e, h => by
    unfold mapO at e
    split at e
    · rename_i d e1
      split at e
      · rename_i t e2
        cases e
        unfold RVs at h
        obtain ⟨x, y, rfl, h1, h2⟩ := h
        have a1 := hf v d x e1 h1
        have a2 := mapO_rel hf r t y e2 h2
        exact ⟨.cons a1.1 a2.1, fun d' hd => by
          rcases List.mem_cons.mp hd with rfl | hd
          · exact a1.2
          · exact a2.2 d' hd⟩
      · cases e
    · cases e
theorem dsOk.of {n : Nat} : ∀ {l : List Dt}, (∀ d ∈ l, dOk n d) → dsOk n l
  | [], _ => by unfold dsOk; trivial
  | d :: r, h => by unfold dsOk; exact ⟨h d List.mem_cons_self, dsOk.of fun e he => h e (List.mem_cons_of_mem _ he)⟩
theorem deep_rel {R : Rp} {as : List Addr} {hs : Hs} {H : Hp} (r : RH R as hs H) : ∀ (n : Nat) (v : Val) (d : Dt) (x : V), deep hs n v = some d → RV R as H v x → Dp R.K H x (pd d) ∧ dOk n d
  | 0, v, d, x, e, _ => by unfold deep at e; cases e
  | n + 1, v, d, x, e, h => by
    unfold deep at e
    split at e
    · cases e; unfold RV at h; subst h; exact ⟨.non, by unfold dOk; trivial⟩
    · cases e; unfold RV at h; subst h; exact ⟨.bl _, by unfold dOk; trivial⟩
    · cases e; unfold RV at h; subst h; exact ⟨.int _, by unfold dOk; trivial⟩
    · cases e; unfold RV at h; obtain ⟨rfl, g⟩ := h; exact ⟨.str _, by unfold dOk; exact g⟩
    · rename_i vs
      obtain ⟨l, e1, rfl⟩ := Option.map_eq_some_iff.mp e
      unfold RV at h
      obtain ⟨a, xs, rfl, s, q⟩ := h
      have := mapO_rel (P := dOk n) (fun v d x => deep_rel r n v d x) vs l xs e1 q
      exact ⟨.tup s this.1, by unfold dOk; exact ⟨n, rfl, dsOk.of this.2⟩⟩
    · rename_i m
      split at e
      · rename_i vs e0
        obtain ⟨l, e1, rfl⟩ := Option.map_eq_some_iff.mp e
        unfold RV at h
        obtain ⟨a, ha, rfl⟩ := h
        obtain ⟨b, xs, f1, f2, f3⟩ := r.listAt e0
        rw [ha] at f1; cases f1
        have := mapO_rel (P := dOk n) (fun v d x => deep_rel r n v d x) vs l xs e1 f3
        exact ⟨.lst f2 this.1, by unfold dOk; exact ⟨n, rfl, dsOk.of this.2⟩⟩
      · cases e
    · cases e
theorem shaped_of {n : Nat} {d : Dt} (h : dOk n d) (hn : n ≤ 60) : SeqAt.shaped (pd d) = true := by
  have := dOk.lay n d h
  unfold SeqAt.shaped
  rw [this.1, decide_eq_true (show (pd d).depth ≤ 64 by omega)]
  rfl
theorem pyEq_rel {R : Rp} {as : List Addr} {hs : Hs} {H : Hp} (r : RH R as hs H) {a b : Val} {x y : V} {t : Bool} (e : pyEq hs a b = some t) (ra : RV R as H a x) (rb : RV R as H b y) :
    ∃ d d', Dp R.K H x d ∧ Dp R.K H y d' ∧ SeqAt.shaped d = true ∧ SeqAt.shaped d' = true ∧ PyData.eqv d d' = t := by
  unfold pyEq at e
  split at e
  · rename_i d d' e1 e2
    cases e
    have h1 := deep_rel r 8 a d x e1 ra
    have h2 := deep_rel r 8 b d' y e2 rb
    exact ⟨pd d, pd d', h1.1, h2.1, shaped_of h1.2 (by decide), shaped_of h2.2 (by decide), pd_eqv d d'⟩
  · cases e
end Kn
namespace Kn
open PySem L2 KnK
mutual
theorem vEq_iff : ∀ {a b : Val}, vEq a b = true ↔ a = b
  | .non, b => by cases b <;> simp [vEq]
  | .bl x, b => by cases b <;> simp [vEq]
  | .int x, b => by cases b <;> simp [vEq]
  | .str x, b => by cases b <;> simp [vEq, txEq_iff]
  | .tup x, b => by cases b <;> simp [vEq, vsEq_iff]
  | .ref x, b => by cases b <;> simp [vEq]
  | .fn x, b => by cases b <;> simp [vEq]
  | .exc x, b => by cases b <;> simp [vEq]
theorem vsEq_iff : ∀ {a b : List Val}, vsEq a b = true ↔ a = b
  | [], [] => by simp [vsEq]
  | [], _ :: _ => by simp [vsEq]
  | _ :: _, [] => by simp [vsEq]
  | a :: r, b :: t => by simp [vsEq, vEq_iff (a := a) (b := b), vsEq_iff (a := r) (b := t)]
end
theorem vEq_self (a : Val) : vEq a a = true := vEq_iff.mpr rfl
mutual
theorem nk_inj : ∀ (n m : Nat) (a b : Val), isKeyD n a = true → isKeyD m b = true → nk a = nk b → a = b
  | _, _, .int x, b, _, hb, e => by cases b <;> simp [isKeyD, nk] at hb e ⊢ <;> exact e
  | _, _, .str x, b, _, hb, e => by
    cases b <;> simp [isKeyD, nk] at hb e ⊢
    exact e
  | n, m, .tup x, b, ha, hb, e => by
    cases b <;> simp [isKeyD, nk] at hb e ⊢
    rename_i y
    cases n with
    | zero => simp [isKeyD] at ha
    | succ n =>
      cases m with
      | zero => simp [isKeyD] at hb
      | succ m =>
        unfold isKeyD at ha hb
        exact nks_inj n m x y ha hb e
  | _, _, .non, _, ha, _, _ => by simp [isKeyD] at ha
  | _, _, .bl _, _, ha, _, _ => by simp [isKeyD] at ha
  | _, _, .ref _, _, ha, _, _ => by simp [isKeyD] at ha
  | _, _, .fn _, _, ha, _, _ => by simp [isKeyD] at ha
  | _, _, .exc _, _, ha, _, _ => by simp [isKeyD] at ha
theorem nks_inj : ∀ (n m : Nat) (a b : List Val), a.all (isKeyD n) = true → b.all (isKeyD m) = true → nks a = nks b → a = b
  | _, _, [], [], _, _, _ => rfl
  | _, _, [], _ :: _, _, _, e => by simp [nks] at e
  | _, _, _ :: _, [], _, _, e => by simp [nks] at e
  | n, m, a :: r, b :: t, ha, hb, e => by
    simp only [List.all_cons, Bool.and_eq_true] at ha hb
    simp only [nks, List.cons.injEq] at e
    rw [nk_inj n m a b ha.1 hb.1 e.1, nks_inj n m r t ha.2 hb.2 e.2]
end
mutual
theorem nk_depth : ∀ (n : Nat) (a : Val), isKeyD n a = true → (nk a).depth ≤ n
  | _, .int x, _ => by simp [nk, NestedKey.depth]
  | _, .str x, _ => by simp [nk, NestedKey.depth]
  | n + 1, .tup x, ha => by
    unfold isKeyD at ha
    simp only [nk, NestedKey.depth]
    have := nks_depth n x ha
    omega
  | 0, .tup x, ha => by simp [isKeyD] at ha
  | _, .non, ha => by simp [isKeyD] at ha
  | _, .bl _, ha => by simp [isKeyD] at ha
  | _, .ref _, ha => by simp [isKeyD] at ha
  | _, .fn _, ha => by simp [isKeyD] at ha
  | _, .exc _, ha => by simp [isKeyD] at ha
theorem nks_depth : ∀ (n : Nat) (a : List Val), a.all (isKeyD n) = true → NestedKey.depthAll (nks a) ≤ n
  | _, [], _ => by simp [nks, NestedKey.depthAll]
  | n, a :: r, ha => by
    simp only [List.all_cons, Bool.and_eq_true] at ha
    simp only [nks, NestedKey.depthAll]
    have h1 := nk_depth n a ha.1
    have h2 := nks_depth n r ha.2
    omega
end
theorem isKey_depth {a : Val} (h : isKey a = true) : (nk a).depth ≤ 8 := Nat.le_trans (nk_depth 6 a h) (by decide)
section
variable {X : Cx} {R : Rp} {W : WX} {s : St} {σ : L2.St} {as : List Addr} {H : Hp} {hs : Hs} {Q : VK} {a b : Val} {x y : V} {pins : List (Addr × PySem.Obj)} {sh : Shared}
mutual
theorem key_is (hK : X.K = R.K) (I : Inv X pins σ H sh) : ∀ (n : Nat) (k : Val) (x : V) (u : Value), isKeyD n k = true → RV R as H k x → RelV x u → NestedIs sh.heap (nk k) u
  | _, .int i, x, u, _, r, q => by
    unfold RV at r; subst r
    obtain ⟨t, rfl⟩ := q
    exact .int i t
  | _, .str z, x, u, _, r, q => by
    unfold RV at r; obtain ⟨rfl, _⟩ := r
    obtain ⟨t, rfl⟩ := q
    exact .text _ t
  | n + 1, .tup vs, x, u, h, r, q => by
    unfold RV at r
    unfold isKeyD at h
    obtain ⟨a, xs, rfl, st, rs⟩ := r
    obtain rfl : u = .ref a := q
    obtain ⟨its, rv, ⟨o, ho, hc, m, hd⟩, _⟩ := I.tuple (by rw [hK]; exact st)
    unfold nk
    exact .tup ho hc hd (by simpa using keys_are hK I n vs xs its h rs rv)
  | 0, .tup vs, _, _, h, _, _ => by simp [isKeyD] at h
  | _, .non, _, _, ha, _, _ => by simp [isKeyD] at ha
  | _, .bl _, _, _, ha, _, _ => by simp [isKeyD] at ha
  | _, .ref _, _, _, ha, _, _ => by simp [isKeyD] at ha
  | _, .fn _, _, _, ha, _, _ => by simp [isKeyD] at ha
  | _, .exc _, _, _, ha, _, _ => by simp [isKeyD] at ha
theorem keys_are (hK : X.K = R.K) (I : Inv X pins σ H sh) : ∀ (n : Nat) (ks : List Val) (xs : List V) (us : List Value), ks.all (isKeyD n) = true → RVs R as H ks xs → Vals xs us → NestedAll sh.heap (nks ks) us
  | _, [], xs, us, _, r, q => by
    unfold RVs at r; subst r
    cases q
    unfold nks
    exact .nil
  | n, k :: ks, xs, us, h, r, q => by
    simp only [List.all_cons, Bool.and_eq_true] at h
    unfold RVs at r
    obtain ⟨x, t, rfl, r1, r2⟩ := r
    cases q with
    | cons q1 q2 =>
      unfold nks
      exact .cons (key_is hK I n k x _ h.1 r1 q1) (keys_are hK I n ks t _ h.2 r2 q2)
end
def P3 (q : NestedKey × V × V) (r : NestedKey × Value × Value) : Prop := q.1 = r.1 ∧ RelV q.2.1 r.2.1 ∧ RelV q.2.2 r.2.2
theorem dx_split {w : World} : ∀ {l : List (NestedKey × V × V)} {es : List DictEntry}, Paired (DXr w) l es → ∃ l3 : L3, es = l3.map (ent w) ∧ Paired P3 l l3
  | [], _, .nil => ⟨[], rfl, .nil⟩
  | q :: t, e :: es, .cons h r => by
    obtain ⟨l3, e1, e2⟩ := dx_split r
    refine ⟨(q.1, e.key, e.val) :: l3, ?_, .cons ⟨rfl, h.2.1, h.2.2⟩ e2⟩
    rw [List.map_cons, ← e1]
    congr 1
    obtain ⟨hh, k, v⟩ := e
    simp only [ent]
    rw [← h.1]
theorem dx_join {w : World} : ∀ {l : List (NestedKey × V × V)} {l3 : L3}, Paired P3 l l3 → Paired (DXr w) l (l3.map (ent w))
  | _, _, .nil => .nil
  | _, _, .cons h r => .cons ⟨by rw [h.1]; rfl, h.2.1, h.2.2⟩ (dx_join r)
theorem _root_.Kn.Paired.app {α β : Type} {F : α → β → Prop} : ∀ {a c : List α} {b d : List β}, Paired F a b → Paired F c d → Paired F (a ++ c) (b ++ d)
  | _, _, _, _, .nil, s => s
  | _, _, _, _, .cons r t, s => .cons r (Paired.app t s)
theorem P3.keys : ∀ {l : List (NestedKey × V × V)} {l3 : L3}, Paired P3 l l3 → l.map (·.1) = l3.map (·.1)
  | _, _, .nil => rfl
  | _, _, .cons h r => by rw [List.map_cons, List.map_cons, h.1, P3.keys r]
theorem P3.len : ∀ {l : List (NestedKey × V × V)} {l3 : L3}, Paired P3 l l3 → l.length = l3.length
  | _, _, .nil => rfl
  | _, _, .cons h r => by rw [List.length_cons, List.length_cons, P3.len r]
theorem keys_in (hK : X.K = R.K) (I : Inv X pins σ H sh) : ∀ {kvs : List (Val × Val)} {l : List (NestedKey × V × V)} {l3 : L3}, RKv R as H kvs l → Paired P3 l l3 → ∀ q ∈ l3, NestedIs sh.heap q.1 q.2.1 ∧ q.1.depth ≤ 8
  | [], _, _, r, p, q, hq => by
    unfold RKv at r; subst r
    cases p
    cases hq
  | (k, v) :: t, _, _, r, p, q, hq => by
    unfold RKv at r
    obtain ⟨c, x, z, rfl, h0, h1, h2, h3⟩ := r
    cases p with
    | cons p1 p2 =>
      rcases List.mem_cons.mp hq with rfl | hq
      · have e1 : nk k = q.1 := p1.1
        rw [← e1]
        exact ⟨key_is hK I 6 k c _ h0 h1 p1.2.1, isKey_depth h0⟩
      · exact keys_in hK I h3 p2 q hq
theorem RKv.len : ∀ {kvs : List (Val × Val)} {l : List (NestedKey × V × V)}, RKv R as H kvs l → kvs.length = l.length
  | [], _, r => by unfold RKv at r; subst r; rfl
  | (k, v) :: t, _, r => by
    unfold RKv at r
    obtain ⟨c, x, z, rfl, h0, h1, h2, h3⟩ := r
    simp [RKv.len h3]
/-- the dict in the heap -/
theorem dx_in (hK : X.K = R.K) (hw : X.w = R.w) (I : Inv X pins σ H sh) {d : Addr} {kvs : List (Val × Val)} {l : List (NestedKey × V × V)} (ok : ObjOk X.prog X.w H sh.heap d (DX R.w d l)) (r : RKv R as H kvs l) (nd : (l.map (·.1)).Nodup) :
    ∃ l3, DictN X.w sh.heap d l3 ∧ Paired P3 l l3 ∧ (d == sysModules) = false ∧ l.length ≤ sizeLine := by
  obtain ⟨⟨hd, hz, o, es, ep, ho, hc, hda, pr⟩, _, _⟩ := ok
  obtain ⟨l3, e1, e2⟩ := dx_split pr
  exact ⟨l3, ⟨o, es, ep, ho, hc, hda, by rw [hw]; exact e1, keys_in hK I r e2, by rw [← P3.keys e2]; exact nd⟩, e2, hd, hz⟩
/-- looking up -/
theorem get_rel : ∀ {kvs : List (Val × Val)} {l : List (NestedKey × V × V)} {l3 : L3} {k : Val}, isKey k = true → RKv R as H kvs l → Paired P3 l l3 →
    (∀ v, dGet kvs k = some v → ∃ x u, lkN l3 (nk k) = some u ∧ RelV x u ∧ RV R as H v x) ∧ (dGet kvs k = none → lkN l3 (nk k) = none)
  | [], _, _, k, _, r, p => by
    unfold RKv at r; subst r
    cases p
    exact ⟨fun v e => by simp [dGet] at e, fun _ => rfl⟩
  | (q, v) :: t, _, _, k, hk, r, p => by
    unfold RKv at r
    obtain ⟨c, x, z, rfl, h0, h1, h2, h3⟩ := r
    cases p with
    | @cons _ r3 _ _ p1 p2 =>
      have ih := get_rel hk h3 p2
      have e1 : nk q = r3.1 := p1.1
      unfold dGet
      by_cases e : vEq q k = true
      · rw [if_pos e]
        have := vEq_iff.mp e
        subst this
        refine ⟨fun w hw => ?_, fun hn => by cases hn⟩
        cases hw
        refine ⟨x, r3.2.2, ?_, p1.2.2, h2⟩
        unfold lkN
        rw [List.find?_cons, show decide (r3.1 = nk q) = true by rw [e1]; simp]
        rfl
      · rw [if_neg e]
        have hne : ¬ r3.1 = nk k := fun z => e (vEq_iff.mpr (nk_inj 6 6 q k h0 hk (e1.trans z)))
        have : lkN (r3 :: ‹List _›) (nk k) = lkN ‹List _› (nk k) := by
          unfold lkN
          rw [List.find?_cons, decide_eq_false hne]
        rw [this]
        exact ih
/-- storing -/
def repK (k : NestedKey) (x : V) (q : NestedKey × V × V) : NestedKey × V × V := if q.1 = k then (q.1, q.2.1, x) else q
theorem repK_not (k : NestedKey) (x : V) : ∀ (l : List (NestedKey × V × V)), k ∉ l.map (·.1) → l.map (repK k x) = l
  | [], _ => rfl
  | q :: t, h => by
    simp only [List.map_cons, List.mem_cons, not_or] at h ⊢
    rw [repK, if_neg (fun e => h.1 e.symm), repK_not k x t h.2]
theorem repK_keys (k : NestedKey) (x : V) (l : List (NestedKey × V × V)) : (l.map (repK k x)).map (·.1) = l.map (·.1) := by
  induction l with
  | nil => rfl
  | cons q t ih =>
    simp only [List.map_cons, ih]
    by_cases hk : q.1 = k <;> simp [repK, hk]
theorem repK_P3 {k : NestedKey} {x : V} {u : Value} (q : RelV x u) : ∀ {l : List (NestedKey × V × V)} {l3 : L3}, Paired P3 l l3 → Paired P3 (l.map (repK k x)) (l3.map (putAtN k u))
  | _, _, .nil => .nil
  | _, _, .cons h r => by
    rw [List.map_cons, List.map_cons]
    refine .cons ?_ (repK_P3 q r)
    unfold repK putAtN
    rw [h.1]
    split
    · exact ⟨rfl, h.2.1, q⟩
    · exact h
theorem RKv.snoc {v : Val} {k : Val} {kx vx : V} (hk : isKey k = true) (rk : RV R as H k kx) (rv : RV R as H v vx) : ∀ {kvs : List (Val × Val)} {l : List (NestedKey × V × V)}, RKv R as H kvs l → RKv R as H (kvs ++ [(k, v)]) (l ++ [(nk k, kx, vx)])
  | [], _, r => by
    unfold RKv at r; subst r
    exact ⟨kx, vx, [], rfl, hk, rk, rv, rfl⟩
  | (q, w) :: t, _, r => by
    unfold RKv at r
    obtain ⟨c, x, z, rfl, h0, h1, h2, h3⟩ := r
    exact ⟨c, x, z ++ [(nk k, kx, vx)], rfl, h0, h1, h2, RKv.snoc hk rk rv h3⟩
theorem RKv.nokey {k : Val} (hk : isKey k = true) : ∀ {kvs : List (Val × Val)} {l : List (NestedKey × V × V)}, RKv R as H kvs l → dGet kvs k = none → nk k ∉ l.map (·.1)
  | [], _, r, _ => by unfold RKv at r; subst r; simp
  | (q, w) :: t, _, r, e => by
    unfold RKv at r
    obtain ⟨c, x, z, rfl, h0, h1, h2, h3⟩ := r
    unfold dGet at e
    by_cases e1 : vEq q k = true
    · rw [if_pos e1] at e; cases e
    · rw [if_neg e1] at e
      have := RKv.nokey hk h3 e
      simp only [List.map_cons, List.mem_cons, not_or]
      exact ⟨fun z => e1 (vEq_iff.mpr (nk_inj 6 6 q k h0 hk z.symm)), this⟩
theorem dPut_new {k v : Val} : ∀ {kvs : List (Val × Val)}, dGet kvs k = none → dPut kvs k v = kvs ++ [(k, v)]
  | [], _ => rfl
  | (q, w) :: t, e => by
    unfold dGet at e
    by_cases e1 : vEq q k = true
    · rw [if_pos e1] at e; cases e
    · rw [if_neg e1] at e
      unfold dPut
      rw [if_neg e1, dPut_new e]
      rfl
theorem RKv.rep {v : Val} {k : Val} {vx : V} (hk : isKey k = true) (rv : RV R as H v vx) : ∀ {kvs : List (Val × Val)} {l : List (NestedKey × V × V)} {w : Val}, RKv R as H kvs l → (l.map (·.1)).Nodup → dGet kvs k = some w → RKv R as H (dPut kvs k v) (l.map (repK (nk k) vx))
  | [], _, _, r, _, e => by simp [dGet] at e
  | (q, w) :: t, _, _, r, nd, e => by
    unfold RKv at r
    obtain ⟨c, x, z, rfl, h0, h1, h2, h3⟩ := r
    rw [List.map_cons, List.nodup_cons] at nd
    unfold dGet at e
    unfold dPut
    by_cases e1 : vEq q k = true
    · rw [if_pos e1]
      have := vEq_iff.mp e1
      subst this
      rw [List.map_cons, repK_not _ _ z nd.1, repK, if_pos rfl]
      exact ⟨c, vx, z, rfl, h0, h1, rv, h3⟩
    · rw [if_neg e1] at e ⊢
      rw [List.map_cons, repK, if_neg fun z => e1 (vEq_iff.mpr (nk_inj 6 6 q k h0 hk z))]
      exact ⟨c, x, _, rfl, h0, h1, h2, RKv.rep hk rv h3 nd.2 e⟩
theorem put_rel {v : Val} {k : Val} {kx vx : V} {ku vu : Value} (hk : isKey k = true) (rk : RV R as H k kx) (rv : RV R as H v vx) (qk : RelV kx ku) (qv : RelV vx vu)
    {kvs : List (Val × Val)} {l : List (NestedKey × V × V)} {l3 : L3} (r : RKv R as H kvs l) (p : Paired P3 l l3) (nd : (l.map (·.1)).Nodup) :
    ∃ l', RKv R as H (dPut kvs k v) l' ∧ Paired P3 l' (putN l3 (nk k) ku vu) ∧ (l'.map (·.1)).Nodup ∧ l'.length ≤ l.length + 1 := by
  have g := get_rel hk r p
  cases e : dGet kvs k with
  | none =>
    have e3 := g.2 e
    refine ⟨l ++ [(nk k, kx, vx)], by rw [dPut_new e]; exact r.snoc hk rk rv, ?_, ?_, by simp⟩
    · unfold putN
      rw [e3]
      exact Paired.app p (.cons ⟨rfl, qk, qv⟩ .nil)
    · rw [List.map_append, List.nodup_append]
      refine ⟨nd, by simp, fun a ha b hb => ?_⟩
      simp only [List.map_cons, List.map_nil, List.mem_singleton] at hb
      subst hb
      exact fun z => r.nokey hk e (z ▸ ha)
  | some w =>
    obtain ⟨x, u, e3, _, _⟩ := g.1 w e
    refine ⟨l.map (repK (nk k) vx), r.rep hk rv nd e, ?_, by rw [repK_keys]; exact nd, by simp⟩
    unfold putN
    rw [e3]
    exact repK_P3 qv p
theorem dx_new {w : World} {P : Program} {h : Heap} {d : Addr} {l : List (NestedKey × V × V)} {l3 : L3} (n : DictN w h d l3) (p : Paired P3 l l3) (hd : (d == sysModules) = false) (hz : l.length ≤ sizeLine) : ObjOk P w H h d (DX w d l) := by
  obtain ⟨o, es, ep, ho, hc, hda, he, _, _⟩ := n
  refine ⟨⟨hd, hz, o, es, ep, ho, hc, hda, by rw [he]; exact dx_join p⟩, ⟨o, ho⟩, fun h1 h2 ⟨a, b, o, es, ep, c, r⟩ k => ⟨a, b, o, es, ep, k o c, r⟩⟩
end
end Kn
namespace Kn
open PySem L2 KnK
def cmT : Cm → CmpOp
  | .eq => .Eq | .ne => .NotEq | .lt => .Lt | .le => .LtE | .gt => .Gt | .ge => .GtE | .is => .Is | .isn => .IsNot | .isIn => .In | .notIn => .NotIn
theorem RV.flat {R : Rp} {as : List Addr} {H : Hp} {v : Val} {x : V} (f : flat v = true) (h : RV R as H v x) : flatV x = true := by
  cases v <;> simp [Kn.flat] at f <;> unfold RV at h
  · subst h; rfl
  · subst h; rfl
  · subst h; rfl
  · obtain ⟨rfl, _⟩ := h; rfl
theorem b2i_if (b : Bool) : (if b then (1 : Int) else 0) = b2i b := rfl
theorem flatEq_rel {R : Rp} {as : List Addr} {H : Hp} {v w : Val} {x y : V} (f : flat v = true) (g : flat w = true) (h : RV R as H v x) (k : RV R as H w y) : eqV x y = flatEq v w := by
  cases v <;> simp [Kn.flat] at f <;> cases w <;> simp [Kn.flat] at g <;> unfold RV at h k <;>
    first
    | (subst h; subst k; rfl)
    | (obtain ⟨rfl, _⟩ := h; obtain ⟨rfl, _⟩ := k; simp [eqV, flatEq, toS_beq]; done)
    | (subst h; obtain ⟨rfl, _⟩ := k; simp [eqV, flatEq]; done)
    | (obtain ⟨rfl, _⟩ := h; subst k; simp [eqV, flatEq]; done)
theorem flat_any {R : Rp} {as : List Addr} {H : Hp} {w : Val} {y : V} (g : flat w = true) (k : RV R as H w y) : ∀ {vs : List Val} {xs : List V}, vs.all flat = true → RVs R as H vs xs → inV y xs = vs.any (fun v => flatEq v w) ∧ xs.all flatV = true
  | [], _, _, h => by unfold RVs at h; subst h; exact ⟨rfl, rfl⟩
  | v :: r, _, f, h => by
    unfold RVs at h
    obtain ⟨x, t, rfl, h1, h2⟩ := h
    simp only [List.all_cons, Bool.and_eq_true] at f
    have ih := flat_any g k f.2 h2
    refine ⟨?_, by simp [RV.flat f.1 h1, ih.2]⟩
    unfold inV at ih ⊢
    rw [List.any_cons, List.any_cons, ih.1, flatEq_rel f.1 g h1 k]
theorem beq_of_dec {α : Type} [DecidableEq α] (a b : α) : (a == b) = decide (a = b) := by
  by_cases h : a = b
  · subst h; simp
  · simp [h]
theorem memN_iff {c : Nat} : ∀ {t : Tx}, memN c t = decide (c ∈ t)
  | [] => by simp [memN]
  | x :: r => by
    unfold memN
    rw [memN_iff (t := r)]
    by_cases h : c = x
    · subst h; simp
    · have : Nat.beq c x = false := by
        cases e : Nat.beq c x with
        | false => rfl
        | true => exact absurd (Nat.eq_of_beq_eq_true e) h
      rw [this]
      simp [h]
theorem any_pds {d : Dt} : ∀ {ds : List Dt}, (pds ds).any (fun z => PyData.eqv z (pd d)) = ds.any fun z => dEq z d
  | [] => rfl
  | x :: r => by simp [pds, pd_eqv, any_pds (ds := r)]
section
variable {X : Cx} {R : Rp} {W : WX} {s : St} {σ : L2.St} {as : List Addr} {H : Hp} {hs : Hs} {Q : VK} {a b : Val} {x y : V}
theorem op_isAny : OpR X (compareOp .Is) (fun x y H Q => ∃ (b c : Bool), y = .bl b ∧ ((x = .bl b ∧ c = true) ∨ (x ≠ .bl b ∧ c = false)) ∧ Q (.bl c) H) := by
  intro pins s σ H x y v u Q I rx ry h
  obtain ⟨b, c, rfl, hc, q⟩ := h
  cases (show u = Value.bool b from ry)
  rcases hc with ⟨rfl, rfl⟩ | ⟨hx, rfl⟩
  · cases (show v = Value.bool b from rx)
    exact wpAny_is_self rfl ⟨.bl true, H, I, rfl, q⟩
  · refine wpAny_is_other ?_ (fun z => ?_) ⟨.bl false, H, I, rfl, q⟩
    · cases x <;> first | (cases rx; rfl) | (obtain ⟨t, rfl⟩ := rx; rfl)
    · subst z
      cases x <;> first | (cases rx; done) | (cases rx; exact hx rfl) | (obtain ⟨t, e⟩ := rx; cases e)
theorem op_isnAny : OpR X (compareOp .IsNot) (fun x y H Q => ∃ (b c : Bool), y = .bl b ∧ ((x = .bl b ∧ c = true) ∨ (x ≠ .bl b ∧ c = false)) ∧ Q (.bl !c) H) := by
  intro pins s σ H x y v u Q I rx ry h
  obtain ⟨b, c, rfl, hc, q⟩ := h
  cases (show u = Value.bool b from ry)
  rcases hc with ⟨rfl, rfl⟩ | ⟨hx, rfl⟩
  · cases (show v = Value.bool b from rx)
    exact wpAny_isNot_self rfl ⟨.bl false, H, I, rfl, q⟩
  · refine wpAny_isNot_other ?_ (fun z => ?_) ⟨.bl true, H, I, rfl, q⟩
    · cases x <;> first | (cases rx; rfl) | (obtain ⟨t, rfl⟩ := rx; rfl)
    · subst z
      cases x <;> first | (cases rx; done) | (cases rx; exact hx rfl) | (obtain ⟨t, e⟩ := rx; cases e)
theorem RV.nonIff {v : Val} {x : V} (h : RV R as H v x) : x = .non ↔ v = .non := by
  cases v <;> unfold RV at h
  · subst h; simp
  · subst h; simp
  · subst h; simp
  · obtain ⟨rfl, _⟩ := h; simp
  · obtain ⟨_, _, rfl, _⟩ := h; simp
  · obtain ⟨_, _, rfl⟩ := h; simp
  · exact h.elim
  · obtain ⟨_, rfl, _⟩ := h; simp
theorem RV.blIff {v : Val} {x : V} {b : Bool} (h : RV R as H v x) : x = .bl b ↔ v = .bl b := by
  cases v <;> unfold RV at h
  · subst h; simp
  · subst h; simp
  · subst h; simp
  · obtain ⟨rfl, _⟩ := h; simp
  · obtain ⟨_, _, rfl, _⟩ := h; simp
  · obtain ⟨_, _, rfl⟩ := h; simp
  · exact h.elim
  · obtain ⟨_, rfl, _⟩ := h; simp
/-- the dict at a place -/
theorem RH.dictAt {hs : Hs} (r : RH R as hs H) {n : Nat} {kvs : List (Val × Val)} (e : dictAt hs n = some kvs) : ∃ a l, as[n]? = some a ∧ Rd H a (DX R.w a l) ∧ RKv R as H kvs l ∧ (l.map (·.1)).Nodup := by
  unfold Kn.dictAt at e
  split at e
  · cases e
    rename_i e
    obtain ⟨a, u, e1, e2, l, rfl, e3, e4⟩ := r.obj n _ e
    exact ⟨a, l, e1, .inl e2, e3, e4⟩
  · cases e
    rename_i e
    obtain ⟨a, u, e1, e2, ob, u', rfl, l, rfl, e3, e4⟩ := r.obj n _ e
    exact ⟨a, l, e1, .inr ⟨ob, e2⟩, e3, e4⟩
  · cases e
theorem in_dict (hK : X.K = R.K) (hw : X.w = R.w) (hu : X.A.units + 100 < cLine) (r : RS R as s hs σ H) {n : Nat} {kvs : List (Val × Val)} (e : dictAt hs n = some kvs) (hk : isKey a = true) (ra : RV R as H a x) {d : Addr} (ed : as[n]? = some d) (q : Q (.bl (dGet kvs a).isSome) H) :
    WOp X (compareOp .In) x (.ref d) H Q := by
  intro pins sh σ' v u I rx ry
  obtain rfl : u = .ref d := ry
  obtain ⟨d', l, e1, rd, rk, nd⟩ := r.h.dictAt e
  rw [ed] at e1; cases e1
  obtain ⟨l3, dn, p3, hd, hz⟩ := dx_in hK hw I (rd.ok I.hok) rk nd
  have g := get_rel hk rk p3
  refine in_N (by omega) (key_is hK I 6 a x v hk ra rx) (isKey_depth hk) hd dn fun t => ⟨.bl (dGet kvs a).isSome, H, I.tok t, ?_, q⟩
  cases e : dGet kvs a with
  | none => rw [g.2 e]; rfl
  | some w => obtain ⟨_, _, e2, _⟩ := g.1 w e; rw [e2]; rfl
theorem notIn_dict (hK : X.K = R.K) (hw : X.w = R.w) (hu : X.A.units + 100 < cLine) (r : RS R as s hs σ H) {n : Nat} {kvs : List (Val × Val)} (e : dictAt hs n = some kvs) (hk : isKey a = true) (ra : RV R as H a x) {d : Addr} (ed : as[n]? = some d) (q : Q (.bl !(dGet kvs a).isSome) H) :
    WOp X (compareOp .NotIn) x (.ref d) H Q := by
  intro pins sh σ' v u I rx ry
  obtain rfl : u = .ref d := ry
  obtain ⟨d', l, e1, rd, rk, nd⟩ := r.h.dictAt e
  rw [ed] at e1; cases e1
  obtain ⟨l3, dn, p3, hd, hz⟩ := dx_in hK hw I (rd.ok I.hok) rk nd
  have g := get_rel hk rk p3
  refine notIn_N (by omega) (key_is hK I 6 a x v hk ra rx) (isKey_depth hk) hd dn fun t => ⟨.bl !(dGet kvs a).isSome, H, I.tok t, ?_, q⟩
  cases e : dGet kvs a with
  | none => rw [g.2 e]; rfl
  | some w => obtain ⟨_, _, e2, _⟩ := g.1 w e; rw [e2]; rfl
theorem isIn_ok (hK : X.K = R.K) (hw : X.w = R.w) (hu : X.A.units + 100 < cLine) (r : RS R as s hs σ H) (ra : RV R as H a x) (rb : RV R as H b y) {t : Bool} (e : isIn hs a b = some t) :
    (Q (.bl t) H → WOp X (compareOp .In) x y H Q) ∧ (Q (.bl !t) H → WOp X (compareOp .NotIn) x y H Q) := by
  have lst : ∀ {n : Nat} {vs : List Val}, listAt hs n = some vs → b = .ref n → inL hs a vs = some t → (Q (.bl t) H → WOp X (compareOp .In) x y H Q) ∧ (Q (.bl !t) H → WOp X (compareOp .NotIn) x y H Q) := by
    intro n vs e1 eb e2
    subst eb
    unfold RV at rb
    obtain ⟨d, ed, rfl⟩ := rb
    obtain ⟨d', xs, f1, f2, f3⟩ := r.h.listAt e1
    rw [ed] at f1; cases f1
    unfold inL at e2
    split at e2
    · rename_i ds dd g1 g2
      cases e2
      have m := mapO_rel (P := dOk 7) (fun v d x => deep_rel r.h 7 v d x) vs ds xs g1 f3
      have dd' := deep_rel r.h 7 a dd x g2 ra
      have hl : dOk 8 (.lst ds) := by unfold dOk; exact ⟨7, rfl, dsOk.of m.2⟩
      have sl : SeqAt.shaped (.list (pds ds)) = true := shaped_of (d := .lst ds) hl (by decide)
      have dl : Dp X.K H (.ref d) (.list (pds ds)) := by rw [hK]; exact .lst f2 m.1
      exact ⟨fun q => WOp.of (op_inD (by omega)) ⟨pd dd, pds ds, by rw [hK]; exact dd'.1, dl, shaped_of dd'.2 (by decide), sl, by rw [any_pds]; exact q⟩,
        fun q => WOp.of (op_notInD (by omega)) ⟨pd dd, pds ds, by rw [hK]; exact dd'.1, dl, shaped_of dd'.2 (by decide), sl, by rw [any_pds]; exact q⟩⟩
    · cases e2
  have dic : ∀ {n : Nat} {kvs : List (Val × Val)}, dictAt hs n = some kvs → b = .ref n → (if isKey a then some (dGet kvs a).isSome else none) = some t → (Q (.bl t) H → WOp X (compareOp .In) x y H Q) ∧ (Q (.bl !t) H → WOp X (compareOp .NotIn) x y H Q) := by
    intro n kvs e1 eb e2
    subst eb
    unfold RV at rb
    obtain ⟨d, ed, rfl⟩ := rb
    split at e2
    · rename_i hk
      cases e2
      exact ⟨fun q => in_dict hK hw hu r e1 hk ra ed q, fun q => notIn_dict hK hw hu r e1 hk ra ed q⟩
    · cases e2
  unfold Kn.isIn at e
  split at e
  · split at e
    · cases e
      unfold RV at ra rb
      obtain ⟨rfl, _⟩ := ra
      obtain ⟨rfl, _⟩ := rb
      refine ⟨fun q => WOp.of op_in_sign ⟨_, _, rfl, rfl, ?_⟩, fun q => WOp.of op_notIn_sign ⟨_, _, rfl, rfl, ?_⟩⟩
      · rw [memN_iff] at q; simpa using q
      · rw [memN_iff] at q; simpa using q
    · cases e
  · rename_i vs
    unfold inT at e
    split at e
    · rename_i hf
      cases e
      rw [Bool.and_eq_true] at hf
      unfold RV at rb
      obtain ⟨p, xs, rfl, st, rs⟩ := rb
      have fa := flat_any hf.1 ra hf.2 rs
      refine ⟨fun q => WOp.of op_in_seq ⟨p, xs, rfl, .inr (by rw [hK]; exact st), RV.flat hf.1 ra, fa.2, ?_⟩, fun q => WOp.of op_notIn_seq ⟨p, xs, rfl, .inr (by rw [hK]; exact st), RV.flat hf.1 ra, fa.2, ?_⟩⟩
      · rw [fa.1]; exact q
      · rw [fa.1]; exact q
    · cases e
  · split at e
    · rename_i vs e1
      exact lst (by unfold Kn.listAt; rw [e1]) rfl e
    · rename_i vs e1
      exact lst (by unfold Kn.listAt; rw [e1]) rfl e
    · rename_i vs e1
      exact lst (by unfold Kn.listAt; rw [e1]) rfl e
    · rename_i kvs e1
      exact dic (by unfold Kn.dictAt; rw [e1]) rfl e
    · rename_i kvs e1
      exact dic (by unfold Kn.dictAt; rw [e1]) rfl e
    · cases e
  · cases e
theorem cmp_ok (c : Cm) (hK : X.K = R.K) (hw : X.w = R.w) (hu : X.A.units + 100 < cLine) (r : RS R as s hs σ H) (ra : RV R as H a x) (rb : RV R as H b y) (h : Pst R W s σ (KV1 R Q) as H (cmpV c a b hs)) : WOp X (compareOp (cmT c)) x y H Q := by
  unfold cmpV at h
  split at h
  · rename_i t e
    have q : Q (.bl t) H := h.here r (by unfold RV; rfl)
    unfold cmpO at e
    split at e
    · obtain ⟨d, d', h1, h2, h3, h4, rfl⟩ := pyEq_rel r.h e ra rb
      exact WOp.of (op_eqD (by omega)) ⟨d, d', by rw [hK]; exact h1, by rw [hK]; exact h2, h3, h4, q⟩
    · obtain ⟨t', e', rfl⟩ := Option.map_eq_some_iff.mp e
      obtain ⟨d, d', h1, h2, h3, h4, rfl⟩ := pyEq_rel r.h e' ra rb
      exact WOp.of (op_neD (by omega)) ⟨d, d', by rw [hK]; exact h1, by rw [hK]; exact h2, h3, h4, q⟩
    · split at e
      · cases e
        unfold RV at ra rb; subst ra rb
        exact WOp.of op_lt ⟨_, _, rfl, rfl, q⟩
      · cases e
    · split at e
      · cases e
        unfold RV at ra rb; subst ra rb
        exact WOp.of op_le ⟨_, _, rfl, rfl, q⟩
      · cases e
    · split at e
      · cases e
        unfold RV at ra rb; subst ra rb
        exact WOp.of op_gt ⟨_, _, rfl, rfl, q⟩
      · cases e
    · split at e
      · cases e
        unfold RV at ra rb; subst ra rb
        exact WOp.of op_ge ⟨_, _, rfl, rfl, q⟩
      · cases e
    · unfold isV at e
      split at e
      · unfold RV at rb; subst rb
        have : decide (x = .non) = t := by
          split at e
          · cases e; simp [RV.nonIff ra]
          · rename_i hn; cases e; simp [RV.nonIff ra]; exact hn
        exact WOp.of op_isN ⟨rfl, by rw [this]; exact q⟩
      · unfold RV at rb; subst rb
        rename_i bb
        split at e
        · rename_i aa
          cases e
          by_cases hab : aa = bb
          · subst hab
            exact WOp.of op_isAny ⟨aa, true, rfl, .inl ⟨(RV.blIff ra).mpr rfl, rfl⟩, by simpa using q⟩
          · exact WOp.of op_isAny ⟨bb, false, rfl, .inr ⟨fun z => hab (by have := (RV.blIff ra).mp z; cases this; rfl), rfl⟩, by rw [show (aa == bb) = false by simp [hab]] at q; exact q⟩
        · rename_i hn
          cases e
          exact WOp.of op_isAny ⟨bb, false, rfl, .inr ⟨fun z => hn _ ((RV.blIff ra).mp z), rfl⟩, q⟩
      · cases e
    · obtain ⟨t', e', rfl⟩ := Option.map_eq_some_iff.mp e
      clear e
      have e := e'
      clear e'
      unfold isV at e
      split at e
      · unfold RV at rb; subst rb
        have : decide (x = .non) = t' := by
          split at e
          · cases e; simp [RV.nonIff ra]
          · rename_i hn; cases e; simp [RV.nonIff ra]; exact hn
        exact WOp.of op_notN ⟨rfl, by rw [this]; exact q⟩
      · unfold RV at rb; subst rb
        rename_i bb
        split at e
        · rename_i aa
          cases e
          by_cases hab : aa = bb
          · subst hab
            exact WOp.of op_isnAny ⟨aa, true, rfl, .inl ⟨(RV.blIff ra).mpr rfl, rfl⟩, by simpa using q⟩
          · exact WOp.of op_isnAny ⟨bb, false, rfl, .inr ⟨fun z => hab (by have := (RV.blIff ra).mp z; cases this; rfl), rfl⟩, by rw [show (aa == bb) = false by simp [hab]] at q; exact q⟩
        · rename_i hn
          cases e
          exact WOp.of op_isnAny ⟨bb, false, rfl, .inr ⟨fun z => hn _ ((RV.blIff ra).mp z), rfl⟩, q⟩
      · cases e
    · exact (isIn_ok hK hw hu r ra rb e).1 q
    · obtain ⟨t', e', rfl⟩ := Option.map_eq_some_iff.mp e
      exact (isIn_ok hK hw hu r ra rb e').2 q
  · exact h.elim
end
end Kn
namespace Kn
open PySem L2 KnK
def WIx (X : Cx) (x y : V) (H : Hp) (Q : VK) : Prop := ∀ (value slice : Expr) (pins : List (Addr × PySem.Obj)) (s : Shared) (σ : L2.St) (v u : Value), Inv X pins σ H s → RelV x v → RelV y u →
    subscripted slice false v u = operate [v, u] (getItem v u) → wpAny (model X.prog X.w) X.A (PyProof.Rows.subscriptTail value slice v u) (EP X pins σ Q) X.xe s
theorem WIx.r (X : Cx) : IxR X (WIx X) := fun value slice pins s σ H x y v u Q I rx ry h hs => h value slice pins s σ v u I rx ry hs
theorem WIx.of {X : Cx} {r : R2} {x y : V} {H : Hp} {Q : VK} (h : IxR X r) (q : r x y H Q) : WIx X x y H Q := fun value slice pins s σ v u I rx ry hs => h value slice pins s σ H x y v u Q I rx ry q hs
theorem atI_rel {R : Rp} {as : List Addr} {H : Hp} {vs : List Val} {xs : List V} {i : Int} {v : Val} (r : RVs R as H vs xs) (e : Kn.atI vs i = some v) : ∃ x, L2.atI xs i = some x ∧ RV R as H v x := by
  have hl := r.len
  unfold Kn.atI at e
  unfold L2.atI ixN
  split at e
  · rename_i h0
    rw [if_neg (by omega)]
    split at e
    · cases e
    · rename_i h1
      obtain ⟨x, h2, h3⟩ := r.get e
      refine ⟨x, ?_, h3⟩
      rw [if_pos (by omega)]
      show xs[(i + (xs.length : Int)).toNat]? = some x
      rw [← h2]
      congr 2
      omega
  · rename_i h0
    obtain ⟨x, h2, h3⟩ := r.get e
    refine ⟨x, ?_, h3⟩
    have hlt := (List.getElem?_eq_some_iff.mp h2).1
    rw [if_pos (by omega), if_pos (by omega)]
    exact h2
theorem cut_rel {R : Rp} {as : List Addr} {H : Hp} {vs : List Val} {xs : List V} (r : RVs R as H vs xs) (lo hi : Option Int) : RVs R as H (cut vs lo hi) (cutV xs lo hi) := by
  have e : ∀ (n d : Nat) (o : Option Int), HT.sIx n d o = match o with | none => d | some i => clampI n i := fun n d o => by
    cases o with
    | none => rfl
    | some i =>
      show (if i < 0 then (i + (n : Int)).toNat else min i.toNat n) = if i < 0 then ((n : Int) + i).toNat else min i.toNat n
      rw [Int.add_comm]
  unfold cut cutV
  rw [e, e, ← r.len]
  exact RVs.take _ (RVs.drop _ r)
theorem cut_str (s : Tx) (lo hi : Option Int) : toS (cut s lo hi) = cutS (toS s) lo hi := by
  have e : ∀ (n d : Nat) (o : Option Int), HT.sIx n d o = match o with | none => d | some i => clampI n i := fun n d o => by
    cases o with
    | none => rfl
    | some i =>
      show (if i < 0 then (i + (n : Int)).toNat else min i.toNat n) = if i < 0 then ((n : Int) + i).toNat else min i.toNat n
      rw [Int.add_comm]
  unfold cut cutS
  rw [e, e, toS_len]
  all_goals rfl
theorem Gd.sub {s t : Tx} (g : Gd s) (h : t.length ≤ s.length) (m : ∀ c ∈ t, c ∈ s) : Gd t := ⟨Nat.le_trans h g.1, fun c hc => g.2 c (m c hc)⟩
theorem Gd.cut {s : Tx} (g : Gd s) (lo hi : Option Int) : Gd (Kn.cut s lo hi) := by
  refine g.sub ?_ ?_
  · unfold Kn.cut
    simp only [List.length_take, List.length_drop]
    omega
  · intro c hc
    unfold Kn.cut at hc
    exact List.mem_of_mem_drop (List.mem_of_mem_take hc)
theorem Gd.one {s : Tx} (g : Gd s) {c : Nat} (h : c ∈ s) : Gd [c] := by
  refine ⟨by rw [sizeLine_eq]; simp, fun d hd => ?_⟩
  rw [List.mem_singleton] at hd
  subst hd
  exact g.2 _ h
section
variable {X : Cx} {R : Rp} {W : WX} {s : St} {σ : L2.St} {as : List Addr} {H : Hp} {hs : Hs} {Q : VK} {a b : Val} {x y : V}
theorem idx_dict (hK : X.K = R.K) (hw : X.w = R.w) (hu : X.A.units + 100 < cLine) (r : RS R as s hs σ H) {n : Nat} {kvs : List (Val × Val)} (e : dictAt hs n = some kvs) (hk : isKey a = true) (ra : RV R as H a x) {d : Addr} (ed : as[n]? = some d) {v : Val} (ev : dGet kvs a = some v)
    (q : ∀ z, RV R as H v z → Q z H) : WIx X (.ref d) x H Q := by
  intro value slice pins sh σ' v' u I rx ry hsub
  obtain rfl : v' = .ref d := rx
  obtain ⟨d', l, e1, rd, rk, nd⟩ := r.h.dictAt e
  rw [ed] at e1; cases e1
  obtain ⟨l3, dn, p3, hd, hz⟩ := dx_in hK hw I (rd.ok I.hok) rk nd
  obtain ⟨z, uz, e2, e3, e4⟩ := (get_rel hk rk p3).1 v ev
  exact PyProof.Rows.tail_any dn.typeIs F.slot_dict_getitem.lookup (getItem_N (by omega) (key_is hK I 6 a x u hk ra ry) (isKey_depth hk) dn e2 fun t => ⟨z, H, I.tok t, e3, q z e4⟩) hsub
theorem idx_ok (hK : X.K = R.K) (hw : X.w = R.w) (hu : X.A.units + 100 < cLine) (r : RS R as s hs σ H) (ra : RV R as H a x) (rb : RV R as H b y) (h : Pst R W s σ (KV1 R Q) as H (idxV a b hs)) : WIx X x y H Q := by
  have lst : ∀ {n : Nat} {vs : List Val}, listAt hs n = some vs → a = .ref n → ∀ i, b = .int i → Pst R W s σ (KV1 R Q) as H (opt hs (Kn.atI vs i)) → WIx X x y H Q := by
    clear h
    intro n vs e1 ea i eb h
    subst ea eb
    unfold RV at ra rb
    obtain ⟨d, ed, rfl⟩ := ra
    subst rb
    obtain ⟨d', xs, f1, f2, f3⟩ := r.h.listAt e1
    rw [ed] at f1; cases f1
    obtain ⟨v, ev, h⟩ := h.opt
    obtain ⟨z, e2, e3⟩ := atI_rel f3 ev
    exact WIx.of ix_list ⟨d, xs, i, z, rfl, rfl, by rw [hK]; exact f2, e2, h.here r e3⟩
  have dic : ∀ {n : Nat} {kvs : List (Val × Val)}, dictAt hs n = some kvs → a = .ref n → Pst R W s σ (KV1 R Q) as H (if isKey b then opt hs (dGet kvs b) else .no) → WIx X x y H Q := by
    clear h
    intro n kvs e1 ea h
    subst ea
    unfold RV at ra
    obtain ⟨d, ed, rfl⟩ := ra
    split at h
    · rename_i hk
      obtain ⟨v, ev, h⟩ := h.opt
      exact idx_dict hK hw hu r e1 hk rb ed ev fun z hz => h.here r hz
    · exact h.elim
  unfold idxV at h
  split at h
  · split at h
    · rename_i vs i
      obtain ⟨v, ev, h⟩ := h.opt
      unfold RV at ra rb
      obtain ⟨p, xs, rfl, st, rs⟩ := ra
      subst rb
      obtain ⟨z, e2, e3⟩ := atI_rel rs ev
      exact WIx.of ix_tup ⟨p, xs, i, z, rfl, rfl, by rw [hK]; exact st, e2, h.here r e3⟩
    · exact h.elim
  · rename_i t
    split at h
    · rename_i i
      split at h
      · rename_i h0
        have h0 := of_decide_eq_true h0
        obtain ⟨v, ev, h⟩ := h.opt
        obtain ⟨c, ec, rfl⟩ := Option.map_eq_some_iff.mp ev
        unfold RV at ra rb
        obtain ⟨rfl, g⟩ := ra
        subst rb
        refine WIx.of ix_str ⟨toS t, i, c, rfl, rfl, by rw [toS_len]; exact g.1, ?_, h.here r ?_⟩
        · have hlt := (List.getElem?_eq_some_iff.mp ec).1
          unfold L2.atI ixN
          simp only [toS]
          rw [if_pos (by omega), if_pos (by omega)]
          exact ec
        · unfold RV
          exact ⟨rfl, g.one (List.mem_of_getElem? ec)⟩
      · exact h.elim
    · exact h.elim
  · split at h
    · rename_i vs e1
      split at h
      · exact lst (by unfold Kn.listAt; rw [e1]) rfl _ rfl h
      · exact h.elim
    · rename_i vs e1
      split at h
      · exact lst (by unfold Kn.listAt; rw [e1]) rfl _ rfl h
      · exact h.elim
    · rename_i vs e1
      split at h
      · exact lst (by unfold Kn.listAt; rw [e1]) rfl _ rfl h
      · exact h.elim
    · rename_i kvs e1
      exact dic (by unfold Kn.dictAt; rw [e1]) rfl h
    · rename_i kvs e1
      exact dic (by unfold Kn.dictAt; rw [e1]) rfl h
    · exact h.elim
  · exact h.elim
def WSl (X : Cx) (x : V) (lo hi : Option Int) (H : Hp) (Q : VK) : Prop := ∀ (pins : List (Addr × PySem.Obj)) (s : Shared) (σ : L2.St) (v vl vu : Value) (sl : Addr), Inv X pins σ H s → RelV x v → s.heap.IsSliceOf sl vl vu .none → IsPart vl lo → IsPart vu hi →
    ∃ T id, typeLookup (.type T) "__getitem__" = pure (some (.builtin id)) ∧ s.TypeIs v T ∧ wpAny (model X.prog X.w) X.A (getItem v (.ref sl)) (EP X pins σ Q) X.xe s
theorem WSl.r (X : Cx) : SlR X (WSl X) := fun pins s σ H x v vl vu lo hi sl Q I rx hs pl pu h => h pins s σ v vl vu sl I rx hs pl pu
theorem WSl.of {r : V → Option Int → Option Int → Hp → VK → Prop} {lo hi : Option Int} (h : SlR X r) (q : r x lo hi H Q) : WSl X x lo hi H Q := fun pins s σ v vl vu sl I rx hs pl pu => h pins s σ H x v vl vu lo hi sl Q I rx hs pl pu q
theorem slc_ok (hK : X.K = R.K) (r : RS R as s hs σ H) (ra : RV R as H a x) {l u : Option Int} (h : Pst R W s σ (KV1 R Q) as H (slcV a l u hs)) : WSl X x l u H Q := by
  unfold slcV at h
  split at h
  · unfold RV at ra
    obtain ⟨p, xs, rfl, st, rs⟩ := ra
    refine WSl.of sl_tupA ⟨p, xs, rfl, by rw [hK]; exact st, fun hw => ?_, fun _ q nq => h.tup r (cut_rel rs l u) nq⟩
    have e : cutV xs l u = xs := by
      unfold cutV
      rw [hw.1, hw.2]
      simp
    have := cut_rel rs l u
    rw [e] at this
    refine h.here r ?_
    unfold RV
    exact ⟨p, xs, rfl, st, this⟩
  · unfold RV at ra
    obtain ⟨rfl, g⟩ := ra
    refine WSl.of sl_str ⟨_, rfl, by rw [toS_len]; exact g.1, ?_⟩
    rw [← cut_str]
    exact h.here r (by unfold RV; exact ⟨rfl, g.cut l u⟩)
  · unfold RV at ra
    obtain ⟨p, ep, rfl⟩ := ra
    split at h
    · rename_i vs e1
      obtain ⟨d', xs, f1, f2, f3⟩ := r.h.listAt e1
      rw [ep] at f1; cases f1
      exact WSl.of sl_list ⟨p, xs, rfl, by rw [hK]; exact f2, fun q nq => h.new r nq ⟨_, rfl, cut_rel f3 l u⟩⟩
    · exact h.elim
  · exact h.elim
end
end Kn
namespace Kn
open PySem L2 KnK
def WSet (X : Cx) (o i v : V) (H : Hp) (Q : Hp → Prop) : Prop := ∀ (pins : List (Addr × PySem.Obj)) (s : Shared) (σ : L2.St) (ov iv u : Value), Inv X pins σ H s → RelV o ov → RelV i iv → RelV v u →
    wpAny (model X.prog X.w) X.A (setItem ov iv u) (fun _ s' => ∃ H', Inv X pins σ H' s' ∧ Q H') X.xe s
theorem WSet.r (X : Cx) : PSet X (WSet X) := fun pins s σ H o i v ov iv u Q I ro ri rv h => h pins s σ ov iv u I ro ri rv
theorem WSet.of {X : Cx} {t : TSet} {o i v : V} {H : Hp} {Q : Hp → Prop} (h : PSet X t) (q : t o i v H Q) : WSet X o i v H Q := fun pins s σ ov iv u I ro ri rv => h pins s σ H o i v ov iv u Q I ro ri rv q
section
variable {X : Cx} {R : Rp} {W : WX} {s : St} {σ : L2.St} {as : List Addr} {H : Hp} {hs : Hs} {Q : VK} {a b : Val} {x y : V}
theorem RS.objD {hs : Hs} (r : RS R as s hs σ H) {n : Nat} {kvs : List (Val × Val)} (e : hs[n]? = some (.dict kvs)) : ∃ a l, as[n]? = some a ∧ H a = some (DX R.w a l) ∧ RKv R as H kvs l ∧ (l.map (·.1)).Nodup := by
  obtain ⟨a, u, e1, e2, l, rfl, e3, e4⟩ := r.h.obj n _ e
  exact ⟨a, l, e1, e2, e3, e4⟩
theorem set_ok (hK : X.K = R.K) (hw : X.w = R.w) (hu : X.A.units + 100 < cLine) (r : RS R as s hs σ H) {o i v : Val} {ox ix vx : V} (ro : RV R as H o ox) (ri : RV R as H i ix) (rv : RV R as H v vx) {hs' : Hs} (e : subSet o i v hs = some hs')
    {Q : Hp → Prop} (q : ∀ H', Kp R H H' → RS R as s hs' σ H' → Q H') : WSet X ox ix vx H Q := by
  unfold subSet at e
  split at e
  · rename_i n
    unfold RV at ro
    obtain ⟨d, ed, rfl⟩ := ro
    split at e
    · rename_i vs e1
      split at e
      · rename_i k
        split at e
        · rename_i hz
          cases e
          rw [Bool.and_eq_true] at hz
          have h0 := of_decide_eq_true hz.1
          have h1 : k.toNat < vs.length := Nat.lt_of_succ_le (Nat.le_of_ble_eq_true hz.2)
          unfold RV at ri
          subst ri
          obtain ⟨d', xs, f1, f2, f3⟩ := r.h.list e1
          rw [ed] at f1; cases f1
          have hl := f3.len
          obtain ⟨k1, r1⟩ := r.write (o' := .list (vs.set k.toNat v)) (u' := .lst (xs.set k.toNat vx)) e1 ed f2 trivial ⟨_, rfl, RVs.set rv _ f3⟩
          refine WSet.of set_list ⟨d, xs, k, k.toNat, rfl, rfl, f2, ?_, q _ k1 r1⟩
          unfold ixN
          rw [if_pos h0, if_pos (by omega)]
        · cases e
      · cases e
    · rename_i kvs e1
      split at e
      · rename_i hz
        cases e
        rw [Bool.and_eq_true] at hz
        have hk := hz.1
        have hlt : kvs.length < sizeLine := by rw [sizeLine_eq]; exact Nat.lt_of_succ_le (Nat.le_of_ble_eq_true hz.2)
        obtain ⟨d', l, f1, f2, rk, nd⟩ := r.objD e1
        rw [ed] at f1; cases f1
        intro pins sh σ' ov iv u I q1 q2 q3
        obtain rfl : ov = .ref d := q1
        obtain ⟨l3, dn, p3, hd, hz2⟩ := dx_in hK hw I (I.hok _ _ f2) rk nd
        obtain ⟨l', h1, h2, h3, h4⟩ := put_rel hk ri rv q2 q3 rk p3 nd
        have hlen : l.length = kvs.length := rk.len.symm
        refine setItem_N (by omega) (key_is hK I 6 i ix iv hk ri q2) (isKey_depth hk) dn (fun h' t dn' sb => ?_) (by rw [← P3.len p3]; exact hz2)
        obtain ⟨kp, r1⟩ := r.write (o' := .dict (dPut kvs i v)) (u' := DX R.w d l') e1 ed f2 trivial ⟨l', rfl, h1, h3⟩
        have he : ∃ u, h'.get? d = some u := by
          obtain ⟨o, _, _, ho, _⟩ := dn'
          exact ⟨o, ho⟩
        refine ⟨upd H d (DX R.w d l'), I.write (e := d) (t' := t) (by rw [f2]; trivial) (.inl rfl) (fun b u hb hu => (sb.2 b hb).trans hu) he ?_, q _ kp r1⟩
        rw [← hw]
        exact dx_new dn' h2 hd (by omega)
      · cases e
    · cases e
  · cases e
def WMt (X : Cx) (id : String) (x : V) (xs : List V) (H : Hp) (Q : VK) : Prop := ∀ (pins : List (Addr × PySem.Obj)) (s : Shared) (σ : L2.St) (v : Value) (us : List Value), Inv X pins σ H s → RelV x v → Vals xs us →
    wpAny (model X.prog X.w) X.A (PySem.call (.builtin id) (v :: us)) (EP X pins σ Q) X.xe s
theorem WMt.of {id : String} {r : V → List V → Hp → VK → Prop} {xs : List V} (h : MtR X id r) (q : r x xs H Q) : WMt X id x xs H Q := fun pins s σ v us I rx rs => h pins s σ H x xs v us Q I rx rs q
def TyOk (X : Cx) (x : V) (H : Hp) (T : String) : Prop := ∀ (pins : List (Addr × PySem.Obj)) (s : Shared) (σ : L2.St) (v : Value), Inv X pins σ H s → RelV x v → s.TypeIs v T ∧ ∀ a, v = .ref a → ∃ ob, s.heap.get? a = some ob ∧ ob.dict = none
def kdT : Kd → String
  | .list => "list" | .dict => "dict" | .str => "str" | .tuple => "tuple"
theorem kd_ty (hK : X.K = R.K) (hw : X.w = R.w) (r : RS R as s hs σ H) (ra : RV R as H a x) {k : Kd} (e : kdOf a hs = some k) (ht : k ≠ .tuple) : TyOk X x H (kdT k) := by
  intro pins sh σ' v I rx
  unfold kdOf at e
  split at e
  · cases e
    unfold RV at ra
    obtain ⟨rfl, _⟩ := ra
    exact tyV_is I rx (show tyV X.K "str" _ H from rfl)
  · cases e
    exact absurd rfl ht
  · rename_i n
    unfold RV at ra
    obtain ⟨d, ed, rfl⟩ := ra
    have lst : ∀ vs, listAt hs n = some vs → tyV X.K "list" (.ref d) H := fun vs e1 => by
      obtain ⟨d', xs, f1, f2, f3⟩ := r.h.listAt e1
      rw [ed] at f1; cases f1
      exact .inl ⟨rfl, xs, by rw [hK]; exact f2⟩
    have dic : ∀ kvs, dictAt hs n = some kvs → sh.TypeIs v "dict" ∧ ∀ a, v = .ref a → ∃ ob, sh.heap.get? a = some ob ∧ ob.dict = none := fun kvs e1 => by
      obtain ⟨d', l, f1, rd, rk, nd⟩ := r.h.dictAt e1
      rw [ed] at f1; cases f1
      obtain rfl : v = .ref d := rx
      obtain ⟨⟨_, _, o, es, ep, ho, hc, _⟩, _, _⟩ := rd.ok I.hok
      exact ⟨⟨o, ho, hc.1⟩, fun a ea => by cases ea; exact ⟨o, ho, hc.2.1⟩⟩
    split at e
    · rename_i vs e1; cases e
      exact tyV_is I rx (lst vs (by unfold Kn.listAt; rw [e1]))
    · rename_i vs e1; cases e
      exact tyV_is I rx (lst vs (by unfold Kn.listAt; rw [e1]))
    · rename_i vs e1; cases e
      exact tyV_is I rx (lst vs (by unfold Kn.listAt; rw [e1]))
    · rename_i vs e1; cases e
      exact dic vs (by unfold Kn.dictAt; rw [e1])
    · rename_i vs e1; cases e
      exact dic vs (by unfold Kn.dictAt; rw [e1])
    · cases e
  · cases e
end
end Kn
namespace Kn
open PySem L2 KnK
section
variable {X : Cx} {R : Rp} {W : WX} {s : St} {σ : L2.St} {as : List Addr} {H : Hp} {hs : Hs} {Q : VK} {a b : Val} {x y : V}
/-- list.count of flat things -/
theorem mt_countF : MtR X "list.count" (fun x xs H Q => ∃ (p : Addr) (ys : List V) (y : V), x = .ref p ∧ xs = [y] ∧ SqL X.K H p ys ∧ flatV y = true ∧ ys.all flatV = true ∧ Q (.int (ys.countP fun z => eqV z y : Nat)) H) := by
  intro pins s σ H x xs v us Q I rx rxs h
  obtain ⟨p, ys, y, rfl, rfl, hq, fy, fs, q⟩ := h
  cases rx
  obtain ⟨u, rfl, ry⟩ := Vals.one rxs
  obtain ⟨its, r, ⟨⟨cls, dd, data, sl⟩, n, ho, hc, hd, hs⟩, hz⟩ := I.list hq
  simp only at hc hs
  subst hc hs
  refine call_meets PySem.F.slot_list_count ⟨_, ho, rfl⟩ PySem.F.entry_list_count (PySem.F.args_list_count_2 _ _)
    (SeqAt.list_countAt p its.toArray n dd sl u (eqU y)) ⟨ho, fun w hw => mem_eqAt ry fy r fs w (by simpa using hw), ?_⟩
  have e : ∀ {its : List Value} {ys : List V}, Vals ys its → ys.all flatV = true → its.countP (eqU y) = ys.countP fun z => eqV z y := by
    intro its ys r
    induction r with
    | nil => intro _; rfl
    | cons r1 r2 ih =>
      intro hf
      simp only [List.all_cons, Bool.and_eq_true] at hf
      rw [List.countP_cons, List.countP_cons, ih hf.2]
      have := any_eqU (x := y) (Paired.cons r1 .nil) (by simp [hf.1])
      simp only [List.any_cons, List.any_nil, Bool.or_false] at this
      rw [this]
  exact ⟨.int (ys.countP fun z => eqV z y : Nat), H, I.tok _, ⟨s.toks, by simp [e r fs]⟩, q⟩
theorem cnt_rel {w : Val} {y : V} (g : flat w = true) (k : RV R as H w y) : ∀ {vs : List Val} {xs : List V}, vs.all flat = true → RVs R as H vs xs → (xs.countP fun z => eqV z y) = vs.countP fun v => flatEq v w
  | [], _, _, h => by unfold RVs at h; subst h; rfl
  | v :: r, _, f, h => by
    unfold RVs at h
    obtain ⟨x, t, rfl, h1, h2⟩ := h
    simp only [List.all_cons, Bool.and_eq_true] at f
    rw [List.countP_cons, List.countP_cons, cnt_rel g k f.2 h2, flatEq_rel f.1 g h1 k]
theorem dIdx_spec {d : Dt} : ∀ {ds : List Dt} {k j : Nat}, dIdx d ds k = some j → ∃ i, j = k + i ∧ (∃ z, (pds ds)[i]? = some z ∧ PyData.eqv z (pd d) = true) ∧ ∀ (m : Nat) (z' : PyData), m < i → (pds ds)[m]? = some z' → PyData.eqv z' (pd d) = false
  | [], k, j, e => by simp [dIdx] at e
  | x :: r, k, j, e => by
    unfold dIdx at e
    split at e
    · rename_i h
      cases e
      exact ⟨0, rfl, ⟨pd x, rfl, by rw [pd_eqv]; exact h⟩, fun m z' hm => absurd hm (Nat.not_lt_zero _)⟩
    · rename_i h
      obtain ⟨i, rfl, ⟨z, h1, h2⟩, h3⟩ := dIdx_spec e
      refine ⟨i + 1, by omega, ⟨z, h1, h2⟩, fun m z' hm hz => ?_⟩
      cases m with
      | zero =>
        simp only [pds, List.getElem?_cons_zero, Option.some.injEq] at hz
        subst hz
        rw [pd_eqv]
        simpa using h
      | succ m => exact h3 m z' (by omega) hz
def meId : Kd → Me → String
  | .list, .append => "list.append"
  | .list, .extend => "list.extend"
  | .list, .index => "list.index"
  | .list, .count => "list.count"
  | .dict, .get => "dict.get"
  | .dict, .setdefault => "dict.setdefault"
  | .str, .join => "str.join"
  | .str, .split => "str.split"
  | .str, .index => "str.index"
  | _, _ => ""
def meN : Me → Str
  | .append => "append" | .extend => "extend" | .get => "get" | .setdefault => "setdefault" | .pop => "pop" | .update => "update" | .index => "index" | .count => "count" | .join => "join" | .split => "split" | .remove => "remove"
theorem me_slot {k : Kd} {m : Me} (h : okMe1 k m = true) : k ≠ .tuple ∧ PlainAttrs (kdT k) ∧ Slot (kdT k) (meN m) (meId k m) ∧ typeOf (.builtin (meId k m)) = pure (.type "method_descriptor") := by
  cases k <;> cases m <;> simp [okMe1] at h
  · exact ⟨by simp, F.plainAttrs_list, F.slot_list_append, F.type_list_append⟩
  · exact ⟨by simp, F.plainAttrs_list, F.slot_list_extend, F.type_list_extend⟩
  · exact ⟨by simp, F.plainAttrs_list, F.slot_list_index, F.type_list_index⟩
  · exact ⟨by simp, F.plainAttrs_list, F.slot_list_count, F.type_list_count⟩
  · exact ⟨by simp, F.plainAttrs_dict, F.slot_dict_get, F.type_dict_get⟩
  · exact ⟨by simp, F.plainAttrs_dict, F.slot_dict_setdefault, F.type_dict_setdefault⟩
  · exact ⟨by simp, F.plainAttrs_str, F.slot_str_index, F.type_str_index⟩
  · exact ⟨by simp, F.plainAttrs_str, F.slot_str_join, F.type_str_join⟩
  · exact ⟨by simp, F.plainAttrs_str, F.slot_str_split, F.type_str_split⟩
theorem joinTx_eq (s : Tx) : ∀ ts : List Tx, joinTx s ts = TL.joinL s ts
  | [] => rfl
  | [x] => rfl
  | x :: y :: r => by
    unfold joinTx TL.joinL
    rw [joinTx_eq s (y :: r), List.append_assoc]
theorem joinTx_len (s : Tx) : ∀ ts : List Tx, (joinTx s ts).length ≤ sumLen ts + ts.length * s.length
  | [] => Nat.zero_le _
  | [x] => by simp [joinTx, sumLen]
  | x :: y :: r => by
    have := joinTx_len s (y :: r)
    simp only [joinTx, sumLen, List.length_append, List.length_cons, Nat.succ_mul] at this ⊢
    omega
theorem joinTx_mem (s : Tx) : ∀ (ts : List Tx) (c : Nat), c ∈ joinTx s ts → c ∈ s ∨ ∃ x ∈ ts, c ∈ x
  | [], c, h => by simp [joinTx] at h
  | [x], c, h => .inr ⟨x, by simp, h⟩
  | x :: y :: r, c, h => by
    simp only [joinTx, List.mem_append] at h
    rcases h with (h | h) | h
    · exact .inr ⟨x, by simp, h⟩
    · exact .inl h
    · rcases joinTx_mem s (y :: r) c h with z | ⟨w, z, z2⟩
      · exact .inl z
      · exact .inr ⟨w, List.mem_cons_of_mem _ z, z2⟩
theorem sumLen_eq : ∀ ts : List Tx, sumLen ts = (ts.map (·.length)).sum
  | [] => rfl
  | x :: r => by simp [sumLen, sumLen_eq r]
theorem txs_rel : ∀ {vs : List Val} {xs : List V} {ts : List Tx}, txsOf vs = some ts → RVs R as H vs xs → xs = (ts.map toS).map V.str ∧ ∀ t ∈ ts, Gd t
  | [], _, _, e, h => by cases e; unfold RVs at h; subst h; exact ⟨rfl, fun t h => by cases h⟩
  | v :: r, _, ts, e, h => by
    unfold RVs at h
    obtain ⟨x, l, rfl, h1, h2⟩ := h
    cases v <;> simp only [txsOf] at e <;> first | cases e | skip
    rename_i t
    obtain ⟨ts', e', rfl⟩ := Option.map_eq_some_iff.mp e
    obtain ⟨rfl, g⟩ := txs_rel e' h2
    unfold RV at h1
    obtain ⟨rfl, g1⟩ := h1
    exact ⟨rfl, fun y hy => by
      rcases List.mem_cons.mp hy with rfl | z
      · exact g1
      · exact g y z⟩
theorem splitTx_ne (c : Nat) : ∀ s : Tx, splitTx c s ≠ []
  | [] => by simp [splitTx]
  | x :: r => by
    unfold splitTx
    split
    · simp
    · split <;> simp
theorem spl_one {c : Nat} : ∀ (s acc : Tx), TL.spl [c] 0 acc s = (match splitTx c s with | x :: t => (acc ++ x) :: t | [] => [])
  | [], acc => by simp [TL.spl, splitTx]
  | x :: r, acc => by
    unfold splitTx
    by_cases h : x = c
    · subst h
      rw [if_pos (Nat.beq_refl x), TL.spl_hit (by simp [TL.pre])]
      have := spl_one (c := x) r []
      cases e : splitTx x r with
      | nil => exact absurd e (splitTx_ne x r)
      | cons y t => rw [e] at this; simp only [List.nil_append] at this; simp [this]
    · rw [if_neg (by intro z; exact h (Nat.eq_of_beq_eq_true z))]
      have hp : TL.pre [c] (x :: r) = false := by simp [TL.pre, h]
      have : TL.spl [c] 0 acc (x :: r) = TL.spl [c] 0 (acc ++ [x]) r := by
        show (if TL.pre [c] (x :: r) = true then _ else _) = _
        rw [hp]; rfl
      rw [this, spl_one r (acc ++ [x])]
      cases e : splitTx c r with
      | nil => exact absurd e (splitTx_ne c r)
      | cons y t => simp
theorem splitTx_mem {c : Nat} : ∀ (s t : Tx), t ∈ splitTx c s → t.length ≤ s.length ∧ ∀ d ∈ t, d ∈ s
  | [], t, h => by
    simp [splitTx] at h
    subst h
    exact ⟨Nat.le_refl _, fun d hd => hd⟩
  | x :: r, t, h => by
    unfold splitTx at h
    split at h
    · rcases List.mem_cons.mp h with rfl | h
      · exact ⟨Nat.zero_le _, fun d hd => by cases hd⟩
      · obtain ⟨h1, h2⟩ := splitTx_mem r t h
        exact ⟨by simp; omega, fun d hd => List.mem_cons_of_mem _ (h2 d hd)⟩
    · split at h
      · rename_i y q e
        rcases List.mem_cons.mp h with rfl | h
        · obtain ⟨h1, h2⟩ := splitTx_mem r y (by rw [e]; simp)
          refine ⟨by simp; omega, fun d hd => ?_⟩
          rcases List.mem_cons.mp hd with rfl | z
          · simp
          · exact List.mem_cons_of_mem _ (h2 d z)
        · obtain ⟨h1, h2⟩ := splitTx_mem r t (by rw [e]; exact List.mem_cons_of_mem _ h)
          exact ⟨by simp; omega, fun d hd => List.mem_cons_of_mem _ (h2 d hd)⟩
      · rename_i e
        exact absurd e (splitTx_ne c r)
theorem strs_rel : ∀ {ts : List Tx}, (∀ t ∈ ts, Gd t) → RVs R as H (ts.map Val.str) ((ts.map toS).map V.str)
  | [], _ => RVs.nil
  | t :: r, h => RVs.cons (by unfold RV; exact ⟨rfl, h t (by simp)⟩) (strs_rel fun x hx => h x (List.mem_cons_of_mem _ hx))
theorem fmsd_at {c j : Nat} (h : txIdx c [102, 109, 115, 100] 0 = some j) : ∃ rest, Builtin.Str.occurrences (toS [102, 109, 115, 100]) (toS [c]) 0 (toS [102, 109, 115, 100]).length 1 = j :: rest := by
  simp only [txIdx] at h
  split at h
  · rename_i e; obtain rfl := Nat.eq_of_beq_eq_true e; cases h; exact ⟨[], by decide +kernel⟩
  · split at h
    · rename_i e; obtain rfl := Nat.eq_of_beq_eq_true e; cases h; exact ⟨[], by decide +kernel⟩
    · split at h
      · rename_i e; obtain rfl := Nat.eq_of_beq_eq_true e; cases h; exact ⟨[], by decide +kernel⟩
      · split at h
        · rename_i e; obtain rfl := Nat.eq_of_beq_eq_true e; cases h; exact ⟨[], by decide +kernel⟩
        · cases h
/-- d.get -/
theorem get_ok (hK : X.K = R.K) (hw : X.w = R.w) (hu : X.A.units + 100 < cLine) (r : RS R as s hs σ H) {n : Nat} {kvs : List (Val × Val)} (e : dictAt hs n = some kvs) {d : Addr} (ed : as[n]? = some d) {k : Val} {kx : V} (hk : isKey k = true) (rk : RV R as H k kx)
    (q : ∀ z, RV R as H ((dGet kvs k).getD .non) z → Q z H) : WMt X "dict.get" (.ref d) [kx] H Q := by
  intro pins sh σ' v us I rx rs
  obtain rfl : v = .ref d := rx
  obtain ⟨u, rfl, ru⟩ := Vals.one rs
  obtain ⟨d', l, e1, rd, rkv, nd⟩ := r.h.dictAt e
  rw [ed] at e1; cases e1
  obtain ⟨l3, dn, p3, hd, hz⟩ := dx_in hK hw I (rd.ok I.hok) rkv nd
  have g := get_rel hk rkv p3
  refine get1_N (by omega) (key_is hK I 6 k kx u hk rk ru) (isKey_depth hk) hd dn fun t => ?_
  cases e : dGet kvs k with
  | none => rw [g.2 e]; exact ⟨.non, H, I.tok t, rfl, q .non (by rw [e]; unfold RV; rfl)⟩
  | some w =>
    obtain ⟨z, uz, e2, e3, e4⟩ := g.1 w e
    rw [e2]
    exact ⟨z, H, I.tok t, e3, q z (by rw [e]; exact e4)⟩
theorem get2_ok (hK : X.K = R.K) (hw : X.w = R.w) (hu : X.A.units + 100 < cLine) (r : RS R as s hs σ H) {n : Nat} {kvs : List (Val × Val)} (e : dictAt hs n = some kvs) {d : Addr} (ed : as[n]? = some d) {k dv : Val} {kx dx : V} (hk : isKey k = true) (rk : RV R as H k kx) (rdv : RV R as H dv dx)
    (q : ∀ z, RV R as H ((dGet kvs k).getD dv) z → Q z H) : WMt X "dict.get" (.ref d) [kx, dx] H Q := by
  intro pins sh σ' v us I rx rs
  obtain rfl : v = .ref d := rx
  obtain ⟨u, u2, rfl, ru, ru2⟩ := Vals.two rs
  obtain ⟨d', l, e1, rd, rkv, nd⟩ := r.h.dictAt e
  rw [ed] at e1; cases e1
  obtain ⟨l3, dn, p3, hd, hz⟩ := dx_in hK hw I (rd.ok I.hok) rkv nd
  have g := get_rel hk rkv p3
  refine get2_N (by omega) (key_is hK I 6 k kx u hk rk ru) (isKey_depth hk) hd dn fun t => ?_
  cases e : dGet kvs k with
  | none => rw [g.2 e]; exact ⟨dx, H, I.tok t, ru2, q dx (by rw [e]; exact rdv)⟩
  | some w =>
    obtain ⟨z, uz, e2, e3, e4⟩ := g.1 w e
    rw [e2]
    exact ⟨z, H, I.tok t, e3, q z (by rw [e]; exact e4)⟩
theorem setdefault_call {d : Addr} {l : L3} {k : NestedKey} {u v : Value} {A : Around} {E : Value → Shared → Prop} {sh : Shared} {prog : Program} {w : World} {Q : Value → Shared → Prop} (hu : A.units + 9 < cLine) (hkey : NestedIs sh.heap k u) (hkd : k.depth ≤ 8) (hd : (d == sysModules) = false) (hm : DictN w sh.heap d l)
    (h1 : ∀ x t, lkN l k = some x → Q x { sh with toks := t }) (h2 : lkN l k = none → ∀ h' t, DictN w h' d (putN l k u v) → Heap.SameBut d sh.heap h' → Q v { sh with heap := h', toks := t }) (hsz : l.length ≤ sizeLine) :
    wpAny (model prog w) A (PySem.call (.builtin "dict.setdefault") [.ref d, u, v]) Q E sh := by
  refine call_meetsIn F.slot_dict_setdefault hm.typeIs F.entry_dict_setdefault (F.args_dict_setdefault_3 _ _ _)
    (S := fun A' R s' => A' = A ∧ s' = sh ∧ (∀ x t, lkN l k = some x → R (.ok (.ret x)) { sh with toks := t }) ∧ (lkN l k = none → ∀ h' t, DictN w h' d (putN l k u v) → Heap.SameBut d sh.heap h' → R (.ok (.ret v)) { sh with heap := h', toks := t })) (.of_wp fun A' R s' hS => ?_) ⟨rfl, rfl, h1, h2⟩
  obtain ⟨rfl, rfl, g1, g2⟩ := hS
  unfold Builtin.«dict.setdefault»
  refine wpAny_bind ?_
  unfold Builtin.Dict.keyAndDefault
  refine wpAny_bind (wpAny_notOrdered_dict hm.typeIs ?_)
  show wpAny _ _ (pure (d, u, some v)) _ _ _
  refine wpAny_pure ?_
  show wpAny _ _ (if (d == sysModules) = true then _ else (dictSetDefault d u v >>= _)) _ _ _
  rw [if_neg (by rw [hd]; exact Bool.false_ne_true)]
  exact wpAny_bind (setdefault_N (hsz := hsz) (show A'.in1.units + 8 < cLine by show A'.units + 1 + 8 < cLine; omega) hkey hkd hm (fun x t hx => wpAny_pure ⟨x, rfl, g1 x t hx⟩) fun hn h' t hm' hs' => wpAny_pure ⟨v, rfl, g2 hn h' t hm' hs'⟩)
def kdO : Obj → Option Kd
  | .list _ => some .list
  | .frz (.list _) => some .list
  | .lck _ => some .list
  | .dict _ => some .dict
  | .frz (.dict _) => some .dict
  | _ => none
theorem kdOf_ref {hs : Hs} {n : Nat} {o : Obj} (e : hs[n]? = some o) : kdOf (.ref n) hs = kdO o := by
  unfold kdOf
  simp only [e]
  cases o with
  | list _ => rfl
  | dict _ => rfl
  | inst _ _ => rfl
  | frz o => cases o <;> rfl
  | lck _ => rfl
theorem me_ok (hK : X.K = R.K) (hw : X.w = R.w) (hu : X.A.units + 100 < cLine) (r : RS R as s hs σ H) {m : Me} {k : Kd} {o : Val} {ox : V} (ok : okMe1 k m = true) (ro : RV R as H o ox) {vs : List Val} {xs : List V} (rs : RVs R as H vs xs)
    (h : Pst R W s σ (KV1 R Q) as H (meK k m o vs hs)) : WMt X (meId k m) ox xs H Q := by
  unfold meK at h
  split at h
  rotate_left
  · exact h.elim
  rename_i hkd
  unfold meV at h
  split at h
  · rename_i n
    unfold RV at ro
    obtain ⟨d, ed, rfl⟩ := ro
    split at h
    · rename_i ws e1
      have hk : k = .list := by
        have ek := kdOf_ref e1
        unfold isKd at hkd
        rw [ek] at hkd
        simp only [kdO] at hkd
        cases k <;> simp at hkd ⊢
      subst hk
      obtain ⟨d', ys, f1, f2, f3⟩ := r.h.list e1
      rw [ed] at f1; cases f1
      split at h
      · rename_i v
        unfold RVs at rs
        obtain ⟨z, t, rfl, r1, r2⟩ := rs
        unfold RVs at r2
        subst r2
        split at h
        · rename_i hz
          have hz : ws.length < sizeLine := by rw [sizeLine_eq]; exact Nat.lt_of_succ_le (Nat.le_of_ble_eq_true hz)
          obtain ⟨kp, rr⟩ := r.write (o' := .list (ws ++ [v])) (u' := .lst (ys ++ [z])) e1 ed f2 trivial ⟨_, rfl, f3.append (RVs.one r1)⟩
          exact WMt.of mt_append ⟨d, ys, z, rfl, rfl, f2, by rw [← f3.len]; exact hz, h as _ PfxA.refl kp rr _ (by unfold RV; rfl)⟩
        · exact h.elim
      · rename_i kk
        unfold RVs at rs
        obtain ⟨z, t, rfl, r1, r2⟩ := rs
        unfold RVs at r2
        subst r2
        unfold RV at r1
        obtain ⟨d2, ed2, rfl⟩ := r1
        split at h
        · rename_i zs e2
          obtain ⟨d'', qs, g1, g2, g3⟩ := r.h.list e2
          rw [ed2] at g1; cases g1
          split at h
          · rename_i hz
            rw [Bool.and_eq_true] at hz
            have hz := small_le hz.1
            obtain ⟨kp, rr⟩ := r.write (o' := .list (ws ++ zs)) (u' := .lst (ys ++ qs)) e1 ed f2 trivial ⟨_, rfl, f3.append g3⟩
            exact WMt.of mt_extend ⟨d, d2, ys, qs, rfl, rfl, f2, g2, by rw [← f3.len, ← g3.len]; exact hz, h as _ PfxA.refl kp rr _ (by unfold RV; rfl)⟩
          · exact h.elim
        · exact h.elim
      · simp [okMe1] at ok
      · simp [okMe1] at ok
      · rename_i v
        unfold RVs at rs
        obtain ⟨z, t, rfl, r1, r2⟩ := rs
        unfold RVs at r2
        subst r2
        obtain ⟨j0, ej0, h⟩ := h.opt
        obtain ⟨j, ej, rfl⟩ := Option.map_eq_some_iff.mp ej0
        unfold idxOf at ej
        split at ej
        · rename_i ds dd g1 g2
          have mr := mapO_rel (P := dOk 7) (fun v d x => deep_rel r.h 7 v d x) ws ds ys g1 f3
          have dd' := deep_rel r.h 7 v dd z g2 r1
          have hl : dOk 8 (.lst ds) := by unfold dOk; exact ⟨7, rfl, dsOk.of mr.2⟩
          have sl : SeqAt.shaped (.list (pds ds)) = true := shaped_of (d := .lst ds) hl (by decide)
          obtain ⟨i, ei, ⟨zz, i1, i2⟩, i3⟩ := dIdx_spec ej
          refine WMt.of (mt_indexD (by omega)) ⟨d, z, pd dd, pds ds, i, zz, rfl, rfl, by rw [hK]; exact .lst (.inl (.inl f2)) mr.1, by rw [hK]; exact dd'.1, sl, shaped_of dd'.2 (by decide), i1, i2, i3, h.here r ?_⟩
          unfold RV
          rw [ei]; simp
        · cases ej
      · rename_i v
        unfold RVs at rs
        obtain ⟨z, t, rfl, r1, r2⟩ := rs
        unfold RVs at r2
        subst r2
        obtain ⟨j0, ej0, h⟩ := h.opt
        obtain ⟨j, ej, rfl⟩ := Option.map_eq_some_iff.mp ej0
        unfold cntOf at ej
        split at ej
        · rename_i hf
          cases ej
          rw [Bool.and_eq_true] at hf
          have fa := flat_any hf.1 r1 hf.2 f3
          refine WMt.of mt_countF ⟨d, ys, z, rfl, rfl, by rw [hK]; exact .inl (.inl f2), RV.flat hf.1 r1, fa.2, ?_⟩
          rw [cnt_rel hf.1 r1 hf.2 f3]
          exact h.here r (by unfold RV; rfl)
        · cases ej
      · simp [okMe1] at ok
      · exact h.elim
    · rename_i kvs e1
      have hk : k = .dict := by
        have ek := kdOf_ref e1
        unfold isKd at hkd
        rw [ek] at hkd
        simp only [kdO] at hkd
        cases k <;> simp at hkd ⊢
      subst hk
      have e1' : dictAt hs n = some kvs := by unfold Kn.dictAt; rw [e1]
      split at h
      · rename_i kk
        unfold RVs at rs
        obtain ⟨z, t, rfl, r1, r2⟩ := rs
        unfold RVs at r2
        subst r2
        split at h
        · rename_i hk
          exact get_ok hK hw hu r e1' ed hk r1 fun z hz => h.here r hz
        · exact h.elim
      · rename_i kk dv
        unfold RVs at rs
        obtain ⟨z, t, rfl, r1, r2⟩ := rs
        unfold RVs at r2
        obtain ⟨z2, t2, rfl, r3, r4⟩ := r2
        unfold RVs at r4
        subst r4
        split at h
        · rename_i hk
          exact get2_ok hK hw hu r e1' ed hk r1 r3 fun z hz => h.here r hz
        · exact h.elim
      · rename_i kk dv
        unfold RVs at rs
        obtain ⟨z, t, rfl, r1, r2⟩ := rs
        unfold RVs at r2
        obtain ⟨z2, t2, rfl, r3, r4⟩ := r2
        unfold RVs at r4
        subst r4
        split at h
        · rename_i hz
          rw [Bool.and_eq_true] at hz
          have hk := hz.1
          have hlt : kvs.length < sizeLine := by rw [sizeLine_eq]; exact Nat.lt_of_succ_le (Nat.le_of_ble_eq_true hz.2)
          obtain ⟨d', l, f1, f2, rk, nd⟩ := r.objD e1
          rw [ed] at f1; cases f1
          intro pins sh σ' v us I q1 q2
          obtain rfl : v = .ref d := q1
          obtain ⟨u, u2, rfl, ru, ru2⟩ := Vals.two q2
          obtain ⟨l3, dn, p3, hd, hz2⟩ := dx_in hK hw I (I.hok _ _ f2) rk nd
          have g := get_rel hk rk p3
          refine setdefault_call (by omega) (key_is hK I 6 kk z u hk r1 ru) (isKey_depth hk) hd dn (fun x t ex => ?_) (fun en h' t dn' sb => ?_) (by rw [← P3.len p3]; exact hz2)
          · cases e : dGet kvs kk with
            | none => rw [g.2 e] at ex; cases ex
            | some w =>
              obtain ⟨zz, uz, e2, e3, e4⟩ := g.1 w e
              rw [e2] at ex; cases ex
              rw [e] at h
              exact ⟨zz, H, I.tok t, e3, h.here r e4⟩
          · cases e : dGet kvs kk with
            | some w =>
              obtain ⟨zz, uz, e2, e3, e4⟩ := g.1 w e
              rw [e2] at en; cases en
            | none =>
              rw [e] at h
              obtain ⟨l', h1, h2, h3, h4⟩ := put_rel hk r1 r3 ru ru2 rk p3 nd
              rw [dPut_new e] at h1
              have hlen : l.length = kvs.length := rk.len.symm
              obtain ⟨kp, rr⟩ := r.write (o' := .dict (kvs ++ [(kk, dv)])) (u' := DX R.w d l') e1 ed f2 trivial ⟨l', rfl, h1, h3⟩
              have he : ∃ u, h'.get? d = some u := by
                obtain ⟨o, _, _, ho, _⟩ := dn'
                exact ⟨o, ho⟩
              refine ⟨z2, upd H d (DX R.w d l'), I.write (e := d) (t' := t) (by rw [f2]; trivial) (.inl rfl) (fun b u hb hu => (sb.2 b hb).trans hu) he ?_, ru2, h as _ PfxA.refl kp rr _ (RV.mono PfxA.refl kp _ _ r3)⟩
              rw [← hw]
              exact dx_new dn' h2 hd (by omega)
        · exact h.elim
      · simp [okMe1] at ok
      · simp [okMe1] at ok
      · exact h.elim
    · rename_i ws e1
      have hk : k = .list := by
        have ek := kdOf_ref e1
        unfold isKd at hkd
        rw [ek] at hkd
        simp only [kdO] at hkd
        cases k <;> simp at hkd ⊢
      subst hk
      obtain ⟨d', ys, f1, f2, f3⟩ := r.h.listAt (show listAt hs n = some ws by unfold Kn.listAt; rw [e1])
      rw [ed] at f1; cases f1
      split at h
      · rename_i v
        unfold RVs at rs
        obtain ⟨z, t, rfl, r1, r2⟩ := rs
        unfold RVs at r2
        subst r2
        obtain ⟨j0, ej0, h⟩ := h.opt
        obtain ⟨j, ej, rfl⟩ := Option.map_eq_some_iff.mp ej0
        unfold idxOf at ej
        split at ej
        · rename_i ds dd g1 g2
          have mr := mapO_rel (P := dOk 7) (fun v d x => deep_rel r.h 7 v d x) ws ds ys g1 f3
          have dd' := deep_rel r.h 7 v dd z g2 r1
          have hl : dOk 8 (.lst ds) := by unfold dOk; exact ⟨7, rfl, dsOk.of mr.2⟩
          have sl : SeqAt.shaped (.list (pds ds)) = true := shaped_of (d := .lst ds) hl (by decide)
          obtain ⟨i, ei, ⟨zz, i1, i2⟩, i3⟩ := dIdx_spec ej
          refine WMt.of (mt_indexD (by omega)) ⟨d, z, pd dd, pds ds, i, zz, rfl, rfl, by rw [hK]; exact .lst f2 mr.1, by rw [hK]; exact dd'.1, sl, shaped_of dd'.2 (by decide), i1, i2, i3, h.here r ?_⟩
          unfold RV
          rw [ei]; simp
        · cases ej
      · rename_i v
        unfold RVs at rs
        obtain ⟨z, t, rfl, r1, r2⟩ := rs
        unfold RVs at r2
        subst r2
        obtain ⟨j0, ej0, h⟩ := h.opt
        obtain ⟨j, ej, rfl⟩ := Option.map_eq_some_iff.mp ej0
        unfold cntOf at ej
        split at ej
        · rename_i hf
          cases ej
          rw [Bool.and_eq_true] at hf
          have fa := flat_any hf.1 r1 hf.2 f3
          refine WMt.of mt_countF ⟨d, ys, z, rfl, rfl, by rw [hK]; exact f2, RV.flat hf.1 r1, fa.2, ?_⟩
          rw [cnt_rel hf.1 r1 hf.2 f3]
          exact h.here r (by unfold RV; rfl)
        · cases ej
      · exact h.elim
    · rename_i ws e1
      have hk : k = .list := by
        have ek := kdOf_ref e1
        unfold isKd at hkd
        rw [ek] at hkd
        simp only [kdO] at hkd
        cases k <;> simp at hkd ⊢
      subst hk
      obtain ⟨d', ys, f1, f2, f3⟩ := r.h.listAt (show listAt hs n = some ws by unfold Kn.listAt; rw [e1])
      rw [ed] at f1; cases f1
      split at h
      · rename_i v
        unfold RVs at rs
        obtain ⟨z, t, rfl, r1, r2⟩ := rs
        unfold RVs at r2
        subst r2
        obtain ⟨j0, ej0, h⟩ := h.opt
        obtain ⟨j, ej, rfl⟩ := Option.map_eq_some_iff.mp ej0
        unfold idxOf at ej
        split at ej
        · rename_i ds dd g1 g2
          have mr := mapO_rel (P := dOk 7) (fun v d x => deep_rel r.h 7 v d x) ws ds ys g1 f3
          have dd' := deep_rel r.h 7 v dd z g2 r1
          have hl : dOk 8 (.lst ds) := by unfold dOk; exact ⟨7, rfl, dsOk.of mr.2⟩
          have sl : SeqAt.shaped (.list (pds ds)) = true := shaped_of (d := .lst ds) hl (by decide)
          obtain ⟨i, ei, ⟨zz, i1, i2⟩, i3⟩ := dIdx_spec ej
          refine WMt.of (mt_indexD (by omega)) ⟨d, z, pd dd, pds ds, i, zz, rfl, rfl, by rw [hK]; exact .lst f2 mr.1, by rw [hK]; exact dd'.1, sl, shaped_of dd'.2 (by decide), i1, i2, i3, h.here r ?_⟩
          unfold RV
          rw [ei]; simp
        · cases ej
      · rename_i v
        unfold RVs at rs
        obtain ⟨z, t, rfl, r1, r2⟩ := rs
        unfold RVs at r2
        subst r2
        obtain ⟨j0, ej0, h⟩ := h.opt
        obtain ⟨j, ej, rfl⟩ := Option.map_eq_some_iff.mp ej0
        unfold cntOf at ej
        split at ej
        · rename_i hf
          cases ej
          rw [Bool.and_eq_true] at hf
          have fa := flat_any hf.1 r1 hf.2 f3
          refine WMt.of mt_countF ⟨d, ys, z, rfl, rfl, by rw [hK]; exact f2, RV.flat hf.1 r1, fa.2, ?_⟩
          rw [cnt_rel hf.1 r1 hf.2 f3]
          exact h.here r (by unfold RV; rfl)
        · cases ej
      · exact h.elim
    · rename_i kvs e1
      have hk : k = .dict := by
        have ek := kdOf_ref e1
        unfold isKd at hkd
        rw [ek] at hkd
        simp only [kdO] at hkd
        cases k <;> simp at hkd ⊢
      subst hk
      have e1' : dictAt hs n = some kvs := by unfold Kn.dictAt; rw [e1]
      split at h
      · rename_i kk
        unfold RVs at rs
        obtain ⟨z, t, rfl, r1, r2⟩ := rs
        unfold RVs at r2
        subst r2
        split at h
        · rename_i hk
          exact get_ok hK hw hu r e1' ed hk r1 fun z hz => h.here r hz
        · exact h.elim
      · rename_i kk dv
        unfold RVs at rs
        obtain ⟨z, t, rfl, r1, r2⟩ := rs
        unfold RVs at r2
        obtain ⟨z2, t2, rfl, r3, r4⟩ := r2
        unfold RVs at r4
        subst r4
        split at h
        · rename_i hk
          exact get2_ok hK hw hu r e1' ed hk r1 r3 fun z hz => h.here r hz
        · exact h.elim
      · exact h.elim
    · exact h.elim
  · exfalso
    unfold isKd kdOf at hkd
    cases k <;> cases m <;> simp [okMe1] at ok hkd
  · rename_i t
    have hk : k = .str := by
      unfold isKd kdOf at hkd
      cases k <;> simp at hkd ⊢
    subst hk
    unfold RV at ro
    obtain ⟨rfl, g⟩ := ro
    split at h
    · rename_i c
      unfold RVs at rs
      obtain ⟨z, l, rfl, r1, r2⟩ := rs
      unfold RVs at r2
      subst r2
      unfold RV at r1
      obtain ⟨rfl, _⟩ := r1
      split at h
      · rename_i et
        obtain rfl := txEq_iff.mp et
        obtain ⟨j0, ej0, h⟩ := h.opt
        obtain ⟨j, ej, rfl⟩ := Option.map_eq_some_iff.mp ej0
        obtain ⟨rest, eo⟩ := fmsd_at ej
        exact WMt.of mt_sindex ⟨_, _, j, rest, rfl, rfl, eo, h.here r (by unfold RV; rfl)⟩
      · exact h.elim
    · rename_i n
      unfold RVs at rs
      obtain ⟨z, l, rfl, r1, r2⟩ := rs
      unfold RVs at r2
      subst r2
      unfold RV at r1
      obtain ⟨d, ed, rfl⟩ := r1
      split at h
      · rename_i vs e1
        obtain ⟨d', ys, f1, f2, f3⟩ := r.h.listAt e1
        rw [ed] at f1; cases f1
        split at h
        · rename_i ts et
          obtain ⟨rfl, gs⟩ := txs_rel et f3
          split at h
          · rename_i hz
            have hz := small_le hz
            refine WMt.of mt_join ⟨_, d, ts.map toS, rfl, rfl, .inl (by rw [hK]; exact f2), ?_, ?_⟩
            · have : ((ts.map toS).map (·.length)).sum = sumLen ts := by rw [SX.lens, sumLen_eq]
              rw [this, List.length_map, toS_len]
              rw [sizeLine_eq] at hz
              exact hz
            · have ej : Txt.join (toS t) (ts.map toS) = toS (joinTx t ts) := by rw [joinTx_eq]; exact SX.join_S t ts
              rw [ej]
              refine h.here r ?_
              unfold RV
              refine ⟨rfl, Nat.le_trans (joinTx_len t ts) hz, fun c hc => ?_⟩
              rcases joinTx_mem t ts c hc with q | ⟨y, q1, q2⟩
              · exact g.2 c q
              · exact (gs y q1).2 c q2
          · exact h.elim
        · exact h.elim
      · exact h.elim
    · rename_i c
      unfold RVs at rs
      obtain ⟨z, l, rfl, r1, r2⟩ := rs
      unfold RVs at r2
      subst r2
      unfold RV at r1
      obtain ⟨rfl, _⟩ := r1
      split at h
      · rename_i hz
        rw [Bool.and_eq_true] at hz
        have hc : c < 256 := Nat.lt_of_succ_le (Nat.le_of_ble_eq_true hz.2)
        have hz := small_le hz.1
        refine WMt.of mt_split ⟨_, _, rfl, rfl, by rfl, by rw [toS_len]; exact hz, fun p np => ?_⟩
        have es : Txt.split (toS t) (toS [c]) = (splitTx c t).map toS := by
          have := SX.split_S (a := t) (b := [c]) (by simp) (by simp [hc])
          rw [spl_one] at this
          cases e : splitTx c t with
          | nil => exact absurd e (splitTx_ne c t)
          | cons y q => rw [e] at this; simpa using this
        rw [es]
        refine h.new r np ⟨_, rfl, strs_rel fun y hy => ?_⟩
        obtain ⟨q1, q2⟩ := splitTx_mem t y hy
        exact ⟨Nat.le_trans q1 g.1, fun d hd => g.2 d (q2 d hd)⟩
      · exact h.elim
    · exact h.elim
  · exact h.elim
end
end Kn
namespace Kn
open PySem L2 KnK
def WCa (X : Cx) (f : Value) (xs : List V) (H : Hp) (Q : VK) : Prop := ∀ (pins : List (Addr × PySem.Obj)) (s : Shared) (σ : L2.St) (us : List Value), Inv X pins σ H s → Vals xs us → wpAny (model X.prog X.w) X.A (PySem.call f us) (EP X pins σ Q) X.xe s
theorem WCa.r (X : Cx) (f : Value) : CallR X f (WCa X f) := fun pins s σ H xs us Q I rs h => h pins s σ us I rs
theorem WCa.of {X : Cx} {f : Value} {r : List V → Hp → VK → Prop} {xs : List V} {H : Hp} {Q : VK} (h : CallR X f r) (q : r xs H Q) : WCa X f xs H Q := fun pins s σ us I rs => h pins s σ H xs us Q I rs q
/-- the built-in as a value -/
def biF : Bi → Value
  | .len => .builtin "len" | .all => .builtin "all" | .any => .builtin "any" | .sum => .builtin "sum" | .tuple => .type "tuple" | .list => .type "list" | .divmod => .builtin "divmod" | .str => .type "str" | .int => .type "int"
  | _ => .none
def biN : Bi → Str
  | .len => "len" | .all => "all" | .any => "any" | .sum => "sum" | .tuple => "tuple" | .list => "list" | .divmod => "divmod" | .str => "str" | .int => "int"
  | _ => ""
/-- served -/
def okBi : Bi → Bool
  | .len => true | .all => true | .any => true | .sum => true | .tuple => true | .list => true | .divmod => true | .str => true | .int => true
  | _ => false
section
variable {X : Cx} {R : Rp} {W : WX} {s : St} {σ : L2.St} {as : List Addr} {H : Hp} {hs : Hs} {Q : VK} {a b : Val} {x y : V}
theorem bls : ∀ {vs : List Val} {xs : List V} {t : Bool}, allB vs = some t → RVs R as H vs xs → ∃ bs : List Bool, xs = bs.map V.bl ∧ bs.all id = t
  | [], _, _, e, h => by unfold RVs at h; subst h; cases e; exact ⟨[], rfl, rfl⟩
  | v :: r, _, t, e, h => by
    unfold RVs at h
    obtain ⟨x, l, rfl, h1, h2⟩ := h
    cases v <;> simp only [allB] at e <;> first | cases e | skip
    rename_i b
    obtain ⟨t', e', rfl⟩ := Option.map_eq_some_iff.mp e
    obtain ⟨bs, rfl, rfl⟩ := bls e' h2
    unfold RV at h1; subst h1
    exact ⟨b :: bs, rfl, rfl⟩
theorem blsA : ∀ {vs : List Val} {xs : List V} {t : Bool}, anyB vs = some t → RVs R as H vs xs → ∃ bs : List Bool, xs = bs.map V.bl ∧ bs.any id = t
  | [], _, _, e, h => by unfold RVs at h; subst h; cases e; exact ⟨[], rfl, rfl⟩
  | v :: r, _, t, e, h => by
    unfold RVs at h
    obtain ⟨x, l, rfl, h1, h2⟩ := h
    cases v <;> simp only [anyB] at e <;> first | cases e | skip
    rename_i b
    obtain ⟨t', e', rfl⟩ := Option.map_eq_some_iff.mp e
    obtain ⟨bs, rfl, rfl⟩ := blsA e' h2
    unfold RV at h1; subst h1
    exact ⟨b :: bs, rfl, rfl⟩
theorem intsS : ∀ {vs : List Val} {xs : List V} {t : Int}, sumI vs = some t → RVs R as H vs xs → ∃ bs : List Int, xs = bs.map V.int ∧ bs.sum = t
  | [], _, _, e, h => by unfold RVs at h; subst h; cases e; exact ⟨[], rfl, rfl⟩
  | v :: r, _, t, e, h => by
    unfold RVs at h
    obtain ⟨x, l, rfl, h1, h2⟩ := h
    cases v <;> simp only [sumI] at e <;> first | cases e | skip
    rename_i b
    obtain ⟨t', e', rfl⟩ := Option.map_eq_some_iff.mp e
    obtain ⟨bs, rfl, rfl⟩ := intsS e' h2
    unfold RV at h1; subst h1
    exact ⟨b :: bs, rfl, rfl⟩
theorem bi_ok (hc : X.calm = true) (hK : X.K = R.K) (hw : X.w = R.w) (hu : X.A.units + 100 < cLine) (r : RS R as s hs σ H) {m : Bi} (ok : okBi m = true) {vs : List Val} {xs : List V} (rs : RVs R as H vs xs)
    (h : Pst R W s σ (KV1 R Q) as H (biV m vs hs)) : WCa X (biF m) xs H Q := by
  have one : ∀ {v : Val} {xs : List V}, RVs R as H [v] xs → ∃ z, xs = [z] ∧ RV R as H v z := fun rs => by
    unfold RVs at rs
    obtain ⟨z, t, rfl, r1, r2⟩ := rs
    unfold RVs at r2
    subst r2
    exact ⟨z, rfl, r1⟩
  unfold biV at h
  split at h
  · obtain ⟨z, rfl, r1⟩ := one rs
    unfold RV at r1
    obtain ⟨rfl, g⟩ := r1
    refine WCa.of call_len_str ⟨_, rfl, by rw [toS_len]; exact g.1, ?_⟩
    rw [toS_len]
    exact h.here r (by unfold RV; rfl)
  · obtain ⟨z, rfl, r1⟩ := one rs
    unfold RV at r1
    obtain ⟨p, ys, rfl, st, rs'⟩ := r1
    refine WCa.of call_len_seq ⟨p, ys, rfl, .inr (by rw [hK]; exact st), ?_⟩
    rw [← rs'.len]
    exact h.here r (by unfold RV; rfl)
  · obtain ⟨z, rfl, r1⟩ := one rs
    unfold RV at r1
    obtain ⟨p, ep, rfl⟩ := r1
    split at h
    · rename_i ws e1
      obtain ⟨d', ys, f1, f2, f3⟩ := r.h.listAt e1
      rw [ep] at f1; cases f1
      refine WCa.of call_len_seq ⟨p, ys, rfl, .inl (by rw [hK]; exact f2), ?_⟩
      rw [← f3.len]
      exact h.here r (by unfold RV; rfl)
    · split at h
      · rename_i kvs e1
        obtain ⟨d', l, f1, rd, rk, nd⟩ := r.h.dictAt e1
        rw [ep] at f1; cases f1
        intro pins sh σ' us I rs'
        obtain ⟨u, rfl, ru⟩ := vals1 rs'
        obtain rfl : u = .ref p := ru
        have ok := rd.ok I.hok
        obtain ⟨⟨h2, h3, o, es, ep', h4, h5, h6, h7⟩, _⟩ := ok
        have hl : es.size = kvs.length := by
          have e1 := h7.length
          rw [rk.len, e1]; simp
        refine len_raw h2 ⟨o, h4, h5, h6⟩ ?_ ⟨.int kvs.length, H, I.tok _, ⟨_, by rw [hl]⟩, h.here r (by unfold RV; rfl)⟩
        rw [hl, rk.len]
        rw [sizeLine_eq] at h3
        omega
      · exact h.elim
  · obtain ⟨z, rfl, r1⟩ := one rs
    unfold RV at r1
    obtain ⟨p, ep, rfl⟩ := r1
    split at h
    · rename_i ws e1
      obtain ⟨d', ys, f1, f2, f3⟩ := r.h.listAt e1
      rw [ep] at f1; cases f1
      obtain ⟨t0, et0, h⟩ := h.opt
      obtain ⟨t, et, rfl⟩ := Option.map_eq_some_iff.mp et0
      obtain ⟨bs, rfl, rfl⟩ := bls et f3
      exact WCa.of (cr_all hc) ⟨p, bs, rfl, by rw [hK]; exact f2, h.here r (by unfold RV; rfl)⟩
    · exact h.elim
  · obtain ⟨z, rfl, r1⟩ := one rs
    unfold RV at r1
    obtain ⟨p, ep, rfl⟩ := r1
    split at h
    · rename_i ws e1
      obtain ⟨d', ys, f1, f2, f3⟩ := r.h.listAt e1
      rw [ep] at f1; cases f1
      obtain ⟨t0, et0, h⟩ := h.opt
      obtain ⟨t, et, rfl⟩ := Option.map_eq_some_iff.mp et0
      obtain ⟨bs, rfl, rfl⟩ := blsA et f3
      exact WCa.of (cr_any hc) ⟨p, bs, rfl, by rw [hK]; exact f2, h.here r (by unfold RV; rfl)⟩
    · exact h.elim
  · obtain ⟨z, rfl, r1⟩ := one rs
    unfold RV at r1
    obtain ⟨p, ep, rfl⟩ := r1
    split at h
    · rename_i ws e1
      obtain ⟨d', ys, f1, f2, f3⟩ := r.h.listAt e1
      rw [ep] at f1; cases f1
      obtain ⟨t0, et0, h⟩ := h.opt
      obtain ⟨t, et, rfl⟩ := Option.map_eq_some_iff.mp et0
      obtain ⟨bs, rfl, rfl⟩ := intsS et f3
      exact WCa.of (cr_sum hc) ⟨p, bs, rfl, by rw [hK]; exact f2, h.here r (by unfold RV; rfl)⟩
    · exact h.elim
  · obtain ⟨z, rfl, r1⟩ := one rs
    split at h
    · rename_i ws e1
      unfold seqV at e1
      split at e1
      · cases e1
        unfold RV at r1
        obtain ⟨p, ys, rfl, st, rs'⟩ := r1
        exact WCa.of call_tuple_of ⟨p, ys, rfl, .inr ⟨by rw [hK]; exact st, h.here r (by unfold RV; exact ⟨p, ys, rfl, st, rs'⟩)⟩⟩
      · unfold RV at r1
        obtain ⟨p, ep, rfl⟩ := r1
        obtain ⟨d', ys, f1, f2, f3⟩ := r.h.listAt e1
        rw [ep] at f1; cases f1
        exact WCa.of call_tuple_of ⟨p, ys, rfl, .inl ⟨by rw [hK]; exact f2, fun q nq => h.tup r f3 nq⟩⟩
      · cases e1
    · exact h.elim
  · obtain ⟨z, rfl, r1⟩ := one rs
    split at h
    · rename_i ws e1
      unfold seqV at e1
      split at e1
      · cases e1
        unfold RV at r1
        obtain ⟨p, ys, rfl, st, rs'⟩ := r1
        exact WCa.of call_list_of ⟨p, ys, rfl, .inr (by rw [hK]; exact st), fun q nq => h.new r nq ⟨_, rfl, rs'⟩⟩
      · unfold RV at r1
        obtain ⟨p, ep, rfl⟩ := r1
        obtain ⟨d', ys, f1, f2, f3⟩ := r.h.listAt e1
        rw [ep] at f1; cases f1
        exact WCa.of call_list_of ⟨p, ys, rfl, .inl (by rw [hK]; exact f2), fun q nq => h.new r nq ⟨_, rfl, f3⟩⟩
      · cases e1
    · exact h.elim
  all_goals first | (simp [okBi] at ok; done) | skip
  · obtain ⟨z, rfl, r1⟩ := one rs
    unfold RV at r1
    subst r1
    split at h
    · rename_i i hz
      rw [Bool.and_eq_true, decide_eq_true_eq] at hz
      have h1 : i.toNat < 10 := Nat.lt_of_succ_le (Nat.le_of_ble_eq_true hz.2)
      refine WCa.of call_str_int ⟨i, rfl, ?_, ?_⟩
      · have : i.natAbs.log2 ≤ i.natAbs := Nat.log2_le_self _
        omega
      · have e : (toString i : Str) = toS [48 + i.toNat] := by
          have e1 : i = ((i.toNat : Nat) : Int) := by omega
          have e2 := SX.num_S i.toNat
          rw [← e1, TL.numL_lt h1] at e2
          exact e2
        rw [e]
        refine h.here r ?_
        unfold RV
        exact ⟨rfl, by simp [sizeLine_eq], fun c hc => by (simp at hc; omega)⟩
    · exact h.elim
  · obtain ⟨z, rfl, r1⟩ := one rs
    unfold RV at r1
    rename_i c
    obtain ⟨rfl, gg⟩ := r1
    split at h
    · rename_i hz
      rw [Bool.and_eq_true] at hz
      have h1 := Nat.le_of_ble_eq_true hz.1
      have h2 := Nat.le_of_ble_eq_true hz.2
      refine WCa.of call_int_str ⟨_, ((c - 48 : Nat) : Int), rfl, ?_, by rw [toS_len]; simp, h.here r (by unfold RV; rfl)⟩
      have := SX.int_S (a := [c]) (by simp; omega) (by simp) (by simp)
      rw [show (toS [c]) = SX.S [c] from rfl, this]
      have e : NumText.digitsVal [c] = c - 48 := by simp [NumText.digitsVal]
      rw [e]
    · exact h.elim
  · unfold RVs at rs
    obtain ⟨z, t, rfl, r1, r2⟩ := rs
    unfold RVs at r2
    obtain ⟨z2, t2, rfl, r3, r4⟩ := r2
    unfold RVs at r4
    subst r4
    unfold RV at r1 r3
    subst r1 r3
    split at h
    · rename_i hz
      rw [Bool.and_eq_true] at hz
      have h0 := of_decide_eq_true hz.1
      have h1 := inI_lt hz.2
      refine WCa.of call_divmod ⟨_, _, rfl, ⟨h0, by omega⟩, fun q nq => h.tup r (RVs.cons ?_ (RVs.one ?_)) nq⟩
      · unfold RV; rfl
      · unfold RV; rfl
    · exact h.elim
  · exact h.elim
def tyS : Ty → String
  | .str => "str" | .int => "int" | .bool => "bool" | .tuple => "tuple" | .list => "list"
theorem isi_ok (hK : X.K = R.K) (hw : X.w = R.w) (r : RS R as s hs σ H) (ra : RV R as H a x) {t : Ty} {b : Bool} (e : isiV a t hs = some b) (q : Q (.bl b) H) : WCa X (.builtin "isinstance") [x, .ty (tyS t)] H Q := by
  have go : ∀ {T : String}, TyX X.K H x (.type T) → kitB T (tyS t) = some b → WCa X (.builtin "isinstance") [x, .ty (tyS t)] H Q := fun ty k =>
    WCa.of call_isi ⟨x, .ty (tyS t), _, _, b, rfl, .ty _, ty, kit_ty k, q⟩
  have lst : ∀ {n : Nat} {vs : List Val}, a = .ref n → listAt hs n = some vs → TyX X.K H x (.type "list") := fun ea e1 => by
    subst ea
    unfold RV at ra
    obtain ⟨p, ep, rfl⟩ := ra
    obtain ⟨d', ys, f1, f2, f3⟩ := r.h.listAt e1
    rw [ep] at f1; cases f1
    rcases f2 with (f2 | ⟨o, f2⟩) | ⟨o, its, m, k1, k2, _⟩
    · exact .base (.lst f2)
    · exact .base (.frz f2)
    · exact .kList (by rw [hK]; exact k1) k2
  unfold isiV at e
  split at e
  · cases e
    unfold RV at ra; subst ra
    cases t <;> exact go (.base .non) (by decide +kernel)
  · unfold RV at ra; subst ra
    cases t <;> cases e <;> exact go (.base (.bl _)) (by decide +kernel)
  · unfold RV at ra; subst ra
    cases t <;> cases e <;> exact go (.base (.int _)) (by decide +kernel)
  · unfold RV at ra; obtain ⟨rfl, _⟩ := ra
    cases t <;> cases e <;> exact go (.base (.str _)) (by decide +kernel)
  · unfold RV at ra
    obtain ⟨p, ys, rfl, st, rs'⟩ := ra
    have ty : TyX X.K H (.ref p) (.type "tuple") := by
      rcases st with (f2 | ⟨o, f2⟩) | ⟨o, its, m, k1, k2, _⟩
      · exact .base (.tup f2)
      · exact .fTuple f2
      · exact .kTuple (by rw [hK]; exact k1) k2
    cases t <;> cases e <;> exact go ty (by decide +kernel)
  · split at e
    · rename_i e1
      have ty := lst rfl (by unfold Kn.listAt; rw [e1])
      cases t <;> cases e <;> exact go ty (by decide +kernel)
    · rename_i e1
      have ty := lst rfl (by unfold Kn.listAt; rw [e1])
      cases t <;> cases e <;> exact go ty (by decide +kernel)
    · rename_i e1
      have ty := lst rfl (by unfold Kn.listAt; rw [e1])
      cases t <;> cases e <;> exact go ty (by decide +kernel)
    · cases e
  · cases e
end
end Kn
namespace KnK
open PySem PySem.SeqAt
section
variable {prog : Program} {w : World} {A : Around} {E : Value → Shared → Prop} {s : Shared}
theorem setHashed_N {d : Addr} {l : L3} {k : NestedKey} {u v : Value} {Q : Unit → Shared → Prop} (hu : A.units + 8 < cLine) (hkey : NestedIs s.heap k u) (hkd : k.depth ≤ 8) (hm : DictN w s.heap d l)
    (hQ : ∀ h' t, DictN w h' d (putN l k u v) → Heap.SameBut d s.heap h' → Q () { s with heap := h', toks := t }) (hsz : l.length ≤ sizeLine) :
    wpAny (model prog w) A (dictSetHashed d u (k.hash w) v) Q E s := by
  obtain ⟨o, es, ep, ho, hc, hd, he, his, hn⟩ := hm
  have hz : es.size = l.length := by rw [← Array.length_toList, he, List.length_map]
  unfold dictSetHashed
  try with_reducible refine wpAny_holding ?_
  refine wpAny_bind (find_any hu hkey hkd ho hd (keys_of he his) hn (fun hno => ?_) fun j hj => ?_)
  · exact wpAny_bind (wpAny_rule (wpAny_updateDictKeys (hz := by omega) ho hd (hQ _ _ (put_new_ok ho hc hd he his hn hkey hkd hno) (Heap.SameBut.update ..))))
  · obtain ⟨p, hp⟩ := at_of hj
    have e0 : putN l k u v = l.map (putAtN k v) := by unfold putN; rw [lkN_of_get hn hp]; rfl
    refine wpAny_bind (wpAny_rule (wpAny_bind (wpAny_updateDict ho hd (wpAny_point (hQ _ _ ⟨_, _, ep, Heap.get?_update_self _ ho (Obj.isFreed_of_dict (Obj.data_mapDict hd _)),
      hc.mapDict _, Obj.data_mapDict hd _, ?_, ?_, ?_⟩ (Heap.SameBut.update ..))))))
    · rw [e0]
      have := modify_putAtN w k v hn hp
      rw [← he] at this
      obtain ⟨l⟩ := es
      simpa using this
    · rw [e0]
      intro x hx
      obtain ⟨y, hy, rfl⟩ := List.mem_map.mp hx
      unfold putAtN
      split <;> exact ⟨keep_is ho hd (Heap.SameBut.update ..) (his y hy).1, (his y hy).2⟩
    · rw [e0, keys_putAtN]; exact hn
def putNs (l : L3) : L3 → L3
  | [] => l
  | q :: r => putNs (putN l q.1 q.2.1 q.2.2) r
theorem putNs_snoc (l : L3) (q : NestedKey × Value × Value) : ∀ m : L3, putNs l (m ++ [q]) = putN (putNs l m) q.1 q.2.1 q.2.2 := fun m => by
  induction m generalizing l with
  | nil => rfl
  | cons p r ih => exact ih (putN l p.1 p.2.1 p.2.2)
theorem putN_len (l : L3) (k : NestedKey) (u v : Value) : (putN l k u v).length ≤ l.length + 1 := by
  unfold putN
  split <;> simp
theorem putNs_len : ∀ (m l : L3), (putNs l m).length ≤ l.length + m.length
  | [], l => by simp [putNs]
  | q :: r, l => by
    have h1 := putNs_len r (putN l q.1 q.2.1 q.2.2)
    have h2 := putN_len l q.1 q.2.1 q.2.2
    simp only [putNs, List.length_cons]
    omega
theorem merge_N {nm : String} {d o : Addr} {l more : L3} {Q : Unit → Shared → Prop} (hu : A.units + 8 < cLine) (hdo : d ≠ o) (hoS : (o == sysModules) = false) (hd : DictN w s.heap d l) (ho : DictN w s.heap o more)
    (hgo : l ≠ [] ∨ (more.length ≤ 8 ∧ ∀ q ∈ more, (keyPart q.2.1).isSome = true)) (hsz : l.length + more.length ≤ sizeLine)
    (hQ : ∀ h' t, DictN w h' d (putNs l more) → Heap.SameBut d s.heap h' → Q () { s with heap := h', toks := t }) : wpAny (model prog w) A (Builtin.Dict.mergeDict nm d o) Q E s := by
  obtain ⟨od, esd, epd, hod, hcd, hdd, hed, hisd, hnd⟩ := id hd
  obtain ⟨oo, eso, epo, hoo, hco, hdo', heo, hiso, hno⟩ := id ho
  have hlen : eso.size = more.length := by rw [← Array.length_toList, heo, List.length_map]
  have go : wpAny (model prog w) A (do
      let epoch ← dictEpoch o
      let l ← dictEntries o
      forIn [:l.size] PUnit.unit fun i (_ : PUnit) => (do
          let l' ← dictEntries o
          match l'[i]? with
            | some e => do
              holding [e.key, e.val] (dictSetHashed d e.key e.hash e.val)
              let ep' ← dictEpoch o
              if (ep' != epoch) = true then do
                  (unsupported (toString nm ++ toString ":source-changed-during-callback") : Sem PUnit)
                  pure (ForInStep.yield PUnit.unit)
                else pure (ForInStep.yield PUnit.unit)
            | _ => do
              (unsupported "internal:dict-merge" : Sem PUnit)
              pure (ForInStep.yield PUnit.unit) : Sem (ForInStep PUnit))
      pure ()) Q E s := by
    refine wpAny_bind (wpAny_dictEpoch hoo hdo' (wpAny_bind (wpAny_dictEntries hoo hdo' (wpAny_bind ?_))))
    rw [Std.Legacy.Range.forIn_eq_forIn_range']
    simp only [Std.Legacy.Range.size, Nat.sub_zero, Nat.add_sub_cancel, Nat.div_one]
    refine wpAny_forIn_list _
      (fun rest _ s' => ∃ h' i t, s' = { s with heap := h', toks := t } ∧ rest = List.range' i (eso.size - i) ∧ i ≤ eso.size ∧ DictN w h' d (putNs l (more.take i)) ∧ h'.get? o = some oo ∧ (∀ q ∈ more, NestedIs h' q.1 q.2.1) ∧ Heap.SameBut d s.heap h')
      _ ?_ ?_ _ _ ⟨s.heap, 0, s.toks, rfl, by simp, Nat.zero_le _, by simpa [putNs] using hd, hoo, fun q hq => (hiso q hq).1, Heap.SameBut.refl _ _⟩
    · rintro x rest b s' ⟨h', i, t, rfl, hr, hi, hd', hoo', hk', hs'⟩
      have hlt : i < eso.size := by
        rcases Nat.lt_or_ge i eso.size with z | z
        · exact z
        · rw [Nat.sub_eq_zero_of_le z] at hr; simp at hr
      have e : eso.size - i = (eso.size - (i + 1)) + 1 := by omega
      rw [e, List.range'_succ] at hr
      injection hr with h1 h2
      subst h1
      refine wpAny_bind (wpAny_dictEntries hoo' hdo' ?_)
      have hlt2 : x < more.length := by rw [← hlen]; exact hlt
      have hat : eso[x]? = some (ent w more[x]) := by
        rw [← Array.getElem?_toList, heo, List.getElem?_map, List.getElem?_eq_getElem hlt2]; rfl
      rw [hat]
      have hmx : (putNs l (more.take x)).length ≤ sizeLine := by
        have e1 := putNs_len (more.take x) l
        have e2 : (more.take x).length ≤ more.length := by rw [List.length_take]; omega
        omega
      have hm := List.getElem_mem hlt2
      refine wpAny_bind (wpAny_holding (setHashed_N (s := { s with heap := h', toks := t }) hu (hk' _ hm) (hiso _ hm).2 hd' (fun h'' t2 hd'' hs'' => ?_) hmx))
      have hoo'' : h''.get? o = some oo := (hs''.2 o (Ne.symm hdo)).trans hoo'
      refine wpAny_bind (wpAny_dictEpoch hoo'' hdo' ?_)
      rw [if_neg (by simp)]
      obtain ⟨od', esd', epd', hod', hcd', hdd', _⟩ := id hd'
      refine wpAny_pure ⟨h'', x + 1, t2, rfl, h2, hlt, ?_, hoo'', fun q hq => keep_is hod' hdd' hs'' (hk' q hq), hs'.trans hs''⟩
      rw [List.take_succ_eq_append_getElem hlt2, putNs_snoc]
      exact hd''
    · rintro b s' ⟨h', i, t, rfl, hr, hi, hd', hoo', hk', hs'⟩
      have hin : i = eso.size := by
        rcases Nat.lt_or_ge i eso.size with z | z
        · have e : eso.size - i = (eso.size - (i + 1)) + 1 := by omega
          rw [e, List.range'_succ] at hr; exact nomatch hr
        · exact Nat.le_antisymm hi z
      refine wpAny_pure (hQ h' t ?_ hs')
      rw [hin, hlen, List.take_length] at hd'; exact hd'
  unfold Builtin.Dict.mergeDict
  rw [if_neg (by simpa using hdo)]
  unfold Builtin.Dict.showsAll
  rw [if_neg (by rw [hoS]; exact Bool.false_ne_true)]
  refine wpAny_bind (wpAny_pure (wpAny_bind (wpAny_dictEntries hoo hdo' ?_)))
  dsimp only
  split
  · rename_i hfew
    rcases hgo with hne | ⟨h8, hkp⟩
    · refine wpAny_bind (wpAny_dictEntries hod hdd ?_)
      have : esd.isEmpty = false := by
        have hz : esd.size = l.length := by rw [← Array.length_toList, hed, List.length_map]
        cases l with
        | nil => exact absurd rfl hne
        | cons a r =>
          rw [Array.isEmpty_eq_false_iff]
          intro z
          rw [z] at hz
          simp at hz
      rw [this, if_neg (by simp)]
      exact go
    · exfalso
      have : (decide (eso.size ≤ 8) && eso.all fun e => (keyPart e.key).isSome) = true := by
        rw [Bool.and_eq_true, decide_eq_true_eq, Array.all_eq_true']
        refine ⟨by omega, fun e he => ?_⟩
        have : e ∈ eso.toList := Array.mem_def.mp he
        rw [heo] at this
        obtain ⟨q, hq, rfl⟩ := List.mem_map.mp this
        exact hkp q hq
      rw [this] at hfew
      cases hfew
  · exact go
/-- the whole of updateFrom -/
theorem updateFrom_N {R : Result → Shared → Prop} {nm : String} {d o : Addr} {l more : L3} (res : Value) (hu : A.units + 9 < cLine) (hdo : d ≠ o) (hoS : (o == sysModules) = false) (hd : DictN w s.heap d l) (ho : DictN w s.heap o more)
    (hgo : l ≠ [] ∨ (more.length ≤ 8 ∧ ∀ q ∈ more, (keyPart q.2.1).isSome = true)) (hsz : l.length + more.length ≤ sizeLine)
    (hR : ∀ h' t, DictN w h' d (putNs l more) → Heap.SameBut d s.heap h' → R (.ok (.ret res)) { s with heap := h', toks := t }) :
    wpAny (model prog w) A.in1 (Builtin.Dict.updateFrom nm d (.ref o) [] res)
      (fun fin s' => match fin with | .done f => R (.ok f) s' | .again c' => c'.quiet = true ∧ codeAny (model prog w) A c' R s') (fun e s' => R (.error e) s') s := by
  have hty := ho.typeIs
  unfold Builtin.Dict.updateFrom
  refine wpAny_bind (wpAny_typeOf hty ?_)
  rw [if_neg (by decide)]
  refine wpAny_bind ?_
  unfold Builtin.Dict.merge
  refine wpAny_bind ?_
  unfold Builtin.Dict.readDirectly
  refine wpAny_bind (wpAny_isInstance hty isSubtype_dict_dict ?_)
  simp only [Bool.not_true, Bool.false_eq_true, if_false]
  refine wpAny_bind (wpAny_specialOf hty F.slot_dict_iter.lookup (wpAny_pure ?_))
  simp only [beq_self_eq_true, if_true]
  refine wpAny_bind (wpAny_pure ?_)
  refine merge_N (A := A.in1) (show A.units + 1 + 8 < cLine by omega) hdo hoS hd ho hgo hsz fun h' t hd' hs' => ?_
  show wpAny _ _ (Builtin.Dict.addKeywords d [] >>= _) _ _ _
  exact wpAny_bind (wpAny_pure (wpAny_pure (hR h' t hd' hs')))
theorem update_call {d o : Addr} {l more : L3} {Q : Value → Shared → Prop} (hu : A.units + 9 < cLine) (hdo : d ≠ o) (hoS : (o == sysModules) = false) (hd : DictN w s.heap d l) (ho : DictN w s.heap o more)
    (hgo : l ≠ [] ∨ (more.length ≤ 8 ∧ ∀ q ∈ more, (keyPart q.2.1).isSome = true)) (hsz : l.length + more.length ≤ sizeLine)
    (h : ∀ h' t, DictN w h' d (putNs l more) → Heap.SameBut d s.heap h' → Q .none { s with heap := h', toks := t }) : wpAny (model prog w) A (call (.builtin "dict.update") [.ref d, .ref o]) Q E s :=
  call_meetsIn F.slot_dict_update hd.typeIs F.entry_dict_update (F.args_dict_update_2 _ _)
    (S := fun A' R s' => A' = A ∧ s' = s ∧ ∀ h' t, DictN w h' d (putNs l more) → Heap.SameBut d s.heap h' → R (.ok (.ret .none)) { s with heap := h', toks := t })
    (fun A' R s' hS => by obtain ⟨rfl, rfl, hq⟩ := hS; exact meets_dict_update_arg hd.typeIs (updateFrom_N .none hu hdo hoS hd ho hgo hsz hq)) ⟨rfl, rfl, h⟩
theorem dictN_new {h : Heap} : DictN w (h.push { cls := .type "dict", data := .dict #[] }) h.objs.size [] :=
  ⟨_, #[], 0, Heap.get?_push_size _ rfl, ⟨rfl, rfl, rfl⟩, rfl, rfl, fun q hq => absurd hq List.not_mem_nil, List.nodup_nil⟩
theorem DictN.keep {h h' : Heap} {d : Addr} {l : L3} (x : DictN w h d l) (k : ∀ b o, h.get? b = some o → h'.get? b = some o) : DictN w h' d l := by
  obtain ⟨o, es, ep, ho, hc, hd, he, his, hn⟩ := x
  exact ⟨o, es, ep, k _ _ ho, hc, hd, he, fun q hq => ⟨NestedIs.at (fun b ob vs n hb _ => k b ob hb) q.1 _ (his q hq).1, (his q hq).2⟩, hn⟩
/-- dict(d) -/
theorem dict_of_N {o : Addr} {more : L3} {Q : Value → Shared → Prop} (hu : A.units + 10 < cLine) (hoS : (o == sysModules) = false) (ho : DictN w s.heap o more) (hgo : more.length ≤ 8 ∧ ∀ q ∈ more, (keyPart q.2.1).isSome = true)
    (h : ∀ h' t, DictN w h' s.heap.objs.size (putNs [] more) → (∀ b ob, s.heap.get? b = some ob → h'.get? b = some ob) → Q (.ref s.heap.objs.size) { s with heap := h', toks := t }) : wpAny (model prog w) A (call (.type "dict") [.ref o]) Q E s := by
  refine callType_codes (Q₁ := fun obj s₁ => obj = .ref s.heap.objs.size ∧ s₁ = { s with heap := s.heap.push { cls := .type "dict", data := .dict #[] } }) F.kt_called_dict (F.kt_typeCall_dict_1 _) F.entry_dict_init (kt_code_dict_new _ ⟨rfl, rfl⟩) ?_
  rintro obj s₁ ⟨rfl, rfl⟩
  have hnew : DictN w (s.heap.push { cls := .type "dict", data := .dict #[] }) s.heap.objs.size [] := dictN_new
  have ho' : DictN w (s.heap.push { cls := .type "dict", data := .dict #[] }) o more := ho.keep fun b ob e => Heap.get?_push_of_some _ e
  have hdo : s.heap.objs.size ≠ o := by
    obtain ⟨_, _, _, hg, _⟩ := ho
    exact fun e => absurd (Heap.lt_size hg) (by rw [e]; exact Nat.lt_irrefl _)
  have hT : Shared.TypeIs { s with heap := s.heap.push { cls := .type "dict", data := .dict #[] } } (.ref s.heap.objs.size) "dict" := ⟨_, Heap.get?_push_size _ rfl, rfl⟩
  refine ⟨hT, F.args_dict_init_2 _ _, ?_⟩
  unfold Builtin.«dict.__init__»
  refine wpAny_bind ?_
  unfold Builtin.Dict.selfAndRest
  refine wpAny_bind (wpAny_notOrdered_dict hT ?_)
  show wpAny _ _ (pure (s.heap.objs.size, [Value.ref o])) _ _ _
  refine wpAny_pure ?_
  refine updateFrom_N (A := A.in1) .none (show A.units + 1 + 9 < cLine by omega) hdo hoS hnew ho' (.inr hgo) (by rw [sizeLine_eq]; simp; omega) fun h' t hd' hs' => ⟨rfl, h h' t hd' fun b ob e => ?_⟩
  exact (hs'.2 b (Nat.ne_of_lt (Heap.lt_size e))).trans (Heap.get?_push_of_some _ e)
/-- dict([(k, v), ..]) -/
theorem dict_pairs_N {a : Addr} {items : Array Value} {Ts : Nat → Addr} {ps : L3} {Q : Value → Shared → Prop} (hh : A.handled = none) (hu : A.units + 11 < cLine) (hl : PlainSeq "list" s.heap a items) (hi : PairItems s.heap items Ts (ps.map (·.2))) (hz : ps.length ≤ sizeLine)
    (hk : ∀ q ∈ ps, NestedIs s.heap q.1 q.2.1 ∧ q.1.depth ≤ 8)
    (h : ∀ h' t, DictN w h' s.heap.objs.size (putNs [] ps) → (∀ b ob, s.heap.get? b = some ob → h'.get? b = some ob) → Q (.ref s.heap.objs.size) { s with heap := h', toks := t }) : wpAny (model prog w) A (call (.type "dict") [.ref a]) Q E s := by
  refine call_dict_arg (PairArg.list a items Ts (ps.map (·.2))) ⟨hl, hi⟩ fun s₁ hs₁ hdf ok₁ => ?_
  subst hs₁
  have hlen : (ps.map (·.2)).length = ps.length := by simp
  refine updateFrom_arg (A := A.in1) (Tab := fun i h => DictN w h s.heap.objs.size (putNs [] (ps.take i)) ∧ ∀ b ob, s.heap.get? b = some ob → h.get? b = some ob) (PairArg.list a items Ts (ps.map (·.2))) .none hh ok₁ hdf ⟨by simpa [putNs] using dictN_new, fun b ob e => Heap.get?_push_of_some _ e⟩ ?_ ?_ ?_ ?_
  · rintro i h' ⟨⟨o, _, _, ho, _⟩, _⟩
    exact Heap.lt_size ho
  · rintro i h1 h2 wr' hd hwr ⟨x, k1⟩ k2
    have keep : ∀ b ob, s.heap.get? b = some ob → h2.get? b = some ob := fun b ob e => k2 b ob (fun hb => by
      rcases hwr b hb with z | z
      · cases z
      · have e2 := Heap.get?_push_of_some { cls := .type "dict", data := .dict #[] } e
        rw [z] at e2; cases e2) (k1 b ob e)
    refine ⟨?_, keep⟩
    obtain ⟨o, es, ep, ho, hc, hdd, he, his, hn⟩ := x
    refine ⟨o, es, ep, k2 _ _ hd ho, hc, hdd, he, fun q hq => ⟨?_, (his q hq).2⟩, hn⟩
    have hq2 : ∃ p ∈ ps, p.1 = q.1 ∧ p.2.1 = q.2.1 := by
      have : ∀ (m l : L3) (q), q ∈ putNs l m → (∃ p ∈ l, p.1 = q.1 ∧ p.2.1 = q.2.1) ∨ ∃ p ∈ m, p.1 = q.1 ∧ p.2.1 = q.2.1 := fun m => by
        induction m with
        | nil => exact fun l q hq => .inl ⟨q, hq, rfl, rfl⟩
        | cons z r ih =>
          intro l q hq
          rcases ih _ q hq with ⟨p, hp, e⟩ | ⟨p, hp, e⟩
          · unfold putN at hp
            split at hp
            · obtain ⟨p', hp', rfl⟩ := List.mem_map.mp hp
              refine .inl ⟨p', hp', ?_⟩
              unfold putAtN at e
              split at e <;> exact e
            · rcases List.mem_append.mp hp with hp | hp
              · exact .inl ⟨p, hp, e⟩
              · simp at hp
                subst hp
                exact .inr ⟨z, List.mem_cons_self, e⟩
          · exact .inr ⟨p, List.mem_cons_of_mem _ hp, e⟩
      rcases this _ _ q hq with ⟨p, hp, _⟩ | ⟨p, hp, e⟩
      · cases hp
      · exact ⟨p, List.mem_of_mem_take hp, e⟩
    obtain ⟨p, hp, e1, e2⟩ := hq2
    rw [← e1, ← e2]
    exact NestedIs.at (fun b ob vs n hb _ => keep b ob hb) p.1 _ (hk p hp).1
  · rintro i k v s1 Q1 E1 hi1 hrel ⟨x, k1⟩ _ hq
    have hlt : i < ps.length := by rw [← hlen]; exact hi1
    have he : (k, v) = ps[i].2 := by
      have : (ps.map (·.2))[i]? = some (k, v) := hrel
      rw [List.getElem?_map, List.getElem?_eq_getElem hlt] at this
      simpa using this.symm
    have hm := List.getElem_mem hlt
    obtain ⟨n1, n2⟩ := hk _ hm
    have ek : k = ps[i].2.1 := by rw [← he]
    have ev : v = ps[i].2.2 := by rw [← he]
    subst ek ev
    refine set_N (A := A.in1.in1) (show A.units + 1 + 1 + 8 < cLine by omega) (NestedIs.at (fun b ob vs n hb _ => k1 b ob hb) _ _ n1) n2 x (fun h' t x' sb => hq h' t ⟨?_, fun b ob e => ?_⟩ sb) ?_
    · rw [List.take_succ_eq_append_getElem hlt, putNs_snoc]
      exact x'
    · exact (sb.2 b (Nat.ne_of_lt (Heap.lt_size e))).trans (k1 b ob e)
    · have := putNs_len (ps.take i) []
      have e2 : (ps.take i).length ≤ ps.length := by rw [List.length_take]; omega
      simp at this
      omega
  · rintro h' t ⟨x, k1⟩ _
    rw [hlen, List.take_length] at x
    exact ⟨rfl, h h' t x k1⟩
end
end KnK
namespace Kn
open PySem L2 KnK
section
variable {X : Cx} {R : Rp} {W : WX} {as : List Addr} {s : St} {hs : Hs} {σ : L2.St} {H : Hp} {Q : VK}
theorem puts_rel : ∀ {mk : List (Val × Val)} {ml : List (NestedKey × V × V)} {m3 : L3} {kvs : List (Val × Val)} {l : List (NestedKey × V × V)} {l3 : L3}, RKv R as H mk ml → Paired P3 ml m3 → RKv R as H kvs l → Paired P3 l l3 → (l.map (·.1)).Nodup →
    ∃ l', RKv R as H (dPuts kvs mk) l' ∧ Paired P3 l' (putNs l3 m3) ∧ (l'.map (·.1)).Nodup ∧ l'.length ≤ l.length + ml.length
  | [], _, _, kvs, l, l3, rm, pm, r, p, nd => by
    unfold RKv at rm; subst rm; cases pm
    exact ⟨l, r, p, nd, by simp⟩
  | (k, v) :: t, _, _, kvs, l, l3, rm, pm, r, p, nd => by
    obtain ⟨q, x, t', rfl, k1, k2, k3, k4⟩ := rm
    cases pm with
    | @cons _ b _ _ p1 p2 =>
      obtain ⟨b1, b2, b3⟩ := b
      obtain ⟨e1, e2, e3⟩ := p1
      simp only at e1 e2 e3
      subst e1
      obtain ⟨l1, a1, a2, a3, a4⟩ := put_rel k1 k2 k3 e2 e3 r p nd
      obtain ⟨l2, c1, c2, c3, c4⟩ := puts_rel k4 p2 a1 a2 a3
      refine ⟨l2, c1, c2, c3, ?_⟩
      simp only [List.length_cons]
      omega
theorem update_ok (hK : X.K = R.K) (hw : X.w = R.w) (hu : X.A.units + 100 < cLine) (r : RS R as s hs σ H) {n m : Nat} {kvs more : List (Val × Val)} (e : hs[n]? = some (.dict kvs)) (em : dictAt hs m = some more) {d o : Addr} (ed : as[n]? = some d) (eo : as[m]? = some o) (hne : kvs ≠ []) (hsz : kvs.length + more.length ≤ sizeLine) (hnm : n ≠ m)
    (h : Pst R W s σ (KV1 R Q) as H (.ok .non (hs.set n (.dict (dPuts kvs more))))) : WMt X "dict.update" (.ref d) [.ref o] H Q := by
  intro pins sh σ' v us I rx rs
  obtain rfl : v = .ref d := rx
  obtain ⟨u, rfl, ru⟩ := Vals.one rs
  obtain rfl : u = .ref o := ru
  obtain ⟨d', l, f1, f2, rk, nd⟩ := r.objD e
  rw [ed] at f1; cases f1
  obtain ⟨o', ml, g1, rd, rm, nm⟩ := r.h.dictAt em
  rw [eo] at g1; cases g1
  obtain ⟨l3, dn, p3, hd, hz⟩ := dx_in hK hw I (I.hok _ _ f2) rk nd
  obtain ⟨m3, dm, pm, ho, hzm⟩ := dx_in hK hw I (rd.ok I.hok) rm nm
  obtain ⟨l', a1, a2, a3, a4⟩ := puts_rel rm pm rk p3 nd
  have hdo : d ≠ o := fun z => by
    subst z
    have i1 := List.getElem?_eq_some_iff.mp ed
    exact hnm ((List.getElem?_inj i1.1 r.h.nd).mp (ed.trans eo.symm))
  have l1 := rk.len
  have l2 := rm.len
  refine update_call (by omega) hdo ho dn dm (.inl fun z => ?_) (by rw [← P3.len p3, ← P3.len pm]; omega) fun h' t dn' sb => ?_
  · rw [z] at p3
    cases p3
    cases kvs with
    | nil => exact hne rfl
    | cons a b => simp at l1
  · obtain ⟨kp, r1⟩ := r.write (o' := .dict (dPuts kvs more)) (u' := DX R.w d l') e ed f2 trivial ⟨l', rfl, a1, a3⟩
    have he : ∃ u, h'.get? d = some u := by
      obtain ⟨ob, _, _, ho, _⟩ := dn'
      exact ⟨ob, ho⟩
    refine ⟨.non, upd H d (DX R.w d l'), I.write (e := d) (t' := t) (by rw [f2]; trivial) (.inl rfl) (fun b u hb hu => (sb.2 b hb).trans hu) he ?_, rfl, h as _ PfxA.refl kp r1 _ (by unfold RV; rfl)⟩
    rw [← hw]
    exact dx_new dn' a2 hd (by omega)
theorem keyPart_str {as : List Addr} : ∀ {kvs : List (Val × Val)} {l : List (NestedKey × V × V)} {l3 : L3}, (kvs.all fun q => isStrV q.1) = true → RKv R as H kvs l → Paired P3 l l3 → ∀ q ∈ l3, (keyPart q.2.1).isSome = true
  | [], _, _, _, r, p => by
    unfold RKv at r; subst r; cases p
    exact fun q hq => by cases hq
  | (k, v) :: t, _, _, ha, r, p => by
    obtain ⟨q, x, t', rfl, k1, k2, k3, k4⟩ := r
    simp only [List.all_cons, Bool.and_eq_true] at ha
    cases p with
    | cons p1 p2 =>
      have ih := keyPart_str ha.2 k4 p2
      intro z hz
      rcases List.mem_cons.mp hz with rfl | hz
      · obtain ⟨_, e2, _⟩ := p1
        cases k <;> simp [isStrV] at ha
        unfold RV at k2
        obtain ⟨rfl, _⟩ := k2
        obtain ⟨tk, ev⟩ := e2
        rw [ev]
        rfl
      · exact ih z hz
/-- a new dict is laid -/
theorem dict_laid {pins : List (Addr × PySem.Obj)} {σ' : L2.St} {sh : Shared} {h' : Heap} {t : Nat} {l' : List (NestedKey × V × V)} {l3 : L3} {kvs : List (Val × Val)} (hw : X.w = R.w) (r : RS R as s hs σ H) (I : Inv X pins σ' H sh) (dn : DictN X.w h' sh.heap.objs.size l3) (p : Paired P3 l' l3) (rk : RKv R as H kvs l') (nd : (l'.map (·.1)).Nodup) (hz : l'.length ≤ sizeLine)
    (kp : ∀ b ob, sh.heap.get? b = some ob → h'.get? b = some ob) (h : Pst R W s σ (KV1 R Q) as H (Kn.new hs (.dict kvs))) : EP X pins σ' Q (.ref sh.heap.objs.size) { sh with heap := h', toks := t } := by
  have np : H sh.heap.objs.size = none := I.hok.fresh (Nat.le_refl _)
  have hd : (sh.heap.objs.size == sysModules) = false := (dk_empty (P := X.prog) (w := X.w) (H := H) sh.heap I.big).2.1
  refine ⟨.ref sh.heap.objs.size, upd H sh.heap.objs.size (DX R.w sh.heap.objs.size l'), I.laid (t' := t) kp (Nat.le_refl _) ?_, rfl, Pst.new h r np ⟨l', rfl, rk, nd⟩⟩
  rw [← hw]
  exact dx_new dn p hd hz
theorem dictD_ok (hK : X.K = R.K) (hw : X.w = R.w) (hu : X.A.units + 100 < cLine) (r : RS R as s hs σ H) {m : Nat} {more : List (Val × Val)} (em : dictAt hs m = some more) {o : Addr} (eo : as[m]? = some o) (h8 : more.length ≤ 8) (hst : (more.all fun q => isStrV q.1) = true)
    (h : Pst R W s σ (KV1 R Q) as H (Kn.new hs (.dict (dPuts [] more)))) : WCa X (.type "dict") [.ref o] H Q := by
  intro pins sh σ' us I rs
  obtain ⟨u, rfl, ru⟩ := vals1 rs
  obtain rfl : u = .ref o := ru
  obtain ⟨o', ml, g1, rd, rm, nm⟩ := r.h.dictAt em
  rw [eo] at g1; cases g1
  obtain ⟨m3, dm, pm, ho, hzm⟩ := dx_in hK hw I (rd.ok I.hok) rm nm
  obtain ⟨l', a1, a2, a3, a4⟩ := puts_rel (kvs := []) (l := []) (l3 := []) rm pm rfl .nil List.nodup_nil
  have l2 := rm.len
  refine dict_of_N (by omega) ho dm ⟨by rw [← P3.len pm]; omega, keyPart_str hst rm pm⟩ fun h' t dn kp => ?_
  exact dict_laid hw r I dn a2 a1 a3 (by simp at a4; omega) kp h
/-- the items of a list of pairs -/
theorem pairs_rel {pins : List (Addr × PySem.Obj)} {σ' : L2.St} {sh : Shared} (hK : X.K = R.K) (I : Inv X pins σ' H sh) : ∀ {vs : List Val} {xs : List V} {us : List Value} {ps : List (Val × Val)}, Kn.pairs vs = some ps → RVs R as H vs xs → Vals xs us →
    ∃ (Ts : List Addr) (l : List (NestedKey × V × V)) (l3 : L3), us = Ts.map Value.ref ∧ RKv R as H ps l ∧ Paired P3 l l3 ∧ Paired (fun T q => PairAt sh.heap T q.2.1 q.2.2) Ts l3
  | [], _, _, ps, e, r, v => by
    unfold RVs at r; subst r; cases v; cases e
    exact ⟨[], [], [], rfl, rfl, .nil, .nil⟩
  | z :: t, _, _, ps, e, r, v => by
    unfold RVs at r
    obtain ⟨x, xt, rfl, r1, r2⟩ := r
    cases v with
    | cons v1 v2 =>
      unfold Kn.pairs at e
      split at e
      · rename_i heq; cases heq
      · rename_i k w t' heq
        cases heq
        split at e
        · rename_i ik
          obtain ⟨ps', ep, rfl⟩ := Option.map_eq_some_iff.mp e
          obtain ⟨Ts, l, l3, rfl, q2, q3, q4⟩ := pairs_rel hK I ep r2 v2
          unfold RV at r1
          obtain ⟨a, ys, rfl, st, ry⟩ := r1
          unfold RVs at ry
          obtain ⟨kx, y2, rfl, rk, ry⟩ := ry
          unfold RVs at ry
          obtain ⟨vx, y3, rfl, rv, ry⟩ := ry
          unfold RVs at ry
          subst ry
          cases v1
          rw [← hK] at st
          obtain ⟨its, iv, it, _⟩ := I.tuple st
          obtain ⟨ku, vu, rfl, s1, s2⟩ := vals2 iv
          exact ⟨a :: Ts, (nk k, kx, vx) :: l, (nk k, ku, vu) :: l3, rfl, ⟨kx, vx, l, rfl, ik, rk, rv, q2⟩, .cons ⟨rfl, s1, s2⟩ q3, .cons (.inl it) q4⟩
        · cases e
      · cases e
theorem paired_get {α β : Type} {P : α → β → Prop} : ∀ {l : List α} {m : List β} {i : Nat} {b : β}, Paired P l m → m[i]? = some b → ∃ a, l[i]? = some a ∧ P a b
  | _, _, _, _, .nil, e => by simp at e
  | _, _, 0, b, .cons h t, e => by simp at e; subst e; exact ⟨_, rfl, h⟩
  | _, _, i + 1, b, .cons h t, e => by
    obtain ⟨a, e1, e2⟩ := paired_get (i := i) t (by simpa using e)
    exact ⟨a, by simpa using e1, e2⟩
theorem dictP_ok (hc : X.calm = true) (hK : X.K = R.K) (hw : X.w = R.w) (hu : X.A.units + 100 < cLine) (r : RS R as s hs σ H) {m : Nat} {vs : List Val} {ps : List (Val × Val)} (em : listAt hs m = some vs) {o : Addr} (eo : as[m]? = some o) (ep : Kn.pairs vs = some ps)
    (h : Pst R W s σ (KV1 R Q) as H (Kn.new hs (.dict (dPuts [] ps)))) : WCa X (.type "dict") [.ref o] H Q := by
  intro pins sh σ' us I rs
  obtain ⟨u, rfl, ru⟩ := vals1 rs
  obtain rfl : u = .ref o := ru
  obtain ⟨o', ys, g1, g2, g3⟩ := r.h.listAt em
  rw [eo] at g1; cases g1
  rw [← hK] at g2
  obtain ⟨its, rv, hl, hz⟩ := I.list g2
  obtain ⟨Ts, l, l3, e1, q2, q3, q4⟩ := pairs_rel hK I ep g3 rv
  obtain ⟨l', a1, a2, a3, a4⟩ := puts_rel (kvs := []) (l := []) (l3 := []) q2 q3 rfl .nil List.nodup_nil
  have hlen : l3.length = its.length := by rw [e1, List.length_map]; exact q4.length.symm
  have hll : l.length = l3.length := P3.len q3
  have hzz : l3.length ≤ sizeLine := by rw [hlen, ← rv.length]; exact hz
  refine dict_pairs_N (items := its.toArray) (Ts := fun j => Ts.getD j 0) (ps := l3) (I.ok.hd hc) (by omega) hl ⟨by simp [hlen], fun j k v hj => ?_⟩ hzz (fun q hq => ?_) fun h' t dn kp => ?_
  · rw [List.getElem?_map] at hj
    obtain ⟨q, hq, e⟩ := Option.map_eq_some_iff.mp hj
    obtain ⟨T, eT, pT⟩ := paired_get q4 hq
    have hT : Ts.getD j 0 = T := by rw [List.getD_eq_getElem?_getD, eT]; rfl
    refine ⟨?_, ?_⟩
    · show its.toArray[j]? = some (Value.ref (Ts.getD j 0))
      rw [hT, e1]
      simp [eT]
    · show PairAt sh.heap (Ts.getD j 0) k v
      rw [hT]
      have e1 : q.2.1 = k := by rw [e]
      have e2 : q.2.2 = v := by rw [e]
      rw [← e1, ← e2]
      exact pT
  · exact keys_in hK I q2 q3 q hq
  · exact dict_laid hw r I dn a2 a1 a3 (by simp at a4; omega) kp h
def meId2 : Kd → Me → String
  | .dict, .update => "dict.update"
  | _, _ => ""
theorem me2_slot {k : Kd} {m : Me} (h : okMe2 k m = true) : k ≠ .tuple ∧ PlainAttrs (kdT k) ∧ Slot (kdT k) (meN m) (meId2 k m) ∧ typeOf (.builtin (meId2 k m)) = pure (.type "method_descriptor") := by
  cases k <;> cases m <;> simp [okMe2] at h
  · exact ⟨by simp, F.plainAttrs_dict, F.slot_dict_update, F.type_dict_update⟩
theorem me2_ok (hK : X.K = R.K) (hw : X.w = R.w) (hu : X.A.units + 100 < cLine) (r : RS R as s hs σ H) {m : Me} {k : Kd} {o : Val} {ox : V} (ok : okMe2 k m = true) (ro : RV R as H o ox) {vs : List Val} {xs : List V} (rs : RVs R as H vs xs)
    (h : Pst R W s σ (KV1 R Q) as H (meK k m o vs hs)) : WMt X (meId2 k m) ox xs H Q := by
  unfold meK at h
  split at h
  rotate_left
  · exact h.elim
  rename_i hkd
  cases k <;> cases m <;> simp [okMe2] at ok
  have hn : ∃ n kvs, o = .ref n ∧ (hs[n]? = some (.dict kvs) ∨ hs[n]? = some (.frz (.dict kvs))) := by
    unfold isKd kdOf at hkd
    cases o with
    | ref n =>
      refine ⟨n, ?_⟩
      simp only at hkd
      cases e : hs[n]? with
      | none => rw [e] at hkd; cases hkd
      | some ob =>
        rw [e] at hkd
        cases ob with
        | dict kvs => exact ⟨kvs, rfl, .inl rfl⟩
        | frz q =>
          cases q with
          | dict kvs => exact ⟨kvs, rfl, .inr rfl⟩
          | _ => cases hkd
        | _ => cases hkd
    | _ => cases hkd
  obtain ⟨n, kvs, rfl, e⟩ := hn
  unfold RV at ro
  obtain ⟨d, ed, rfl⟩ := ro
  rcases e with e | e
  rotate_left
  · unfold meV at h
    simp only [e] at h
    exact h.elim
  unfold meV at h
  simp only [e] at h
  cases vs with
  | nil => exact h.elim
  | cons a t =>
    cases t with
    | cons b c => exact absurd h (by cases a <;> exact id)
    | nil =>
      cases a with
      | ref j =>
        simp only at h
        unfold RVs at rs
        obtain ⟨z, t, rfl, r1, r2⟩ := rs
        unfold RVs at r2
        subst r2
        unfold RV at r1
        obtain ⟨ob, eo, rfl⟩ := r1
        split at h
        · rename_i more em
          split at h
          · rename_i hz
            simp only [Bool.and_eq_true, Bool.not_eq_true'] at hz
            obtain ⟨⟨h1, h2⟩, h3⟩ := hz
            have h1 := Nat.le_of_ble_eq_true h1
            exact update_ok hK hw hu r e em ed eo (fun z => by rw [z] at h3; cases h3) (by rw [sizeLine_eq]; exact h1) (Nat.ne_of_beq_eq_false h2) h
          · exact h.elim
        · exact h.elim
      | _ => exact h.elim
end
end Kn
namespace KnK
open PySem PyProof.Rows
section
variable {prog : Program} {w : World} {A : Around} {E : Value → Shared → Prop} {s : Shared} {d : Addr} {l : L3} {k : NestedKey} {u : Value}
theorem takeOut_N {Q : Option DictEntry → Shared → Prop} (hu : A.units + 8 < cLine) (hkey : NestedIs s.heap k u) (hkd : k.depth ≤ 8) (hm : DictN w s.heap d l)
    (h1 : k ∉ l.map (·.1) → ∀ t, Q none { s with toks := t })
    (h2 : ∀ j p, l[j]? = some (k, p) → ∀ e h' t, e.val = p.2 → DictN w h' d (l.eraseIdx j) → Heap.SameBut d s.heap h' → Q (some e) { s with heap := h', toks := t }) (hsz : l.length ≤ sizeLine) :
    wpAny (model prog w) A (Builtin.Dict.takeOut d u) Q E s := by
  obtain ⟨o, es, ep, ho, hc, hd, he, his, hn⟩ := hm
  have hz : es.size = l.length := by rw [← Array.length_toList, he, List.length_map]
  unfold Builtin.Dict.takeOut
  try with_reducible refine wpAny_holding ?_
  refine wpAny_bind (pyHash_key k u A s _ hkey (by omega) ?_)
  refine wpAny_bind (find_any (s := { s with toks := s.toks + k.draws }) hu hkey hkd ho hd (keys_of he his) hn (fun hno => ?_) fun j hj => ?_)
  · exact wpAny_pure (h1 hno _)
  · obtain ⟨p, hp⟩ := at_of hj
    have e1 : es[j]? = some (ent w (k, p)) := by rw [← Array.getElem?_toList, he, List.getElem?_map, hp]; rfl
    refine wpAny_bind (wpAny_dictEntries (s := { s with toks := s.toks + k.draws }) ho hd ?_)
    rw [e1]
    refine wpAny_bind (wpAny_updateDictKeys (hz := by omega) (s := { s with toks := s.toks + k.draws }) ho hd (wpAny_pure (h2 j p hp _ _ _ rfl ⟨_, _, ep + 1, Heap.get?_update_self _ ho (Obj.isFreed_of_dict (Obj.data_mapDictKeys hd _)), hc.mapDictKeys _, Obj.data_mapDictKeys hd _, ?_, fun q hq => ?_, ?_⟩ (Heap.SameBut.update ..))))
    · have : ∀ (a : List (NestedKey × Value × Value)) (j : Nat), (a.eraseIdx j).map (ent w) = (a.map (ent w)).eraseIdx j := fun a => by
        induction a with
        | nil => intro j; simp
        | cons x r ih => intro j; cases j <;> simp [ih]
      rw [this, ← he]
      obtain ⟨q⟩ := es
      simp
    · have hq := List.mem_of_mem_eraseIdx hq
      exact ⟨keep_is ho hd (Heap.SameBut.update ..) (his q hq).1, (his q hq).2⟩
    · exact hn.sublist ((List.eraseIdx_sublist l j).map _)
theorem pop2_N {x : Value} {Q : Value → Shared → Prop} (hu : A.units + 9 < cLine) (hkey : NestedIs s.heap k u) (hkd : k.depth ≤ 8) (hd : (d == sysModules) = false) (hm : DictN w s.heap d l)
    (h1 : k ∉ l.map (·.1) → ∀ t, Q x { s with toks := t })
    (h2 : ∀ j p, l[j]? = some (k, p) → ∀ h' t, DictN w h' d (l.eraseIdx j) → Heap.SameBut d s.heap h' → Q p.2 { s with heap := h', toks := t }) (hsz : l.length ≤ sizeLine) :
    wpAny (model prog w) A (PySem.call (.builtin "dict.pop") [.ref d, u, x]) Q E s := by
  refine call_meetsIn F.slot_dict_pop hm.typeIs F.entry_dict_pop (F.args_dict_pop_3 _ _ _)
    (S := fun A' R s' => A' = A ∧ s' = s ∧ (k ∉ l.map (·.1) → ∀ t, R (.ok (.ret x)) { s with toks := t }) ∧ (∀ j p, l[j]? = some (k, p) → ∀ h' t, DictN w h' d (l.eraseIdx j) → Heap.SameBut d s.heap h' → R (.ok (.ret p.2)) { s with heap := h', toks := t })) (.of_wp fun A' R s' hS => ?_) ⟨rfl, rfl, h1, h2⟩
  obtain ⟨rfl, rfl, g1, g2⟩ := hS
  obtain ⟨o, es, ep, ho, hc, hdat, he, his, hn⟩ := id hm
  have hz : es.size = l.length := by rw [← Array.length_toList, he, List.length_map]
  unfold Builtin.«dict.pop»
  refine wpAny_bind ?_
  unfold Builtin.Dict.keyAndDefault
  refine wpAny_bind (wpAny_notOrdered_dict hm.typeIs ?_)
  show wpAny _ _ (pure (d, u, some x)) _ _ _
  refine wpAny_pure ?_
  have take : wpAny (model prog w) A'.in1 (Builtin.Dict.takeOut d u) (fun old s₁ => wpAny (model prog w) A'.in1 (do
      if old.isNone then Builtin.Dict.missedRemoval d u
      match old, some x with
      | some e, _ => letGo [e.key] [e.val]; ret e.val
      | none, some x => rule "dict.pop.default"; ret x
      | none, none => rule "dict.pop.keyerror"; raiseNew (← newExc (.type "KeyError") [u])) (fun r s₂ => ∃ v, r = Fin.done (.ret v) ∧ R (.ok (.ret v)) s₂) (fun e s₂ => R (.error e) s₂) s₁) (fun e s₂ => R (.error e) s₂) s' := by
    refine takeOut_N (show A'.in1.units + 8 < cLine by show A'.units + 1 + 8 < cLine; omega) hkey hkd hm (fun hno t => ?_) (fun j p hp e h' t ev dn sb => ?_) hsz
    · simp only [Option.isNone_none, if_true]
      refine wpAny_bind (wpAny_missedRemoval_other hd ?_)
      exact wpAny_bind (wpAny_rule (wpAny_pure ⟨x, rfl, g1 hno t⟩))
    · simp only [Option.isNone_some, Bool.false_eq_true, if_false]
      exact wpAny_bind (wpAny_letGo (wpAny_pure ⟨e.val, rfl, by rw [ev]; exact g2 j p hp h' t dn sb⟩))
  have dflt : ∀ t, k ∉ l.map (·.1) → wpAny (model prog w) A'.in1 (do
      if (none : Option DictEntry).isNone then Builtin.Dict.missedRemoval d u
      match (none : Option DictEntry), some x with
      | some e, _ => letGo [e.key] [e.val]; ret e.val
      | none, some x => rule "dict.pop.default"; ret x
      | none, none => rule "dict.pop.keyerror"; raiseNew (← newExc (.type "KeyError") [u])) (fun r s₂ => ∃ v, r = Fin.done (.ret v) ∧ R (.ok (.ret v)) s₂) (fun e s₂ => R (.error e) s₂) { s' with toks := t } := fun t hno => by
    simp only [Option.isNone_none, if_true]
    refine wpAny_bind (wpAny_missedRemoval_other hd ?_)
    exact wpAny_bind (wpAny_rule (wpAny_pure ⟨x, rfl, g1 hno t⟩))
  by_cases hp : (keyPart u).isSome = true
  · simp only [hp, if_true]
    refine wpAny_bind (wpAny_pure ?_)
    simp only [Bool.false_eq_true, if_false]
    exact wpAny_bind take
  · simp only [hp, Bool.false_eq_true, if_false]
    refine wpAny_bind (wpAny_dictEntries ho hdat (wpAny_bind (wpAny_pure ?_)))
    by_cases hemp : es.isEmpty = true
    · have hx : l = [] := by
        have h0 : es.size = 0 := by simpa using hemp
        exact List.length_eq_zero_iff.mp (by omega)
      rw [if_pos hemp]
      refine wpAny_bind (wpAny_rule (wpAny_bind (wpAny_pure ?_)))
      exact dflt s'.toks (by rw [hx]; simp)
    · rw [if_neg hemp]
      exact wpAny_bind take
end
end KnK
namespace Kn
open PySem L2 KnK
section
variable {X : Cx} {R : Rp} {W : WX} {s : St} {σ : L2.St} {as : List Addr} {H : Hp} {hs : Hs} {Q : VK} {a b : Val} {x y : V}
theorem RKv.erase : ∀ {kvs : List (Val × Val)} {l : List (NestedKey × V × V)} {k : Val} {j : Nat} {p : V × V}, isKey k = true → RKv R as H kvs l → (l.map (·.1)).Nodup → l[j]? = some (nk k, p) → (∃ v, dGet kvs k = some v ∧ RV R as H v p.2) ∧ RKv R as H (dDel kvs k) (l.eraseIdx j)
  | [], _, k, j, p, _, r, _, e => by unfold RKv at r; subst r; simp at e
  | (q, v) :: t, _, k, j, p, hk, r, nd, e => by
    unfold RKv at r
    obtain ⟨c, x, z, rfl, h0, h1, h2, h3⟩ := r
    rw [List.map_cons, List.nodup_cons] at nd
    unfold dGet dDel
    cases j with
    | zero =>
      simp only [List.getElem?_cons_zero, Option.some.injEq, Prod.mk.injEq] at e
      obtain ⟨e1, rfl⟩ := e
      have := nk_inj 6 6 q k h0 hk e1
      subst this
      rw [if_pos (vEq_self q), if_pos (vEq_self q)]
      exact ⟨⟨v, rfl, h2⟩, h3⟩
    | succ j =>
      simp only [List.getElem?_cons_succ] at e
      have hm : nk k ∈ z.map (·.1) := List.mem_map.mpr ⟨_, List.mem_of_getElem? e, rfl⟩
      have hne : ¬ vEq q k = true := fun z => nd.1 (by rw [vEq_iff.mp z]; exact hm)
      rw [if_neg hne, if_neg hne]
      obtain ⟨i1, i2⟩ := RKv.erase hk h3 nd.2 e
      exact ⟨i1, ⟨c, x, _, rfl, h0, h1, h2, i2⟩⟩
theorem dDel_none {k : Val} : ∀ {kvs : List (Val × Val)}, dGet kvs k = none → dDel kvs k = kvs
  | [], _ => rfl
  | (q, v) :: t, e => by
    unfold dGet at e
    unfold dDel
    split at e
    · cases e
    · rename_i h; rw [if_neg h, dDel_none e]
theorem dpop_ok (hK : X.K = R.K) (hw : X.w = R.w) (hu : X.A.units + 100 < cLine) (r : RS R as s hs σ H) {n : Nat} {kvs : List (Val × Val)} (e : hs[n]? = some (.dict kvs)) {d : Addr} (ed : as[n]? = some d) {k dv : Val} {kx dx : V} (hk : isKey k = true) (rk : RV R as H k kx) (rdv : RV R as H dv dx)
    (h : Pst R W s σ (KV1 R Q) as H (match dGet kvs k with
        | some v => .ok v (hs.set n (.dict (dDel kvs k)))
        | none => .ok dv hs)) : WMt X "dict.pop" (.ref d) [kx, dx] H Q := by
  intro pins sh σ' v us I rx rs
  obtain rfl : v = .ref d := rx
  obtain ⟨u, u2, rfl, ru, ru2⟩ := Vals.two rs
  obtain ⟨d', l, f1, f2, rkv, nd⟩ := r.objD e
  rw [ed] at f1; cases f1
  obtain ⟨l3, dn, p3, hd, hz⟩ := dx_in hK hw I (I.hok _ _ f2) rkv nd
  have g := get_rel hk rkv p3
  refine pop2_N (by omega) (key_is hK I 6 k kx u hk rk ru) (isKey_depth hk) hd dn (fun hno t => ?_) (fun j p hp h' t dn' sb => ?_) (by rw [← P3.len p3]; exact hz)
  · cases e1 : dGet kvs k with
    | none => rw [e1] at h; exact ⟨dx, H, I.tok t, ru2, h.here r rdv⟩
    | some w =>
      obtain ⟨zz, uz, e2, e3, e4⟩ := g.1 w e1
      rw [lkN_none hno] at e2; cases e2
  · have hl : ∃ q : V × V, l[j]? = some (nk k, q) ∧ RelV q.2 p.2 := by
      have : ∀ {l : List (NestedKey × V × V)} {l3 : L3}, Paired P3 l l3 → ∀ {j : Nat}, l3[j]? = some (nk k, p) → ∃ q : V × V, l[j]? = some (nk k, q) ∧ RelV q.2 p.2 := by
        intro l l3 pp
        induction pp with
        | nil => intro j e; simp at e
        | @cons a b c e2 r1 r2 ih =>
          intro j e
          cases j with
          | zero =>
            simp only [List.getElem?_cons_zero, Option.some.injEq] at e
            subst e
            exact ⟨a.2, by rw [List.getElem?_cons_zero]; obtain ⟨q1, q2⟩ := a; have := r1.1; simp only at this; rw [this], r1.2.2⟩
          | succ j => simpa using ih (by simpa using e)
      exact this p3 hp
    obtain ⟨q, hq, rq⟩ := hl
    obtain ⟨⟨w, e1, e2⟩, e3⟩ := RKv.erase hk rkv nd hq
    rw [e1] at h
    have p3' : Paired P3 (l.eraseIdx j) (l3.eraseIdx j) := by
      have : ∀ {l : List (NestedKey × V × V)} {l3 : L3}, Paired P3 l l3 → ∀ j, Paired P3 (l.eraseIdx j) (l3.eraseIdx j) := by
        intro l l3 pp
        induction pp with
        | nil => intro j; exact .nil
        | cons r1 r2 ih =>
          intro j
          cases j with
          | zero => exact r2
          | succ j => exact .cons r1 (ih j)
      exact this p3 j
    have nd' : ((l.eraseIdx j).map (·.1)).Nodup := nd.sublist ((List.eraseIdx_sublist l j).map _)
    obtain ⟨kp, rr⟩ := r.write (o' := .dict (dDel kvs k)) (u' := DX R.w d (l.eraseIdx j)) e ed f2 trivial ⟨_, rfl, e3, nd'⟩
    have he : ∃ u, h'.get? d = some u := by
      obtain ⟨o, _, _, ho, _⟩ := dn'
      exact ⟨o, ho⟩
    refine ⟨q.2, upd H d (DX R.w d (l.eraseIdx j)), I.write (e := d) (t' := t) (by rw [f2]; trivial) (.inl rfl) (fun b u hb hu => (sb.2 b hb).trans hu) he ?_, rq, h as _ PfxA.refl kp rr _ (RV.mono PfxA.refl kp _ _ e2)⟩
    rw [← hw]
    exact dx_new dn' p3' hd (Nat.le_trans (List.length_eraseIdx_le l j) hz)
/-- tuple.count of flat things -/
theorem mt_countT : MtR X "tuple.count" (fun x xs H Q => ∃ (p : Addr) (ys : List V) (y : V), x = .ref p ∧ xs = [y] ∧ SqT X.K H p ys ∧ flatV y = true ∧ ys.all flatV = true ∧ Q (.int (ys.countP fun z => eqV z y : Nat)) H) := by
  intro pins s σ H x xs v us Q I rx rxs h
  obtain ⟨p, ys, y, rfl, rfl, hq, fy, fs, q⟩ := h
  cases rx
  obtain ⟨u, rfl, ry⟩ := Vals.one rxs
  obtain ⟨its, r, ⟨⟨cls, dd, data, sl⟩, ho, hc, n, hd⟩, hz⟩ := I.tuple hq
  simp only at hc hd
  subst hc hd
  refine call_meets PySem.F.slot_tuple_count ⟨_, ho, rfl⟩ PySem.F.entry_tuple_count (PySem.F.args_tuple_count_2 _ _)
    (SeqAt.tuple_countAt p its.toArray n dd sl u (eqU y)) ⟨ho, fun w hw => mem_eqAt ry fy r fs w (by simpa using hw), ?_⟩
  have e : ∀ {its : List Value} {ys : List V}, Vals ys its → ys.all flatV = true → its.countP (eqU y) = ys.countP fun z => eqV z y := by
    intro its ys r
    induction r with
    | nil => intro _; rfl
    | cons r1 r2 ih =>
      intro hf
      simp only [List.all_cons, Bool.and_eq_true] at hf
      rw [List.countP_cons, List.countP_cons, ih hf.2]
      have := any_eqU (x := y) (Paired.cons r1 .nil) (by simp [hf.1])
      simp only [List.any_cons, List.any_nil, Bool.or_false] at this
      rw [this]
  exact ⟨.int (ys.countP fun z => eqV z y : Nat), H, I.tok _, ⟨s.toks, by simp [e r fs]⟩, q⟩
theorem rev_last {α : Type} {vs r : List α} {v : α} (h : vs.reverse = v :: r) : vs = r.reverse ++ [v] := by
  have := congrArg List.reverse h
  simpa using this
theorem lpop_ok (r : RS R as s hs σ H) {n : Nat} {vs : List Val} (e : hs[n]? = some (.list vs)) {d : Addr} (ed : as[n]? = some d)
    (h : Pst R W s σ (KV1 R Q) as H (match vs.reverse with
        | v :: r => .ok v (hs.set n (.list r.reverse))
        | [] => .no)) : WMt X "list.pop" (.ref d) [] H Q := by
  obtain ⟨d', ys, f1, f2, f3⟩ := r.h.list e
  rw [ed] at f1; cases f1
  cases ev : vs.reverse with
  | nil => rw [ev] at h; exact h.elim
  | cons v t =>
    rw [ev] at h
    have hv := rev_last ev
    have f4 := f3.reverse
    rw [ev] at f4
    unfold RVs at f4
    obtain ⟨z, q, ez, r1, r2⟩ := f4
    have hy := rev_last ez
    obtain ⟨kp, rr⟩ := r.write (o' := .list t.reverse) (u' := .lst q.reverse) e ed f2 trivial ⟨_, rfl, r2.reverse⟩
    refine WMt.of mt_pop ⟨d, ys, z, rfl, rfl, f2, by rw [hy]; simp, ?_⟩
    have : ys.dropLast = q.reverse := by rw [hy]; simp
    rw [this]
    exact h as _ PfxA.refl kp rr _ (RV.mono PfxA.refl kp _ _ r1)
theorem lpopAt_ok (r : RS R as s hs σ H) {n : Nat} {vs : List Val} (e : hs[n]? = some (.list vs)) {d : Addr} (ed : as[n]? = some d) {i : Int}
    (h : Pst R W s σ (KV1 R Q) as H (if decide (0 ≤ i) then (match vs[i.toNat]? with
        | some v => .ok v (hs.set n (.list (vs.eraseIdx i.toNat)))
        | none => .no) else .no)) : WMt X "list.pop" (.ref d) [.int i] H Q := by
  intro pins sh σ' v0 us I rx rs
  obtain ⟨d', ys, f1, f2, f3⟩ := r.h.list e
  rw [ed] at f1; cases f1
  split at h
  rotate_left
  · exact h.elim
  rename_i hi
  have hi : 0 ≤ i := by simpa using hi
  cases ev : vs[i.toNat]? with
  | none => rw [ev] at h; exact h.elim
  | some v =>
    rw [ev] at h
    obtain ⟨z, e1, e2⟩ := f3.get ev
    have hlt : i.toNat < ys.length := (List.getElem?_eq_some_iff.mp e1).1
    have hl := f3.len
    have hz : ys.length ≤ sizeLine := (I.hok d _ f2).1
    rw [sizeLine_eq] at hz
    obtain ⟨kp, rr⟩ := r.write (o' := .list (vs.eraseIdx i.toNat)) (u' := .lst (ys.eraseIdx i.toNat)) e ed f2 trivial ⟨_, rfl, f3.eraseIdx _⟩
    refine mt_popAt pins sh σ' H _ _ v0 us Q I rx rs ⟨d, ys, i, i.toNat, z, rfl, rfl, f2, by omega, by omega, ?_, e1, h as _ PfxA.refl kp rr _ (RV.mono PfxA.refl kp _ _ e2)⟩
    unfold seqIndex?
    have : ¬ i < 0 := by omega
    simp [this]
    omega
def meId3 : Kd → Me → String
  | .list, .pop => "list.pop"
  | .dict, .pop => "dict.pop"
  | _, _ => ""
theorem me3_slot {k : Kd} {m : Me} (h : okMe3 k m = true) : k ≠ .tuple ∧ PlainAttrs (kdT k) ∧ Slot (kdT k) (meN m) (meId3 k m) ∧ typeOf (.builtin (meId3 k m)) = pure (.type "method_descriptor") := by
  cases k <;> cases m <;> simp [okMe3] at h
  · exact ⟨by simp, F.plainAttrs_list, F.slot_list_pop, F.type_list_pop⟩
  · exact ⟨by simp, F.plainAttrs_dict, F.slot_dict_pop, F.type_dict_pop⟩
theorem me3_ok (hK : X.K = R.K) (hw : X.w = R.w) (hu : X.A.units + 100 < cLine) (r : RS R as s hs σ H) {m : Me} {k : Kd} {o : Val} {ox : V} (ok : okMe3 k m = true) (ro : RV R as H o ox) {vs : List Val} {xs : List V} (rs : RVs R as H vs xs)
    (h : Pst R W s σ (KV1 R Q) as H (meK k m o vs hs)) : WMt X (meId3 k m) ox xs H Q := by
  unfold meK at h
  split at h
  rotate_left
  · exact h.elim
  rename_i hkd
  cases o with
  | ref n =>
    unfold RV at ro
    obtain ⟨d, ed, rfl⟩ := ro
    unfold meV at h
    simp only at h
    cases eo : hs[n]? with
    | none => rw [eo] at h; exact h.elim
    | some ob =>
      rw [eo] at h
      have ek := kdOf_ref eo
      unfold isKd at hkd
      rw [ek] at hkd
      cases ob with
      | list ws =>
        cases k <;> simp [kdO] at hkd
        cases m <;> simp [okMe3] at ok
        simp only at h
        cases vs with
        | nil =>
          unfold RVs at rs
          subst rs
          exact lpop_ok r eo ed h
        | cons a t =>
          cases t with
          | cons b c => exact absurd h (by cases a <;> exact id)
          | nil =>
            cases a with
            | int i =>
              unfold RVs at rs
              obtain ⟨z, t, rfl, r1, r2⟩ := rs
              unfold RVs at r2
              subst r2
              unfold RV at r1
              subst r1
              simp only at h
              exact lpopAt_ok r eo ed h
            | _ => exact h.elim
      | dict kvs =>
        cases k <;> simp [kdO] at hkd
        cases m <;> simp [okMe3] at ok
        simp only at h
        cases vs with
        | nil => exact h.elim
        | cons a t =>
          cases t with
          | nil => exact h.elim
          | cons b c =>
            cases c with
            | cons _ _ => exact h.elim
            | nil =>
              simp only at h
              unfold RVs at rs
              obtain ⟨z, t, rfl, r1, r2⟩ := rs
              unfold RVs at r2
              obtain ⟨z2, t2, rfl, r3, r4⟩ := r2
              unfold RVs at r4
              subst r4
              split at h
              · rename_i hk
                exact dpop_ok hK hw hu r eo ed hk r1 r3 h
              · exact h.elim
      | inst c fs => exact h.elim
      | lck ws =>
        cases k <;> simp [kdO] at hkd
        cases m <;> simp [okMe3] at ok
        cases vs <;> exact h.elim
      | frz q =>
        cases q with
        | list ws =>
          cases k <;> simp [kdO] at hkd
          cases m <;> simp [okMe3] at ok
          cases vs <;> exact h.elim
        | dict kvs =>
          cases k <;> simp [kdO] at hkd
          cases m <;> simp [okMe3] at ok
          cases vs <;> exact h.elim
        | _ => simp [kdO] at hkd
  | _ =>
    unfold isKd kdOf at hkd
    cases k <;> cases m <;> first | (simp [okMe3] at ok; done) | (simp at hkd; done)
end
end Kn
namespace Kn
open PySem L2 KnK
/-- the text's names -/
structure Nm where
  fn : List Str
  cst : List Str
  exc : List Str
  cls : List Str
  fld : List Str
  mth : List Str
  wh : Nat
  brn : Nat
/-- the ways in which a def with the two last parameters father=None, mother=None is called -/
structure BornB (K : PySem.W.Frag) (fd : FuncData) (ps : List Str) : Prop where
  n : ps.length = 5
  b0 : ∃ d, Vals [V.non, V.non] d ∧ Binds K fd ps d
  b1 : KBn K fd ps 3 ["mother"] (fun us ws => us ++ Value.none :: ws) (fun vs zs => vs ++ V.non :: zs)
  b2 : KBn K fd ps 3 ["father", "mother"] (fun us ws => us ++ ws) (fun vs zs => vs ++ zs)
/-- a def's promise: what the evaluator says of its call -/
def spOf (R : Rp) (call : CallF) (n : Nat) (f : Nat) : Sp := fun xs H Q E => ∃ fz as hs vs, RH (R.wf fz) as hs H ∧ RVs R as H vs xs ∧ vs.length = n ∧ (match call f vs hs with
  | .ok v hs' => ∀ as' H' x, PfxA as as' → Kp R H H' → RH (R.wf fz) as' hs' H' → RV R as' H' v x → Q x H'
  | .ex c hs' => ∀ as' H', PfxA as as' → Kp R H H' → RH (R.wf fz) as' hs' H' → E (.ref (R.xc c)) none H'
  | .no => False)
/-- what the def that names an exception promises, called while it is held: it runs as on an empty heap -/
def FnW (R : Rp) (G : Glo) (call : CallF) (f : Nat) (P : Program) (w : World) (K : PySem.W.Frag) (mg : Str → Option Value) (base : Heap) (j : Nat) (fa : Addr) (fd : FuncData) (ps : List Str) : Prop :=
  ∀ (k : Nat) (l : List Nat) (v : Val) (h' : Hs), G.exc[k]? = some l → call f [.exc k] [] = .ok v h' → pureV v = true →
    ∀ (A : Around) (outer : List Env) (s : Shared) (H : Hp) (args : Args) (a : Addr) (oe : PySem.Obj) (Q : VK) (E : XK), L2H.RoomH j A → L2H.Hot1 A (a, oe) → L2H.PinOk outer H s (a, oe) → Env0 P w K mg base A outer s H → BindsTo s fd args (ps.zip [.ref a]) →
      L2N.Zn (.ref (R.xc k)) none oe → (∀ H' x, (∀ b u, H b = some u → H' b = some u) → Kp R H H' → RV R [] H' v x → Q x H') → codeAny (model P w) A (.call (.ref fa) args) (CR (L2N.CX P w) outer P w H s Q E) s
def bmV : List Value := [.type "ValueError", .type "Exception", .type "BaseException", .type "object"]
/-- the names of built-ins that must stand -/
def bltNames : List Str := ["len", "all", "any", "sum", "tuple", "list", "divmod", "str", "int", "bool", "isinstance", "range", "sorted", "set", "min", "dict", "enumerate", "ValueError"]
/-- where a piece stands -/
structure Cok (X : Cx) (R : Rp) (W : WX) (G : Glo) (call : CallF) (nm : Nm) : Prop where
  hK : X.K = R.K
  hw : X.w = R.w
  nd : X.N.Nodup
  hu : X.A.units + 100 < cLine
  tk : L2N.Takes X W
  blt : ∀ x ∈ bltNames, X.mg x = none
  cst : ∀ (g : Nat) (v : Val) (x : Str), G.cst[g]? = some v → nm.cst[g]? = some x → (x == ("__debug__" : Str)) = false ∧ ∃ u xv, X.mg x = some u ∧ RelV xv u ∧ ∀ as H, RV R as H v xv
  fns : X.calm = true → ∀ (f : Nat) (F : Fn) (x : Str), G.fns[f]? = some F → nm.fn[f]? = some x → (x == ("__debug__" : Str)) = false ∧ ∃ fa fd ps j, X.mg x = some (.ref fa) ∧ PySem.W.keepIn X.K (.ref fa) = true ∧ Binds X.K fd ps [] ∧ ps.length = F.pars ∧ Room j X.A ∧
    FnOk X.prog X.w X.K X.mg X.base (L2N.CX X.prog X.w) j fa fd ps (spOf R call F.pars f)
  xo0 : X.calm = true → ∀ (k : Nat) (a : Addr), ¬ R.xo k a
  fldN : ∀ (f : Nat) (x : Str), nm.fld[f]? = some x → R.fd f = x
  clsO : ∀ (c : Nat) (k : Kn.Cls), G.cls[c]? = some k → L2.Cls X.K (R.cl c) ∧ ∀ x ∈ nm.fld, NoAttr X.K (R.cl c) x
  mths : X.calm = true → ∀ (c : Nat) (k : Kn.Cls) (m f : Nat) (F : Fn) (x : Str), G.cls[c]? = some k → alist k.meths m = some f → G.fns[f]? = some F → nm.mth[m]? = some x → (∀ f, R.fd f ≠ x) ∧ ∃ fa fd ps j, Meth X.K (R.cl c) x fa ∧ Binds X.K fd ps [] ∧ ps.length = F.pars ∧ Room (j + 1) X.A ∧
    FnOk X.prog X.w X.K X.mg X.base (L2N.CX X.prog X.w) j fa fd ps (spOf R call F.pars f)
  brns : X.calm = true → ∀ (c : Nat) (k : Kn.Cls) (f : Nat) (F : Fn) (x : Str), G.cls[c]? = some k → alist k.meths nm.brn = some f → G.fns[f]? = some F → nm.mth[nm.brn]? = some x → (∀ f, R.fd f ≠ x) ∧ ∃ fa fd ps j, Meth X.K (R.cl c) x fa ∧ BornB X.K fd ps ∧ ps.length = F.pars ∧ Room j X.A ∧
    FnOk X.prog X.w X.K X.mg X.base (L2N.CX X.prog X.w) j fa fd ps (spOf R call F.pars f)
  exs : ∀ (k : Nat) (a : Addr), R.xo k a → ∃ oe, (a, oe) ∈ X.pn ∧ L2N.Zn (.ref (R.xc k)) none oe ∧ ∃ vs, oe.data = .fields vs
  excs : ∀ (k : Nat) (l : List Nat), G.exc[k]? = some l → L2.ExcC X.K (R.xc k)
  exN : ∀ (c : Nat) (x : Str), nm.exc[c]? = some x → (x == ("__debug__" : Str)) = false ∧ ∃ cv cx, (X.mg x = some cv ∨ (X.mg x = none ∧ bootBuiltins x = some cv ∧ x ≠ "__name__")) ∧ RelV cx cv ∧ (∀ u, RelV cx u → u = cv) ∧
    ∀ (k : Nat) (l : List Nat), G.exc[k]? = some l → PySem.W.kitOne X.K (.ref (R.xc k)) cv = some (l.contains c)
  exm : ∀ (c : Nat) (x : Str), nm.exc[c]? = some x → (G.exc[c]?).isSome = true → X.mg x = some (.ref (R.xc c)) ∧ ∀ (k : Nat) (l : List Nat), G.exc[k]? = some l → PySem.W.exmOne X.K (.ref (R.xc k)) (.ref (R.xc c)) = some (l.contains c)
  rais : ∀ (c : Nat), (G.exc[c]?).isSome = true → PySem.W.keepIn X.K (.ref (R.xc c)) = true ∧ Raises X (.ref (R.xc c)) ∧ PySem.W.excIn X.K (R.xc c) bmV "ValueError.__new__" = true
  whO : X.calm = true → ∀ (x : Str), nm.fn[nm.wh]? = some x → (x == ("__debug__" : Str)) = false ∧ ∃ fa fd ps j, X.mg x = some (.ref fa) ∧ PySem.W.keepIn X.K (.ref fa) = true ∧ Binds X.K fd ps [] ∧ ps.length = 1 ∧ L2H.RoomH j X.A ∧ FnW R G call nm.wh X.prog X.w X.K X.mg X.base j fa fd ps
  news : X.calm = true → ∀ (c : Nat) (k : Kn.Cls) (F : Fn) (x : Str), G.cls[c]? = some k → G.fns[k.init]? = some F → nm.cls[c]? = some x → (x == ("__debug__" : Str)) = false ∧ X.mg x = some (.ref (R.cl c)) ∧ ∃ fa fd ps j, Mk X.K (R.cl c) fa ∧ Binds X.K fd ps [] ∧ ps.length = F.pars ∧ Room (j + 1) X.A ∧
    FnOk X.prog X.w X.K X.mg X.base (L2N.CX X.prog X.w) j fa fd ps (spOf R call F.pars k.init)
theorem if_tt {P Q : Prop} (h : P) : (if true = true then P else Q) := by rw [if_pos rfl]; exact h
theorem if_ff {P Q : Prop} (h : Q) : (if false = true then P else Q) := by rw [if_neg (by decide)]; exact h
section
variable {X : Cx} {R : Rp} {W : WX} {G : Glo} {call : CallF} {nm : Nm}
def OkE (X : Cx) (R : Rp) (W : WX) (G : Glo) (call : CallF) (e : E) (pe : Expr) : Prop := ∀ as s hs σ H Q, RS R as s hs σ H → Pst R W s σ (KV1 R Q) as H (evE G call e s hs) → WpE X pe σ H Q
def OkT (X : Cx) (R : Rp) (W : WX) (G : Glo) (call : CallF) (e : E) (pe : Expr) : Prop := ∀ as s hs σ H Q, RS R as s hs σ H → Pst R W s σ (KB Q) as H (evE G call e s hs) → WpT X pe σ H Q
def OkW (X : Cx) (R : Rp) (W : WX) (G : Glo) (call : CallF) (e : E) (pe : Expr) : Prop := ∀ as s hs σ H Q, RS R as s hs σ H → Pst R W s σ (KB Q) as H (evE G call e s hs) → WpW X pe σ H Q
def OkEs (X : Cx) (R : Rp) (W : WX) (G : Glo) (call : CallF) (es : Es) (pes : List Expr) : Prop := ∀ as s hs σ H Q, RS R as s hs σ H → Pst R W s σ (KVs R Q) as H (evEs G call es s hs) → WpA X pes σ H Q
theorem ok_var {i : Nat} {x : Str} {pos : Pos} (hN : X.N[i]? = some x) (hv : Vis X.env.scope x) (hd : (x == ("__debug__" : Str)) = false) (hcd : (x == ("__classdict__" : Str)) = false) : OkE X R W G call (.var i) (.Name x pos) := by
  intro as s hs σ H Q r h
  unfold evE at h
  split at h
  · rename_i v e
    obtain ⟨z, e1, e2⟩ := r.val i v e
    exact WpE.of (pe_var hN hv hd hcd) ⟨z, e1, h.here r e2⟩
  · exact h.elim
theorem ok_non {k : Nat} {pos : Pos} : OkE X R W G call (.lit .non) (.Constant .none k pos) := fun as s hs σ H Q r h => by
  unfold evE at h
  exact WpE.of pe_non (h.here r (by unfold RV; rfl))
theorem ok_bl {b : Bool} {k : Nat} {pos : Pos} : OkE X R W G call (.lit (.bl b)) (.Constant (.bool b) k pos) := fun as s hs σ H Q r h => by
  unfold evE at h
  exact WpE.of pe_bl (h.here r (by unfold RV; rfl))
theorem ok_int {i : Int} {k : Nat} {pos : Pos} : OkE X R W G call (.lit (.int i)) (.Constant (.int i) k pos) := fun as s hs σ H Q r h => by
  unfold evE at h
  exact WpE.of pe_int (h.here r (by unfold RV; rfl))
theorem ok_str {t : Tx} {k : Nat} {pos : Pos} (g : Gd t) : OkE X R W G call (.lit (.str t)) (.Constant (.str (toS t)) k pos) := fun as s hs σ H Q r h => by
  unfold evE at h
  exact WpE.of pe_str (h.here r (by unfold RV; exact ⟨rfl, g⟩))
theorem ok_glob (C : Cok X R W G call nm) {g : Nat} {x : Str} {pos : Pos} (hx : nm.cst[g]? = some x) (hg : L2.Gl X x) : OkE X R W G call (.glob g) (.Name x pos) := fun as s hs σ H Q r h => by
  unfold evE at h
  obtain ⟨v, e, h⟩ := h.opt
  obtain ⟨hd, u, xv, e1, e2, e3⟩ := C.cst g v x e hx
  exact WpE.of (pe_glob hg e1 e2 hd) (h.here r (e3 as H))
theorem ok_nil : OkEs X R W G call .nil [] := fun as s hs σ H Q r h => by
  unfold evEs at h
  exact WpA.of pa_nil (h as H PfxA.refl Kp.refl r [] RVs.nil)
theorem ok_cons {e : E} {es : Es} {pe : Expr} {pes : List Expr} (h1 : OkE X R W G call e pe) (h2 : OkEs X R W G call es pes) (hs : starEach (pe :: pes) X.env = (false, eval pe X.env) :: starEach pes X.env) : OkEs X R W G call (.cons e es) (pe :: pes) := fun as s hs' σ H Q r h => by
  unfold evEs at h
  refine WpA.of (pa_cons (WpE.pe X pe) (WpA.pa X pes) hs) ?_
  refine h1 as s hs' σ H _ r (h.bind.imp fun v hs1 as1 H1 p1 k1 r1 h x hx => ?_)
  refine h2 as1 s hs1 σ H1 _ r1 (h.bind.imp fun vs hs2 as2 H2 p2 k2 r2 h xs hxs => ?_)
  exact h as2 H2 PfxA.refl Kp.refl r2 _ (RVs.cons (RV.mono p2 k2 _ _ hx) hxs)
theorem len_Es : ∀ {es : Es} {s : St} {hs hs' : Hs} {vs : List Val}, evEs G call es s hs = .ok vs hs' → True := fun _ => trivial
theorem ok_tup {es : Es} {pes : List Expr} {k : Nat} {pos : Pos} (h1 : OkEs X R W G call es pes) (hz : pes.length ≤ sizeLine) (hl : ∀ s hs vs hs', evEs G call es s hs = .ok vs hs' → vs.length = pes.length) : OkE X R W G call (.tup es) (.Tuple pes k pos) := fun as s hs σ H Q r h => by
  unfold evE at h
  refine WpE.of (pe_tup (WpA.pa X pes)) ?_
  cases e : evEs G call es s hs with
  | no => rw [e] at h; exact h.elim
  | ex c h' => exact h1 as s hs σ H _ r (by rw [e] at h ⊢; exact h)
  | ok vs h' =>
    have := hl s hs vs h' e
    refine h1 as s hs σ H _ r ?_
    rw [e] at h ⊢
    intro as1 H1 p1 k1 r1 xs hxs
    refine ⟨by rw [← hxs.len, this]; exact hz, fun p np => ?_⟩
    exact Pst.tup (Pst.from p1 k1 h) r1 hxs np
theorem ok_lst {es : Es} {pes : List Expr} {pos : Pos} (h1 : OkEs X R W G call es pes) (hz : pes.length ≤ sizeLine) (hl : ∀ s hs vs hs', evEs G call es s hs = .ok vs hs' → vs.length = pes.length) : OkE X R W G call (.lst es) (.List pes pos) := fun as s hs σ H Q r h => by
  unfold evE at h
  refine WpE.of (pe_lst (WpA.pa X pes)) ?_
  cases e : evEs G call es s hs with
  | no => rw [e] at h; exact h.elim
  | ex c h' => exact h1 as s hs σ H _ r (by rw [e] at h ⊢; exact h)
  | ok vs h' =>
    have := hl s hs vs h' e
    refine h1 as s hs σ H _ r ?_
    rw [e] at h ⊢
    intro as1 H1 p1 k1 r1 xs hxs
    refine ⟨by rw [← hxs.len, this]; exact hz, fun p np => ?_⟩
    exact Pst.new (Pst.from p1 k1 h) r1 np ⟨_, rfl, hxs⟩
theorem ok_dct0 (C : Cok X R W G call nm) {pos : Pos} : OkE X R W G call (.dct .nil) (.Dict [] [] pos) := fun as s hs σ H Q r h => by
  unfold evE evEs at h
  intro pins sh I
  have np : H sh.heap.objs.size = none := I.hok.fresh (Nat.le_refl _)
  refine wpAny_Dict_empty ⟨.ref sh.heap.objs.size, upd H sh.heap.objs.size (DX X.w sh.heap.objs.size []), I.laid (a := sh.heap.objs.size) (t' := sh.toks) (fun _ _ q => Heap.get?_push_of_some _ q) (Nat.le_refl _) ?_, rfl, ?_⟩
  · have hd : (sh.heap.objs.size == sysModules) = false := by
      have := (dk_empty (P := X.prog) (w := X.w) (H := H) sh.heap I.big).2.1
      exact this
    refine ⟨⟨hd, Nat.zero_le _, _, #[], 0, Heap.get?_push_size _ rfl, ⟨rfl, rfl, rfl⟩, rfl, .nil⟩, ⟨_, Heap.get?_push_size _ rfl⟩, fun h1 h2 ⟨a, b, o, es, ep, c, r⟩ k => ⟨a, b, o, es, ep, k o c, r⟩⟩
  · rw [C.hw]
    exact Pst.new h r np ⟨[], rfl, rfl, List.nodup_nil⟩
theorem ok_bin (C : Cok X R W G call nm) {o : Op} {a b : E} {pa pb : Expr} {pos : Pos} (ha : OkE X R W G call a pa) (hb : OkE X R W G call b pb) : OkE X R W G call (.bin o a b) (.BinOp pa (opT o) pb pos) := fun as s hs σ H Q r h => by
  unfold evE at h
  refine WpE.of (pe_op (WOp.r X _) (WpE.pe X pa) (WpE.pe X pb)) ?_
  refine ha as s hs σ H _ r (h.bind.imp fun v hs1 as1 H1 p1 k1 r1 h x hx => ?_)
  refine hb as1 s hs1 σ H1 _ r1 (h.bind.imp fun w hs2 as2 H2 p2 k2 r2 h y hy => ?_)
  exact bin_ok o C.hK r2 (RV.mono p2 k2 _ _ hx) hy h
theorem ok_cmp (C : Cok X R W G call nm) {c : Cm} {a b : E} {pa pb : Expr} {pos : Pos} (hm : behindInMarks (cmT c) pb = false) (ha : OkE X R W G call a pa) (hb : OkE X R W G call b pb) : OkE X R W G call (.cmp c a b) (.Compare pa [cmT c] [pb] pos) := fun as s hs σ H Q r h => by
  unfold evE at h
  refine WpE.of (pe_cmpR (WOp.r X _) (WpE.pe X pa) (WpE.pe X pb) hm) ?_
  refine ha as s hs σ H _ r (h.bind.imp fun v hs1 as1 H1 p1 k1 r1 h x hx => ?_)
  refine hb as1 s hs1 σ H1 _ r1 (h.bind.imp fun w hs2 as2 H2 p2 k2 r2 h y hy => ?_)
  exact cmp_ok c C.hK C.hw C.hu r2 (RV.mono p2 k2 _ _ hx) hy h
/-- a bool's wish -/
theorem KB.kv {Q : Bool → Hp → Prop} {s : St} {σ : L2.St} {as : List Addr} {H : Hp} {x : Out Val} (h : Pst R W s σ (KB Q) as H x) : Pst R W s σ (KV1 R fun x H => ∃ c, x = .bl c ∧ Q c H) as H x :=
  h.imp fun v hs as' H' _ _ _ ⟨b, e, q⟩ x hx => by
    subst e
    unfold RV at hx
    exact ⟨b, hx, q⟩
theorem okT_cmp (C : Cok X R W G call nm) {c : Cm} {a b : E} {pa pb : Expr} {pos : Pos} (hm : behindInMarks (cmT c) pb = false) (ha : OkE X R W G call a pa) (hb : OkE X R W G call b pb) : OkT X R W G call (.cmp c a b) (.Compare pa [cmT c] [pb] pos) := fun as s hs σ H Q r h => by
  have h := KB.kv h
  unfold evE at h
  refine WpT.of (pt_cmpR (WOp.r X _) (WpE.pe X pa) (WpE.pe X pb) hm) ?_
  refine ha as s hs σ H _ r (h.bind.imp fun v hs1 as1 H1 p1 k1 r1 h x hx => ?_)
  refine hb as1 s hs1 σ H1 _ r1 (h.bind.imp fun w hs2 as2 H2 p2 k2 r2 h y hy => ?_)
  exact cmp_ok c C.hK C.hw C.hu r2 (RV.mono p2 k2 _ _ hx) hy h
theorem chain_go (C : Cok X R W G call nm) {c d : Cm} {a b e : E} {pa pb pe : Expr} (ha : OkE X R W G call a pa) (hb : OkE X R W G call b pb) (he : OkE X R W G call e pe) {as s hs σ H Q} (r : RS R as s hs σ H) (h : Pst R W s σ (KV1 R Q) as H (evE G call (.chain c d a b e) s hs)) :
    tChain (WOp X (compareOp (cmT c))) (WOp X (compareOp (cmT d))) (WpE X pa) (WpE X pb) (WpE X pe) σ H Q := by
  unfold evE at h
  refine ha as s hs σ H _ r (h.bind.imp fun v hs1 as1 H1 p1 k1 r1 h x hx => ?_)
  refine hb as1 s hs1 σ H1 _ r1 (h.bind.imp fun w hs2 as2 H2 p2 k2 r2 h y hy => ?_)
  refine cmp_ok c C.hK C.hw C.hu r2 (RV.mono p2 k2 _ _ hx) hy (h.bind.imp fun t hs3 as3 H3 p3 k3 r3 h z hz => ?_)
  split at h
  · unfold RV at hz
    refine ⟨true, hz, ?_⟩
    rw [if_pos rfl]
    refine he as3 s hs3 σ H3 _ r3 (h.bind.imp fun w' hs4 as4 H4 p4 k4 r4 h y' hy' => ?_)
    exact cmp_ok d C.hK C.hw C.hu r4 (RV.mono (p3.trans p4) (k3.trans k4) _ _ hy) hy' h
  · unfold RV at hz
    refine ⟨false, hz, ?_⟩
    rw [if_neg (by decide)]
    exact h.here r3 (by unfold RV; rfl)
  · exact h.elim
theorem ok_chain (C : Cok X R W G call nm) {c d : Cm} {a b e : E} {pa pb pe : Expr} {pos : Pos} (hm : lastMarks [cmT c, cmT d] [pb, pe] = false) (ha : OkE X R W G call a pa) (hb : OkE X R W G call b pb) (he : OkE X R W G call e pe) :
    OkE X R W G call (.chain c d a b e) (.Compare pa [cmT c, cmT d] [pb, pe] pos) := fun as s hs σ H Q r h =>
  WpE.of (pe_chain (WOp.r X _) (WOp.r X _) (WpE.pe X pa) (WpE.pe X pb) (WpE.pe X pe) hm) (chain_go C ha hb he r h)
theorem okT_chain (C : Cok X R W G call nm) {c d : Cm} {a b e : E} {pa pb pe : Expr} {pos : Pos} (hm : lastMarks [cmT c, cmT d] [pb, pe] = false) (ha : OkE X R W G call a pa) (hb : OkE X R W G call b pb) (he : OkE X R W G call e pe) :
    OkT X R W G call (.chain c d a b e) (.Compare pa [cmT c, cmT d] [pb, pe] pos) := fun as s hs σ H Q r h =>
  WpT.of (pt_chain (WOp.r X _) (WOp.r X _) (WpE.pe X pa) (WpE.pe X pb) (WpE.pe X pe) hm) (chain_go C ha hb he r (KB.kv h))
theorem ok_one {o : BoolOp} {a : E} {pa : Expr} {pos : Pos} (ha : OkE X R W G call a pa) : OkE X R W G call a (.BoolOp o [pa] pos) := fun as s hs σ H Q r h => WpE.of (pe_one (WpE.pe X pa)) (ha as s hs σ H _ r h)
theorem okW_and1 {a : E} {pa : Expr} {pos : Pos} (ha : OkT X R W G call a pa) : OkW X R W G call a (.BoolOp .And [pa] pos) := fun as s hs σ H Q r h => WpW.of (pw_and1 (WpT.pt X pa)) (ha as s hs σ H _ r h)
theorem okW_or1 {a : E} {pa : Expr} {pos : Pos} (ha : OkT X R W G call a pa) : OkW X R W G call a (.BoolOp .Or [pa] pos) := fun as s hs σ H Q r h => WpW.of (pw_or1 (WpT.pt X pa)) (ha as s hs σ H _ r h)
theorem ok_and {a b : E} {pa pb : Expr} {rest : List Expr} {pos : Pos} (ha : OkE X R W G call a pa) (hb : OkE X R W G call b (.BoolOp .And (pb :: rest) pos)) : OkE X R W G call (.and a b) (.BoolOp .And (pa :: pb :: rest) pos) := fun as s hs σ H Q r h => by
  unfold evE at h
  refine WpE.of (pe_and (WpE.pe X pa) (WpE.pe X _)) ?_
  refine ha as s hs σ H _ r (h.bind.imp fun v hs1 as1 H1 p1 k1 r1 h x hx => ?_)
  split at h
  · unfold RV at hx
    exact ⟨true, hx, if_tt (hb as1 s hs1 σ H1 _ r1 h)⟩
  · unfold RV at hx
    exact ⟨false, hx, if_ff (h.here r1 (by unfold RV; rfl))⟩
  · exact h.elim
theorem okW_and {a b : E} {pa pb : Expr} {rest : List Expr} {pos : Pos} (ha : OkT X R W G call a pa) (hb : OkW X R W G call b (.BoolOp .And (pb :: rest) pos)) : OkW X R W G call (.and a b) (.BoolOp .And (pa :: pb :: rest) pos) := fun as s hs σ H Q r h => by
  unfold evE at h
  refine WpW.of (pw_and (WpT.pt X pa) (WpW.pw X _)) ?_
  refine ha as s hs σ H _ r (h.bind.imp fun v hs1 as1 H1 p1 k1 r1 h => ?_)
  split at h
  · exact ⟨true, rfl, if_tt (hb as1 s hs1 σ H1 _ r1 h)⟩
  · obtain ⟨b, e, q⟩ := h as1 H1 PfxA.refl Kp.refl r1
    cases e
    exact ⟨false, rfl, if_ff (q)⟩
  · exact h.elim
theorem ok_orV (C : Cok X R W G call nm) {a b : E} {pa pb : Expr} {rest : List Expr} {pos : Pos} (ha : OkE X R W G call a pa) (hb : OkE X R W G call b (.BoolOp .Or (pb :: rest) pos)) : OkE X R W G call (.orV a b) (.BoolOp .Or (pa :: pb :: rest) pos) := fun as s hs σ H Q r h => by
  unfold evE at h
  refine WpE.of (pe_orT (WpE.pe X pa) (WpE.pe X _)) ?_
  refine ha as s hs σ H _ r (h.bind.imp fun v hs1 as1 H1 p1 k1 r1 h x hx => ?_)
  have tv : ∀ t, Kn.truthy v = some t → TruV X.K x H1 t := fun t et => by
    unfold Kn.truthy at et
    split at et
    · cases et; unfold RV at hx; subst hx; rfl
    · cases et; unfold RV at hx; subst hx; rfl
    · cases et; unfold RV at hx; obtain ⟨rfl, g⟩ := hx
      refine ⟨by rw [toS_len]; exact g.1, ?_⟩
      rw [toS_len]
      rename_i t
      cases t with
      | nil => rfl
      | cons c t => simp; omega
    · cases et
  split at h
  · rename_i et
    exact ⟨true, tv _ et, if_tt (h.here r1 hx)⟩
  · rename_i et
    exact ⟨false, tv _ et, if_ff (hb as1 s hs1 σ H1 _ r1 h)⟩
  · exact h.elim
theorem ok_or {a b : E} {pa pb : Expr} {rest : List Expr} {pos : Pos} (ha : OkE X R W G call a pa) (hb : OkE X R W G call b (.BoolOp .Or (pb :: rest) pos)) : OkE X R W G call (.or a b) (.BoolOp .Or (pa :: pb :: rest) pos) := fun as s hs σ H Q r h => by
  unfold evE at h
  refine WpE.of (pe_or (WpE.pe X pa) (WpE.pe X _)) ?_
  refine ha as s hs σ H _ r (h.bind.imp fun v hs1 as1 H1 p1 k1 r1 h x hx => ?_)
  split at h
  · unfold RV at hx
    exact ⟨true, hx, if_tt (h.here r1 (by unfold RV; rfl))⟩
  · unfold RV at hx
    exact ⟨false, hx, if_ff (hb as1 s hs1 σ H1 _ r1 h)⟩
  · exact h.elim
theorem okW_or {a b : E} {pa pb : Expr} {rest : List Expr} {pos : Pos} (ha : OkT X R W G call a pa) (hb : OkW X R W G call b (.BoolOp .Or (pb :: rest) pos)) : OkW X R W G call (.or a b) (.BoolOp .Or (pa :: pb :: rest) pos) := fun as s hs σ H Q r h => by
  unfold evE at h
  refine WpW.of (pw_or (WpT.pt X pa) (WpW.pw X _)) ?_
  refine ha as s hs σ H _ r (h.bind.imp fun v hs1 as1 H1 p1 k1 r1 h => ?_)
  split at h
  · obtain ⟨b, e, q⟩ := h as1 H1 PfxA.refl Kp.refl r1
    cases e
    exact ⟨true, rfl, if_tt (q)⟩
  · exact ⟨false, rfl, if_ff (hb as1 s hs1 σ H1 _ r1 h)⟩
  · exact h.elim
theorem ok_not {a : E} {pa : Expr} {pos : Pos} (ha : OkE X R W G call a pa) : OkE X R W G call (.not a) (.UnaryOp .Not pa pos) := fun as s hs σ H Q r h => by
  unfold evE at h
  refine WpE.of (pe_not (WpE.pe X pa)) ?_
  refine ha as s hs σ H _ r (h.bind.imp fun v hs1 as1 H1 p1 k1 r1 h x hx => ?_)
  split at h
  · unfold RV at hx
    exact ⟨_, hx, h.here r1 (by unfold RV; rfl)⟩
  · exact h.elim
theorem okT_not {a : E} {pa : Expr} {pos : Pos} (ha : OkT X R W G call a pa) : OkT X R W G call (.not a) (.UnaryOp .Not pa pos) := fun as s hs σ H Q r h => by
  unfold evE at h
  refine WpT.of (pt_not (WpT.pt X pa)) ?_
  refine ha as s hs σ H _ r (h.bind.imp fun v hs1 as1 H1 p1 k1 r1 h => ?_)
  split at h
  · obtain ⟨b, e, q⟩ := h as1 H1 PfxA.refl Kp.refl r1
    cases e
    exact ⟨_, rfl, q⟩
  · exact h.elim
theorem ok_neg {a : E} {pa : Expr} {pos : Pos} (ha : OkE X R W G call a pa) : OkE X R W G call (.neg a) (.UnaryOp .USub pa pos) := fun as s hs σ H Q r h => by
  unfold evE at h
  refine WpE.of (pe_un un_neg (WpE.pe X pa)) ?_
  refine ha as s hs σ H _ r (h.bind.imp fun v hs1 as1 H1 p1 k1 r1 h x hx => ?_)
  split at h
  · unfold RV at hx
    exact ⟨_, hx, h.here r1 (by unfold RV; rfl)⟩
  · exact h.elim
theorem ok_ite {c a b : E} {pc pa pb : Expr} {pos : Pos} (hc : OkT X R W G call c pc) (ha : OkE X R W G call a pa) (hb : OkE X R W G call b pb) : OkE X R W G call (.ite c a b) (.IfExp pc pa pb pos) := fun as s hs σ H Q r h => by
  unfold evE at h
  refine WpE.of (pe_ifExp (WpT.pt X pc) (WpE.pe X pa) (WpE.pe X pb)) ?_
  refine hc as s hs σ H _ r (h.bind.imp fun v hs1 as1 H1 p1 k1 r1 h => ?_)
  split at h
  · exact ⟨true, rfl, if_tt (ha as1 s hs1 σ H1 _ r1 h)⟩
  · exact ⟨false, rfl, if_ff (hb as1 s hs1 σ H1 _ r1 h)⟩
  · exact h.elim
theorem ok_idx (C : Cok X R W G call nm) {a b : E} {pa pb : Expr} {pos : Pos} (hs : PlainIx pb) (ha : OkE X R W G call a pa) (hb : OkE X R W G call b pb) : OkE X R W G call (.idx a b) (.Subscript pa pb pos) := fun as s hs' σ H Q r h => by
  unfold evE at h
  refine WpE.of (pe_ix (WIx.r X) (WpE.pe X pa) (WpE.pe X pb) hs) ?_
  refine ha as s hs' σ H _ r (h.bind.imp fun v hs1 as1 H1 p1 k1 r1 h x hx => ?_)
  refine hb as1 s hs1 σ H1 _ r1 (h.bind.imp fun w hs2 as2 H2 p2 k2 r2 h y hy => ?_)
  exact idx_ok C.hK C.hw C.hu r2 (RV.mono p2 k2 _ _ hx) hy h
/-- a part of a slice -/
def OkO (X : Cx) (R : Rp) (W : WX) (G : Glo) (call : CallF) (es : Es) (pe : Option Expr) : Prop := ∃ t, PO X pe t ∧ ∀ as s hs σ H Q, RS R as s hs σ H → Pst R W s σ (fun vs hs' as' H' => ∃ o, optI vs = some o ∧ Q o H') as H (evEs G call es s hs) → t σ H Q
theorem okO_none : OkO X R W G call .nil none := ⟨_, po_none, fun as s hs σ H Q r h => by
  unfold evEs at h
  obtain ⟨o, e, q⟩ := h as H PfxA.refl Kp.refl r
  cases e
  exact q⟩
theorem okO_some {a : E} {pa : Expr} (ha : OkE X R W G call a pa) : OkO X R W G call (.cons a .nil) (some pa) := ⟨_, po_some (WpE.pe X pa), fun as s hs σ H Q r h => by
  unfold evEs at h
  refine ha as s hs σ H _ r (h.bind.imp fun v hs1 as1 H1 p1 k1 r1 h x hx => ?_)
  unfold evEs at h
  obtain ⟨o, e, q⟩ := h as1 H1 PfxA.refl Kp.refl r1
  unfold optI at e
  split at e
  · rename_i e1; cases e1
  · rename_i e1
    cases e1
    split at e
    · cases e
      unfold RV at hx
      exact ⟨_, hx, q⟩
    · cases e
  · cases e⟩
theorem ok_slc (C : Cok X R W G call nm) {a : E} {lo hi : Es} {pa : Expr} {pl ph : Option Expr} {p2 pos : Pos} (ha : OkE X R W G call a pa) (hl : OkO X R W G call lo pl) (hh : OkO X R W G call hi ph) : OkE X R W G call (.slc a lo hi) (.Subscript pa (.Slice pl ph none p2) pos) := fun as s hs σ H Q r h => by
  obtain ⟨tl, h1, h2⟩ := hl
  obtain ⟨th, h3, h4⟩ := hh
  unfold evE at h
  refine WpE.of (pe_slice (WSl.r X) (WpE.pe X pa) h1 h3) ?_
  refine ha as s hs σ H _ r (h.bind.imp fun v hs1 as1 H1 p1 k1 r1 h x hx => ?_)
  refine h2 as1 s hs1 σ H1 _ r1 (h.bind.imp fun l hs2 as2 H2 p2 k2 r2 h => ?_)
  split at h
  · rename_i lo' el
    refine ⟨lo', el, ?_⟩
    refine h4 as2 s hs2 σ H2 _ r2 (h.bind.imp fun u hs3 as3 H3 p3 k3 r3 h => ?_)
    split at h
    · rename_i hi' eu
      exact ⟨hi', eu, slc_ok C.hK r3 (RV.mono (p2.trans p3) (k2.trans k3) _ _ hx) h⟩
    · exact h.elim
  · exact h.elim
end
end Kn
namespace Kn
open PySem L2 KnK
def noStar : Expr → Bool
  | .Starred .. => false
  | _ => true
theorem star_one {pe : Expr} {pes : List Expr} {env : Env} (h : noStar pe = true) : starEach (pe :: pes) env = (false, eval pe env) :: starEach pes env := by
  cases pe <;> first | rfl | cases h
theorem star_any {env : Env} {pos : Pos} : ∀ {pes : List Expr}, pes.all noStar = true → (backTo pos (starEach pes env)).any (·.1) = false
  | [], _ => rfl
  | pe :: pes, h => by
    simp only [List.all_cons, Bool.and_eq_true] at h
    rw [star_one h.1]
    have ih := star_any (env := env) (pos := pos) h.2
    unfold backTo at ih ⊢
    rw [List.map_cons, List.any_cons, ih]
    rfl
theorem star_all {env : Env} {pos : Pos} : ∀ {pes : List Expr}, pes.all noStar = true → (backTo pos (starEach pes env)).all (fun x => !x.1) = true
  | [], _ => rfl
  | pe :: pes, h => by
    simp only [List.all_cons, Bool.and_eq_true] at h
    rw [star_one h.1]
    have ih := star_all (env := env) (pos := pos) h.2
    unfold backTo at ih ⊢
    rw [List.map_cons, List.all_cons, ih]
    rfl
def Es.len : Es → Nat
  | .nil => 0
  | .cons _ r => r.len + 1
theorem evEs_len {G : Glo} {call : CallF} : ∀ {es : Es} {s : St} {hs hs' : Hs} {vs : List Val}, evEs G call es s hs = .ok vs hs' → vs.length = es.len
  | .nil, s, hs, hs', vs, e => by unfold evEs at e; cases e; rfl
  | .cons a r, s, hs, hs', vs, e => by
    unfold evEs at e
    cases e1 : evE G call a s hs with
    | no => rw [e1] at e; cases e
    | ex c h => rw [e1] at e; cases e
    | ok v h =>
      rw [e1] at e
      have e : (evEs G call r s h).bind (fun vs h => Out.ok (v :: vs) h) = .ok vs hs' := e
      cases e2 : evEs G call r s h with
      | no => rw [e2] at e; cases e
      | ex c h => rw [e2] at e; cases e
      | ok ws h2 =>
        rw [e2] at e
        cases e
        simp [Es.len, evEs_len e2]
section
variable {X : Cx} {R : Rp} {W : WX} {G : Glo} {call : CallF} {nm : Nm}
/-- the promise is kept -/
theorem sp_of {f n : Nat} {as : List Addr} {s : St} {hs : Hs} {σ : L2.St} {H : Hp} {Q : VK} {vs : List Val} {xs : List V} (r : RS R as s hs σ H) (rs : RVs R as H vs xs) (hl : vs.length = n) (h : Pst R W s σ (KV1 R Q) as H (callE call f vs hs)) :
    spOf R call n f xs H Q (L2.WE W σ) := by
  unfold callE at h
  split at h
  · rename_i er
    have r0 : RH (R.wf H) [] [] H := ⟨rfl, List.nodup_nil, fun b u e => e, fun b hb => by (cases hb), fun n o e => by (simp at e)⟩
    refine ⟨H, [], [], vs, r0, RVs.free er rs, hl, ?_⟩
    have cl : Closed hs [] [] := ⟨List.nodup_nil, fun n hn => absurd hn List.not_mem_nil, fun n hn => absurd hn List.not_mem_nil⟩
    have fzE : fzAll (asub as []) H = H := by funext a; unfold fzAll asub; simp
    cases e : call f vs [] with
    | no => rw [e] at h; exact h
    | ex c h1 =>
      rw [e] at h
      intro as' H' p k rh
      refine h as H' PfxA.refl k (r.to PfxA.refl k ?_)
      exact ⟨r.h.len, r.h.nd, fun a u e => rh.fz a u (r.h.fz a u e), r.h.nf, fun n o e => let ⟨a, u, e1, e2, e3⟩ := r.h.obj n o e; ⟨a, u, e1, rh.fz a u e2, RO.mono PfxA.refl k _ _ e3⟩⟩
    | ok v h1 =>
      rw [e] at h
      intro as' H' x p k rh rv
      simp only at h
      split at h
      · rename_i ev
        refine h as H' PfxA.refl k (r.to PfxA.refl k ?_) x (RV.free ev rv)
        exact ⟨r.h.len, r.h.nd, fun a u e => rh.fz a u (r.h.fz a u e), r.h.nf, fun n o e => let ⟨a, u, e1, e2, e3⟩ := r.h.obj n o e; ⟨a, u, e1, rh.fz a u e2, RO.mono PfxA.refl k _ _ e3⟩⟩
      · rename_i ev
        obtain ⟨as2, p2, r2, v2⟩ := back_ok (ns := []) r.h cl (as1 := as') (h1 := h1) (H1 := H') (by rw [fzE]; exact rh) p k (refsV v)
        have bk : backN [] hs.length = (· + hs.length) := by funext j; unfold backN; simp; omega
        have pb : putBack hs [] (refsV v) h1 = hs ++ h1.map (mapRO (· + hs.length)) := by
          unfold putBack
          rw [if_neg (by
            intro z
            rw [Bool.and_eq_true] at z
            cases er : refsV v with
            | nil => exact ev er
            | cons a l => rw [er] at z; simp [below] at z), bk]
          simp [wb]
        rw [pb] at r2
        rw [bk] at v2
        exact h as2 H' p2 k (r.to p2 k r2) x (v2 v x (fun _ h => h) rv)
  · unfold callSub at h
    split at h
    · rename_i rr rrs er hc
      generalize reach hs 10000 (rr :: rrs) [] = ns at h hc
      have cl := closedB_ok hc
      refine ⟨_, _, _, _, r.h.sub cl, RVs.ren vs xs (sub_ren r.h cl (l := refsVs vs) (by rw [er]; exact cl.rs)) rs, ?_, ?_⟩
      · rw [← hl]
        clear h rs hl er
        induction vs with
        | nil => rfl
        | cons v r ih => simp only [mapRs, List.length_cons, ih]
      · cases e : call f (mapRs (fun n => idxN n ns 0) vs) (subOf hs ns) with
        | no => rw [e] at h; exact h
        | ex c h1 =>
          rw [e] at h
          intro as' H' p k rh
          obtain ⟨as2, p2, r2, v2⟩ := back_ok r.h cl rh p k []
          exact h as2 H' p2 k (r.to p2 k r2)
        | ok v h1 =>
          rw [e] at h
          intro as' H' x p k rh rv
          obtain ⟨as2, p2, r2, v2⟩ := back_ok r.h cl rh p k (refsV v)
          exact h as2 H' p2 k (r.to p2 k r2) x (v2 v x (fun _ h => h) rv)
    · exact h.elim
theorem ok_call (C : Cok X R W G call nm) (hc : X.calm = true) {f : Nat} {F : Fn} {es : Es} {x : Str} {p pos : Pos} {pe : Expr} {pes : List Expr} (hF : G.fns[f]? = some F) (hx : nm.fn[f]? = some x) (hg : L2.Gl X x) (hn : (pe :: pes).all noStar = true) (hl : es.len = F.pars) (he : OkEs X R W G call es (pe :: pes)) :
    OkE X R W G call (.call f es) (.Call (.Name x p) (pe :: pes) [] pos) := fun as s hs σ H Q r h => by
  obtain ⟨hd, fa, fd, ps, j, hm, hk, hb, hps, hr, ok⟩ := C.fns hc f F x hF hx
  have hn' := hn
  simp only [List.all_cons, Bool.and_eq_true] at hn'
  unfold evE at h
  refine WpE.of (pe_callS ok hr hg hm hk hb (L2N.passAt C.tk) (WpA.pa X _) hd (star_one hn'.1) (star_any hn'.2)) ?_
  cases e : evEs G call es s hs with
  | no => rw [e] at h; exact h.elim
  | ex c h' => exact he as s hs σ H _ r (by rw [e] at h ⊢; exact h)
  | ok vs h' =>
    have hvl := evEs_len e
    refine he as s hs σ H _ r ?_
    rw [e] at h ⊢
    intro as1 H1 p1 k1 r1 xs hxs
    exact sp_of r1 hxs (hvl.trans hl) (Pst.from p1 k1 h)
theorem ok_call0 (C : Cok X R W G call nm) (hc : X.calm = true) {f : Nat} {F : Fn} {x : Str} {p pos : Pos} (hF : G.fns[f]? = some F) (hx : nm.fn[f]? = some x) (hg : L2.Gl X x) (hl : 0 = F.pars) :
    OkE X R W G call (.call f .nil) (.Call (.Name x p) [] [] pos) := fun as s hs σ H Q r h => by
  obtain ⟨hd, fa, fd, ps, j, hm, hk, hb, hps, hr, ok⟩ := C.fns hc f F x hF hx
  unfold evE evEs at h
  intro pins sh I
  refine wpAny_Call_Name_kw (ld_glob I hg hm ?_ hd)
  exact PySem.W.callWith_K0 I.kIn hk (run_fnS (us := []) (E := L2.WE W) ok hr hb (L2N.passAt C.tk σ) I .nil (sp_of r RVs.nil hl h))
theorem bi_boot {m : Bi} (ok : okBi m = true) : bootBuiltins (biN m) = some (biF m) ∧ biN m ≠ "__name__" ∧ (biN m == ("__debug__" : Str)) = false ∧ biN m ∈ bltNames := by
  cases m <;> simp [okBi] at ok <;> exact ⟨by decide +kernel, by decide +kernel, by decide +kernel, by decide +kernel⟩
theorem ok_bi (C : Cok X R W G call nm) (hc : X.calm = true) {m : Bi} (ok : okBi m = true) {es : Es} {p pos : Pos} {pe : Expr} {pes : List Expr} (hg : L2.Gl X (biN m)) (hn : (pe :: pes).all noStar = true) (he : OkEs X R W G call es (pe :: pes)) :
    OkE X R W G call (.bi m es) (.Call (.Name (biN m) p) (pe :: pes) [] pos) := fun as s hs σ H Q r h => by
  obtain ⟨h1, h2, h3, h4⟩ := bi_boot ok
  have hn' := hn
  simp only [List.all_cons, Bool.and_eq_true] at hn'
  unfold evE at h
  have rd : WpA X (pe :: pes) σ H fun xs H1 => WCa X (biF m) xs H1 Q :=
    he as s hs σ H _ r (h.bind.imp fun vs hs1 as1 H1 p1 k1 r1 h xs hxs => bi_ok hc C.hK C.hw C.hu r1 ok hxs h)
  cases m <;> simp [okBi] at ok
  all_goals first
    | exact WpE.of (pe_callB (WCa.r X _) hg (C.blt _ h4) h1 (WpA.pa X _) h2 h3 (star_one hn'.1) (star_any hn'.2)) rd
    | exact WpE.of (pe_callTy (WCa.r X _) hg (C.blt _ h4) h1 (WpA.pa X _) h2 h3 (star_one hn'.1) (star_any hn'.2)) rd
def tyN : Ty → Str
  | .str => "str" | .int => "int" | .bool => "bool" | .tuple => "tuple" | .list => "list"
theorem ty_boot (t : Ty) : bootBuiltins (tyN t) = some (.type (tyS t)) ∧ tyN t ≠ "__name__" ∧ (tyN t == ("__debug__" : Str)) = false ∧ tyN t ∈ bltNames := by
  cases t <;> exact ⟨by decide +kernel, by decide +kernel, by decide +kernel, by decide +kernel⟩
theorem ok_isi (C : Cok X R W G call nm) {a : E} {t : Ty} {pa : Expr} {p p2 pos : Pos} (hg : L2.Gl X "isinstance") (hgt : L2.Gl X (tyN t)) (hn : noStar pa = true) (ha : OkE X R W G call a pa) :
    OkE X R W G call (.isi a t) (.Call (.Name "isinstance" p) [pa, .Name (tyN t) p2] [] pos) := fun as s hs σ H Q r h => by
  obtain ⟨h1, h2, h3, h4⟩ := ty_boot t
  unfold evE at h
  refine WpE.of (pe_callB (id := "isinstance") (WCa.r X _) hg (C.blt _ (by decide +kernel)) (by decide +kernel) (pa_cons (WpE.pe X pa) (pa_cons (pe_bltn (v := .ty (tyS t)) hgt (C.blt _ h4) h1 rfl h2 h3) pa_nil (star_one rfl)) (star_one hn)) (by decide +kernel) (by decide +kernel) (star_one hn) (star_any (pes := [.Name (tyN t) p2]) rfl)) ?_
  refine ha as s hs σ H _ r (h.bind.imp fun v hs1 as1 H1 p1 k1 r1 h x hx => ?_)
  obtain ⟨w, ew, h⟩ := h.opt
  obtain ⟨b, eb, rfl⟩ := Option.map_eq_some_iff.mp ew
  exact isi_ok C.hK C.hw r1 hx eb (h.here r1 (by unfold RV; rfl))
/-- isinstance(e, c), e an exception that is held -/
theorem call_isP {a D : Addr} {oe : PySem.Obj} (C : L2.ExcC X.K D) (hp : (a, oe) ∈ X.pn) (hz : L2N.Zn (.ref D) none oe) (hf : ∃ vs, oe.data = .fields vs) : CallR X (.builtin "isinstance") (rIsE X.K D a) := by
  intro pins s σ H xs us Q I r h
  obtain ⟨c, cv, b, rfl, hcv, e, q⟩ := h
  cases r with
  | cons rx rr =>
    cases rr with
    | cons rt rr =>
      cases rr
      cases rx
      have ec := hcv _ rt
      subst ec
      obtain ⟨hget, _⟩ := I.pin (a, oe) (List.mem_append.mpr (.inl hp))
      obtain ⟨vs, hv⟩ := hf
      have J : PySem.W.InstAt s.heap a oe D none := by
        obtain ⟨oc, od, oda, osl⟩ := oe
        obtain ⟨h1, h2, _⟩ := hz
        dsimp only at h1 h2 hv
        subst h1 h2 hv
        exact ⟨hget, rfl, rfl, trivial⟩
      exact PySem.W.kia_one (PySem.W.handS_kitx_exc C.hg C.hk C.hs C.hd C.ha C.hn C.ht C.hm) I.kIn J e (fun z => nomatch z) fun tk => ⟨.bl b, H, I.kept (t' := tk) fun _ _ z => z, rfl, q⟩
theorem ok_isx (C : Cok X R W G call nm) {a : E} {c : Nat} {x : Str} {pa : Expr} {p p2 pos : Pos} (hg : L2.Gl X "isinstance") (hx : nm.exc[c]? = some x) (hgt : L2.Gl X x) (hn : noStar pa = true) (ha : OkE X R W G call a pa) :
    OkE X R W G call (.isx a c) (.Call (.Name "isinstance" p) [pa, .Name x p2] [] pos) := fun as s hs σ H Q r h => by
  unfold evE at h
  obtain ⟨hd, cv, cx, hm, rc, fc, hk⟩ := C.exN c x hx
  have key : ∀ (t : TE), PE X (.Name x p2) t → (∀ σ H Q, Q cx H → t σ H Q) → WpE X (.Call (.Name "isinstance" p) [pa, .Name x p2] [] pos) σ H Q := fun t ht q3 => by
    refine WpE.of (pe_callB (id := "isinstance") (WCa.r X _) hg (C.blt _ (by decide +kernel)) (by decide +kernel) (pa_cons (WpE.pe X pa) (pa_cons ht pa_nil (star_one rfl)) (star_one hn)) (by decide +kernel) (by decide +kernel) (star_one hn) (star_any (pes := [.Name x p2]) rfl)) ?_
    refine ha as s hs σ H _ r (h.bind.imp fun v hs1 as1 H1 p1 k1 r1 h y hy => ?_)
    split at h
    · rename_i k
      split at h
      · rename_i l hl
        unfold RV at hy
        obtain ⟨d, rfl, hd⟩ := hy
        obtain ⟨oe, hp, hz, hf⟩ := C.exs k d hd
        refine q3 _ _ _ ?_
        exact WCa.of (call_isP (C.excs k l hl) hp hz hf) ⟨cx, cv, _, rfl, fc, hk k l hl, h.here r1 (by unfold RV; rfl)⟩
      · exact h.elim
    · exact h.elim
  rcases hm with hm | ⟨hm, hb, hnn⟩
  · exact key _ (pe_glob hgt hm rc hd) fun _ _ _ q => q
  · exact key _ (pe_bltn hgt hm hb rc hnn hd) fun _ _ _ q => q
def noCall : Expr → Bool
  | .Call (.Name ..) [] .. => false
  | _ => true
theorem base_plain {o : Expr} {n : Str} {env : Env} {wh : Sem Value} (h : noCall o = true) : attributeBase o n env wh = wh := by
  cases o with
  | Call f as ks pos => cases f <;> first | rfl | (cases as <;> first | rfl | cases h)
  | _ => first | rfl | cases h
theorem ok_me (C : Cok X R W G call nm) {m : Me} {o : E} {es : Es} {po : Expr} {pe : Expr} {pes : List Expr} {apos cpos : Pos} (hb : attributeBase po (meN m) X.env (eval po X.env) = eval po X.env) (hn : (pe :: pes).all noStar = true) (hf : (pe :: pes).length < 29) (hline : (apos.endLine == cpos.line) = true)
    (ho : OkE X R W G call o po) (he : OkEs X R W G call es (pe :: pes)) : OkE X R W G call (.me m o es) (.Call (.Attribute po (meN m) apos) (pe :: pes) [] cpos) := fun as s hs σ H Q r h => by
  have hn' := hn
  simp only [List.all_cons, Bool.and_eq_true] at hn'
  unfold evE at h
  intro pins sh I
  refine wpAny_Call_method_late hb (by
    rw [star_all hn]
    have : decide ((pe :: pes).length + ([] : List Keyword).length + (if ([] : List Keyword).isEmpty then 0 else 1) < 30) = true := decide_eq_true (by simp at hf ⊢; omega)
    rw [this]
    rfl) hline rfl ?_
  refine thn ((ho as s hs σ H (fun x H1 => ∃ T id, (PlainAttrs T ∧ Slot T (meN m) id ∧ typeOf (.builtin id) = pure (.type "method_descriptor")) ∧ TyOk X x H1 T ∧ WpA X (pe :: pes) σ H1 fun xs H2 => WMt X id x xs H2 Q) r (h.bind.imp fun v hs1 as1 H1 p1 k1 r1 h x hx => ?_)) pins sh I) ?_
  · split at h
    · rename_i k ek
      split at h
      · rename_i ok
        rcases okMe_or ok with ok | ok | ok
        · obtain ⟨s1, s2, s3, s4⟩ := me_slot ok
          refine ⟨kdT k, meId k m, ⟨s2, s3, s4⟩, kd_ty C.hK C.hw r1 hx ek s1, ?_⟩
          refine he as1 s hs1 σ H1 _ r1 (h.bind.imp fun vs hs2 as2 H2 p2 k2 r2 h xs hxs => ?_)
          exact me_ok C.hK C.hw C.hu r2 ok (RV.mono p2 k2 _ _ hx) hxs h
        · obtain ⟨s1, s2, s3, s4⟩ := me2_slot ok
          refine ⟨kdT k, meId2 k m, ⟨s2, s3, s4⟩, kd_ty C.hK C.hw r1 hx ek s1, ?_⟩
          refine he as1 s hs1 σ H1 _ r1 (h.bind.imp fun vs hs2 as2 H2 p2 k2 r2 h xs hxs => ?_)
          exact me2_ok C.hK C.hw C.hu r2 ok (RV.mono p2 k2 _ _ hx) hxs h
        · obtain ⟨s1, s2, s3, s4⟩ := me3_slot ok
          refine ⟨kdT k, meId3 k m, ⟨s2, s3, s4⟩, kd_ty C.hK C.hw r1 hx ek s1, ?_⟩
          refine he as1 s hs1 σ H1 _ r1 (h.bind.imp fun vs hs2 as2 H2 p2 k2 r2 h xs hxs => ?_)
          exact me3_ok C.hK C.hw C.hu r2 ok (RV.mono p2 k2 _ _ hx) hxs h
      · exact h.elim
    · exact h.elim
  · rintro v s1 ⟨x, H1, I1, r1, T, id, ⟨s2, s3, s4⟩, ty, q1⟩
    obtain ⟨t1, t2⟩ := ty pins s1 σ v I1 r1
    refine ⟨T, id, s2, s3, s4, t1, t2, ?_⟩
    have hA := q1 cpos pins s1 I1
    rw [star_one hn'.1] at hA ⊢
    refine Calls.callWith_builtin (by show (false || (backTo cpos (starEach pes X.env)).any (·.1)) = false; rw [star_any hn'.2] <;> rfl) (Calls.evalArgs_plain ?_)
    exact thn hA fun us s2 ⟨vs, H2, I2, r2, q2⟩ => q2 pins s2 σ v us I2 r1 r2
theorem ok_me0 (C : Cok X R W G call nm) {m : Me} {o : E} {po : Expr} {apos cpos : Pos} (hb : attributeBase po (meN m) X.env (eval po X.env) = eval po X.env) (hline : (apos.endLine == cpos.line) = true)
    (ho : OkE X R W G call o po) : OkE X R W G call (.me m o .nil) (.Call (.Attribute po (meN m) apos) [] [] cpos) := fun as s hs σ H Q r h => by
  unfold evE at h
  intro pins sh I
  refine wpAny_Call_method_late hb rfl hline rfl ?_
  refine thn ((ho as s hs σ H (fun x H1 => ∃ T id, (PlainAttrs T ∧ Slot T (meN m) id ∧ typeOf (.builtin id) = pure (.type "method_descriptor")) ∧ TyOk X x H1 T ∧ WMt X id x [] H1 Q) r (h.bind.imp fun v hs1 as1 H1 p1 k1 r1 h x hx => ?_)) pins sh I) ?_
  · split at h
    · rename_i k ek
      split at h
      · rename_i ok
        unfold evEs at h
        have h : Pst R W s σ (KV1 R Q) as1 H1 (meK k m v [] hs1) := h
        rcases okMe_or ok with ok | ok | ok
        · obtain ⟨s1, s2, s3, s4⟩ := me_slot ok
          exact ⟨kdT k, meId k m, ⟨s2, s3, s4⟩, kd_ty C.hK C.hw r1 hx ek s1, me_ok C.hK C.hw C.hu r1 ok hx RVs.nil h⟩
        · obtain ⟨s1, s2, s3, s4⟩ := me2_slot ok
          exact ⟨kdT k, meId2 k m, ⟨s2, s3, s4⟩, kd_ty C.hK C.hw r1 hx ek s1, me2_ok C.hK C.hw C.hu r1 ok hx RVs.nil h⟩
        · obtain ⟨s1, s2, s3, s4⟩ := me3_slot ok
          exact ⟨kdT k, meId3 k m, ⟨s2, s3, s4⟩, kd_ty C.hK C.hw r1 hx ek s1, me3_ok C.hK C.hw C.hu r1 ok hx RVs.nil h⟩
      · exact h.elim
    · exact h.elim
  · rintro v s1 ⟨x, H1, I1, r1, T, id, ⟨s2, s3, s4⟩, ty, q1⟩
    obtain ⟨t1, t2⟩ := ty pins s1 σ v I1 r1
    refine ⟨T, id, s2, s3, s4, t1, t2, ?_⟩
    exact Calls.callWith_builtin rfl (PySem.evalArgs_none (q1 pins s1 σ v [] I1 r1 .nil))
theorem ok_fld (C : Cok X R W G call nm) {o : E} {f : Nat} {x : Str} {po : Expr} {pos : Pos} (hx : nm.fld[f]? = some x) (hb : attributeBase po x X.env (eval po X.env) = eval po X.env) (ho : OkE X R W G call o po) : OkE X R W G call (.fld o f) (.Attribute po x pos) := fun as s hs σ H Q r h => by
  unfold evE at h
  refine WpE.of (pe_fld (WpE.pe X po) hb) ?_
  refine ho as s hs σ H _ r (h.bind.imp fun v hs1 as1 H1 p1 k1 r1 h y hy => ?_)
  unfold fldV at h
  split at h
  · rename_i n
    split at h
    · rename_i c fs e1
      split at h
      rotate_left
      · exact h.elim
      rename_i k hk
      obtain ⟨w, ew, h⟩ := h.opt
      unfold RV at hy
      obtain ⟨d, ed, rfl⟩ := hy
      obtain ⟨d', dx, gs, f1, f2, f3⟩ := r1.h.inst e1
      rw [ed] at f1; cases f1
      obtain ⟨z, e2, e3⟩ := RF.get f3 ew
      rw [C.fldN f x hx] at e2
      have ck := C.clsO c k hk
      exact ⟨d, _, dx, gs, z, rfl, f2, ck.1, ck.2 x (List.mem_of_getElem? hx), e2, h.here r1 e3⟩
    · exact h.elim
  · exact h.elim
theorem meth_form {o : Expr} {m : Str} {apos pos : Pos} {es : List Expr} {env : Env} (ho : attributeBase o m env (eval o env) = eval o env) (hn : es.all noStar = true) (hf : es.length < 29) (hl : (apos.endLine == pos.line) = true) :
    eval (.Call (.Attribute o m apos) es [] pos) env = (do
      let ov ← eval o env
      standAt apos.atName
      let (f, first) ← holding [ov] (getMethod ov m (plainOf o env))
      callWith pos f first (backTo pos (starEach es env)) (backToKw pos (keywordEach [] env))) := by
  rw [arm_eval_Call, ho]
  have hm : methodCallForm (es.length + ([] : List Keyword).length) (backTo pos (starEach es env)) (backToKw pos (keywordEach [] env)) = true := by
    unfold methodCallForm
    have h1 : (backTo pos (starEach es env)).all (!·.1) = true := star_all hn
    rw [h1]
    have : decide (es.length + ([] : List Keyword).length + (if (backToKw pos (keywordEach [] env)).isEmpty then 0 else 1) < 30) = true := decide_eq_true (by
      show es.length + 0 + (if true = true then 0 else 1) < 30
      rw [if_pos rfl]; omega)
    rw [this]
    rfl
  congr 1
  funext ov
  congr 1
  funext _
  exact mcall_line hm hl
theorem ok_mth (C : Cok X R W G call nm) (hc : X.calm = true) {o : E} {m : Nat} {x : Str} {es : Es} {po : Expr} {pe : Expr} {pes : List Expr} {apos pos : Pos} (hx : nm.mth[m]? = some x) (hb : attributeBase po x X.env (eval po X.env) = eval po X.env) (hn : (pe :: pes).all noStar = true) (hf : (pe :: pes).length < 29) (hl : (apos.endLine == pos.line) = true)
    (har : ∀ (c : Nat) (k : Kn.Cls) (f : Nat) (F : Fn), G.cls[c]? = some k → alist k.meths m = some f → G.fns[f]? = some F → F.pars = es.len + 1) (hal : ∀ (c : Nat) (k : Kn.Cls) (f : Nat), G.cls[c]? = some k → alist k.meths m = some f → ∃ F, G.fns[f]? = some F)
    (ho : OkE X R W G call o po) (he : OkEs X R W G call es (pe :: pes)) : OkE X R W G call (.mth o m es) (.Call (.Attribute po x apos) (pe :: pes) [] pos) := fun as s hs σ H Q r h => by
  unfold evE at h
  intro pins sh I
  refine PySem.W.methodCall_KW (pl := plainOf po X.env) ?_ (meth_form hb hn hf hl)
  refine thn ((ho as s hs σ H (fun z H1 => ∃ a Cl dx gs f fa fd ps j F, z = .ref a ∧ H1 a = some (.ins Cl dx gs) ∧ L2.Cls X.K Cl ∧ Meth X.K Cl x fa ∧ gs.lookup x = none ∧ Binds X.K fd ps [] ∧ Room j X.A ∧ FnOk X.prog X.w X.K X.mg X.base (L2N.CX X.prog X.w) j fa fd ps (spOf R call F f) ∧
      WpA X (pe :: pes) σ H1 fun xs H2 => spOf R call F f (z :: xs) H2 Q (L2.WE W σ)) r (h.bind.imp fun v hs1 as1 H1 p1 k1 r1 h z hz => ?_)) pins sh I) ?_
  · split at h
    · rename_i n
      split at h
      · rename_i c fs e1
        split at h
        · rename_i f ef
          obtain ⟨k, hk, ek⟩ := Option.bind_eq_some_iff.mp ef
          obtain ⟨F, hF⟩ := hal c k f hk ek
          obtain ⟨nf, fa, fd, ps, j, hm, hb', hps, hr1, ok⟩ := C.mths hc c k m f F x hk ek hF hx
          have hr := hr1.mono (Nat.le_succ j)
          have hv := hz
          unfold RV at hz
          obtain ⟨d, ed, rfl⟩ := hz
          obtain ⟨d', dx, gs, f1, f2, f3⟩ := r1.h.inst e1
          rw [ed] at f1; cases f1
          refine ⟨d, _, dx, gs, f, fa, fd, ps, j, F.pars, rfl, f2, (C.clsO c k hk).1, hm, RF.none nf f3, hb', hr, ok, ?_⟩
          cases e : evEs G call es s hs1 with
          | no => rw [e] at h; exact h.elim
          | ex c h' => exact he as1 s hs1 σ H1 _ r1 (by rw [e] at h ⊢; exact h)
          | ok vs h' =>
            have hvl := evEs_len e
            refine he as1 s hs1 σ H1 _ r1 ?_
            rw [e] at h ⊢
            intro as2 H2 p2 k2 r2 xs hxs
            exact sp_of r2 (RVs.cons (RV.mono p2 k2 _ _ hv) hxs) (by rw [har c k f F hk ek hF]; simp [hvl]) (Pst.from p2 k2 h)
        · exact h.elim
      · exact h.elim
    · exact h.elim
  · rintro v s1 ⟨z, H1, I1, rz, a, Cl, dx, gs, f, fa, fd, ps, j, F, rfl, ea, c, hm, l, hb', hr, ok, q⟩
    obtain rfl : v = .ref a := rz
    refine getmeth_ok I1 ea c hm l ?_
    simp only [List.all_cons, Bool.and_eq_true] at hn
    refine PySem.W.callWith_K (first := [.ref a]) (h₀ := X.base) I.ok.mod.kin hm.kp (thn (q pos pins s1 I1) fun us s2 ⟨vs, H2, I2, r, q2⟩ => ⟨I2.kIn, ?_⟩) (star_one hn.1) (star_any hn.2)
    exact run_fnS (us := .ref a :: us) (vs := .ref a :: vs) (E := L2.WE W) ok hr hb' (L2N.passAt C.tk σ) I2 (.cons rfl r) q2
theorem ok_mth0 (C : Cok X R W G call nm) (hc : X.calm = true) {o : E} {m : Nat} {x : Str} {po : Expr} {apos pos : Pos} (hx : nm.mth[m]? = some x) (hb : attributeBase po x X.env (eval po X.env) = eval po X.env) (hl : (apos.endLine == pos.line) = true)
    (har : ∀ (c : Nat) (k : Kn.Cls) (f : Nat) (F : Fn), G.cls[c]? = some k → alist k.meths m = some f → G.fns[f]? = some F → F.pars = 1) (hal : ∀ (c : Nat) (k : Kn.Cls) (f : Nat), G.cls[c]? = some k → alist k.meths m = some f → ∃ F, G.fns[f]? = some F)
    (ho : OkE X R W G call o po) : OkE X R W G call (.mth o m .nil) (.Call (.Attribute po x apos) [] [] pos) := fun as s hs σ H Q r h => by
  unfold evE at h
  intro pins sh I
  refine PySem.W.methodCall_KW (pl := plainOf po X.env) ?_ (meth_form hb rfl (by decide) hl)
  refine thn ((ho as s hs σ H (fun z H1 => ∃ a Cl dx gs f fa fd ps j F, z = .ref a ∧ H1 a = some (.ins Cl dx gs) ∧ L2.Cls X.K Cl ∧ Meth X.K Cl x fa ∧ gs.lookup x = none ∧ Binds X.K fd ps [] ∧ Room j X.A ∧ FnOk X.prog X.w X.K X.mg X.base (L2N.CX X.prog X.w) j fa fd ps (spOf R call F f) ∧
      spOf R call F f [z] H1 Q (L2.WE W σ)) r (h.bind.imp fun v hs1 as1 H1 p1 k1 r1 h z hz => ?_)) pins sh I) ?_
  · split at h
    · rename_i n
      split at h
      · rename_i c fs e1
        split at h
        · rename_i f ef
          obtain ⟨k, hk, ek⟩ := Option.bind_eq_some_iff.mp ef
          obtain ⟨F, hF⟩ := hal c k f hk ek
          obtain ⟨nf, fa, fd, ps, j, hm, hb', hps, hr1, ok⟩ := C.mths hc c k m f F x hk ek hF hx
          have hr := hr1.mono (Nat.le_succ j)
          have hv := hz
          unfold RV at hz
          obtain ⟨d, ed, rfl⟩ := hz
          obtain ⟨d', dx, gs, f1, f2, f3⟩ := r1.h.inst e1
          rw [ed] at f1; cases f1
          refine ⟨d, _, dx, gs, f, fa, fd, ps, j, F.pars, rfl, f2, (C.clsO c k hk).1, hm, RF.none nf f3, hb', hr, ok, ?_⟩
          have h : Pst R W s σ (KV1 R Q) as1 H1 (callE call f [.ref n] hs1) := h
          exact sp_of r1 (RVs.one hv) (by rw [har c k f F hk ek hF]; rfl) h
        · exact h.elim
      · exact h.elim
    · exact h.elim
  · rintro v s1 ⟨z, H1, I1, rz, a, Cl, dx, gs, f, fa, fd, ps, j, F, rfl, ea, c, hm, l, hb', hr, ok, q⟩
    obtain rfl : v = .ref a := rz
    refine getmeth_ok I1 ea c hm l ?_
    exact PySem.W.callWith_K0 (first := [.ref a]) I1.kIn hm.kp (run_fnS (us := [.ref a]) (vs := [.ref a]) (E := L2.WE W) ok hr hb' (L2N.passAt C.tk σ) I1 (.cons rfl .nil) q)
/-- C(..) -/
theorem run_makeS {Cl f : Addr} {fd : FuncData} {ps : List Str} {k : Nat} {sp : Sp} {E : L2.St → XK} {pins : List (Addr × PySem.Obj)} {σ : L2.St} {H : Hp} {s : Shared} {Q : VK} {us : List Value} {vs : List V} (M : Mk X.K Cl f) (F : FnOk X.prog X.w X.K X.mg X.base (L2N.CX X.prog X.w) k f fd ps sp) (hr : Room (k + 1) X.A) (hb : Binds X.K fd ps [])
    (hx : PassesAt (L2N.CX X.prog X.w) X σ (E σ)) (I : Inv X pins σ H s) (r : Vals vs us)
    (h : ∀ x dx, H x = none → H dx = none → dx ≠ x → sp (.ref x :: vs) (upd (upd H dx (.own x)) x (.ins Cl dx [])) (fun v H2 => v = .non ∧ Q (.ref x) H2) (E σ)) :
    wpAny (model X.prog X.w) X.A (PySem.call (.ref Cl) us) (EP X pins σ Q) X.xe s := by
  have hq := h (s.heap.objs.size + 1) s.heap.objs.size (I.hok.fresh (Nat.le_succ _)) (I.hok.fresh (Nat.le_refl _)) (Nat.ne_of_lt (Nat.lt_succ_self _))
  have I2 := Inv.made (C := Cl) I
  have r2 : Vals (V.ref (s.heap.objs.size + 1) :: vs) (Value.ref (s.heap.objs.size + 1) :: us) := .cons rfl r
  have hl : (Value.ref (s.heap.objs.size + 1) :: us).length = ps.length := by
    have e := r2.length
    rw [F.len _ _ _ _ hq] at e
    exact e.symm
  have b := hb _ (Value.ref (s.heap.objs.size + 1) :: us) I2.kIn (by rw [List.append_nil]; exact hl)
  rw [List.append_nil] at b
  refine wpAny_call (make_map (f := f) I.kIn M.makes M.init (beq_iff_eq.mp M.fn) (codeAny_mono (F.run _ X.stack _ _ ⟨Value.ref (s.heap.objs.size + 1) :: us, []⟩ (Value.ref (s.heap.objs.size + 1) :: us) _ _ (E σ) (hr.make Cl us [])
    (I2.env0.make Cl us []) b r2 hq) fun r s' hq' => ?_))
  cases r with
  | error e => exact hx pins _ _ e s' I2 hq'
  | ok fl =>
    cases fl with
    | ret u =>
      obtain ⟨v, H', I3, rv, ev, q3⟩ := I2.after hq'
      subst ev
      exact ⟨rv, ⟨V.ref (s.heap.objs.size + 1), H', I3, rfl, q3⟩⟩
    | next => exact False.elim hq'
    | brk => exact False.elim hq'
    | cont => exact False.elim hq'
/-- an untracked address more -/
theorem RS.free {as : List Addr} {s : St} {hs : Hs} {σ : L2.St} {H : Hp} {d : Addr} {u : HO} (r : RS R as s hs σ H) (nd : H d = none) : Kp R H (upd H d u) ∧ RS R as s hs σ (upd H d u) := by
  have k : Kp R H (upd H d u) := Kp.new nd
  refine ⟨k, r.to PfxA.refl k ⟨r.h.len, r.h.nd, fun a u e => by rw [upd_ne (ne_of_none (r.h.fz a u e) nd)]; exact r.h.fz a u e, r.h.nf, fun n o e => ?_⟩⟩
  obtain ⟨a, v, e1, e2, e3⟩ := r.h.obj n o e
  exact ⟨a, v, e1, by rw [upd_ne (ne_of_none e2 nd)]; exact e2, RO.mono PfxA.refl k _ _ e3⟩
theorem ok_new (C : Cok X R W G call nm) (hcl : X.calm = true) {c : Nat} {k : Kn.Cls} {F : Fn} {es : Es} {x : Str} {p pos : Pos} {pe : Expr} {pes : List Expr} (hc : G.cls[c]? = some k) (hF : G.fns[k.init]? = some F) (hx : nm.cls[c]? = some x) (hg : L2.Gl X x) (hn : (pe :: pes).all noStar = true) (hl : F.pars = es.len + 1) (he : OkEs X R W G call es (pe :: pes)) :
    OkE X R W G call (.new c es) (.Call (.Name x p) (pe :: pes) [] pos) := fun as s hs σ H Q r h => by
  obtain ⟨hd, hm, fa, fd, ps, j, M, hb, hps, hr, ok⟩ := C.news hcl c k F x hc hF hx
  have hn' := hn
  simp only [List.all_cons, Bool.and_eq_true] at hn'
  unfold evE at h
  rw [hc] at h
  intro pins sh I
  refine wpAny_Call_Name_kw (ld_glob I hg hm ?_ hd)
  have rd : WpA X (pe :: pes) σ H fun xs H1 => ∀ x dx, H1 x = none → H1 dx = none → dx ≠ x → spOf R call F.pars k.init (.ref x :: xs) (upd (upd H1 dx (.own x)) x (.ins (R.cl c) dx [])) (fun v H2 => v = .non ∧ Q (.ref x) H2) (L2.WE W σ) := by
    cases e : evEs G call es s hs with
    | no => rw [e] at h; exact h.elim
    | ex c h' => exact he as s hs σ H _ r (by rw [e] at h ⊢; exact h)
    | ok vs h' =>
      have hvl := evEs_len e
      refine he as s hs σ H _ r ?_
      rw [e] at h ⊢
      intro as1 H1 p1 k1 r1 xs hxs x dx nx ndx hne
      have h : Pst R W s σ (KV1 R Q) as1 H1 ((callE call k.init (.ref h'.length :: vs) (h' ++ [.inst c []])).bind fun r h2 => match r with | .non => .ok (.ref h'.length) h2 | _ => .no) := Pst.from p1 k1 h
      obtain ⟨kp, r2⟩ := r1.free (u := .own x) ndx
      have nx' : upd H1 dx (.own x) x = none := by rw [upd_ne hne.symm]; exact nx
      have kp2 : Kp R (upd H1 dx (.own x)) (upd (upd H1 dx (.own x)) x (.ins (R.cl c) dx [])) := Kp.new nx'
      have r3 := r2.h.new (o := .inst c []) (u := .ins (R.cl c) dx []) nx' ⟨dx, [], rfl, rfl⟩
      have rs3 : RS R (as1 ++ [x]) s (h' ++ [.inst c []]) σ (upd (upd H1 dx (.own x)) x (.ins (R.cl c) dx [])) := r2.to PfxA.snoc kp2 r3
      have rx : RV R (as1 ++ [x]) (upd (upd H1 dx (.own x)) x (.ins (R.cl c) dx [])) (.ref h'.length) (.ref x) := by
        unfold RV
        exact ⟨x, by rw [← r1.h.len]; simp, rfl⟩
      refine sp_of (Q := fun v H2 => v = .non ∧ Q (.ref x) H2) rs3 (RVs.cons rx (RVs.mono (PfxA.snoc) (kp.trans kp2) _ _ hxs)) (by rw [hl]; simp [hvl]) ?_
      refine (Pst.from PfxA.snoc (kp.trans kp2) h).bind.imp fun v hs2 as2 H2 p2 k2 r4 h z hz => ?_
      split at h
      · unfold RV at hz
        exact ⟨hz, h.here r4 (RV.mono p2 k2 _ _ rx)⟩
      · exact h.elim
  refine PySem.W.callWith_K (h₀ := X.base) I.ok.mod.kin M.kp (thn (rd pos pins sh I) fun us s1 ⟨vs, H1, I1, r, q⟩ => ⟨I1.kIn, ?_⟩) (star_one hn'.1) (star_any hn'.2)
  exact run_makeS (E := L2.WE W) M ok hr hb (L2N.passAt C.tk σ) I1 r q
end
end Kn
namespace Kn
open PySem L2 KnK
def nlT (n : Bool) : CmpOp := if n then .NotEq else .Eq
section
variable {X : Cx} {R : Rp} {W : WX} {G : Glo} {call : CallF} {nm : Nm}
theorem op_nil (hu : X.A.units < cLine) (n : Bool) : OpR X (compareOp (nlT n)) (fun x y H Q => ∃ a b xs, x = .ref a ∧ y = .ref b ∧ SqL X.K H a xs ∧ H b = some (.lst []) ∧ Q (.bl (if n then !xs.isEmpty else xs.isEmpty)) H) := by
  intro pins s σ H x y v u Q I rx ry h
  obtain ⟨a, b, xs, rfl, rfl, ha, hb, q⟩ := h
  cases (show v = Value.ref a from rx)
  cases (show u = Value.ref b from ry)
  obtain ⟨us, r1, p1, _⟩ := I.list ha
  obtain ⟨ws, r2, p2, _⟩ := I.list (.inl (.inl hb) : SqL X.K H b [])
  cases r2
  have hl := r1.length
  cases xs with
  | nil =>
    cases r1
    cases n with
    | false => exact SeqAt.eq_listAt (e := fun _ => true) p1.isList p2.isList rfl hu (fun j h1 h2 => absurd h1 (Nat.not_lt_zero j)) ⟨.bl true, H, I, rfl, q⟩
    | true => exact SeqAt.RcNeAt.lists (e := fun _ => true) p1.isList p2.isList rfl hu (fun j h1 h2 => absurd h1 (Nat.not_lt_zero j)) X.prog X.w _ _ ⟨.bl false, H, I, rfl, q⟩
  | cons z zs =>
    cases r1 with
    | cons h1 h2 =>
      cases n with
      | false => exact SeqAt.eq_list_lengthsAt p1.isList p2.isList (by simp) hu ⟨.bl false, H, I, rfl, q⟩
      | true => exact SeqAt.RcNeAt.lists_lengths p1.isList p2.isList (by simp) hu X.prog X.w _ _ ⟨.bl true, H, I, rfl, q⟩
theorem nil_go (C : Cok X R W G call nm) {n : Bool} {a : E} {pa : Expr} {p : Pos} (ha : OkE X R W G call a pa) {as s hs σ H Q} (r : RS R as s hs σ H) (h : Pst R W s σ (KV1 R Q) as H (evE G call (.nil n a) s hs)) :
    tOp (fun x y H Q => ∃ a b xs, x = .ref a ∧ y = .ref b ∧ SqL X.K H a xs ∧ H b = some (.lst []) ∧ Q (.bl (if n then !xs.isEmpty else xs.isEmpty)) H) (WpE X pa) (WpE X (.List [] p)) σ H Q := by
  unfold evE at h
  refine ha as s hs σ H _ r (h.bind.imp fun v hs1 as1 H1 p1 k1 r1 h x hx => ?_)
  split at h
  rotate_left
  · exact h.elim
  rename_i k
  split at h
  rotate_left
  · exact h.elim
  rename_i vs e
  unfold RV at hx
  obtain ⟨d, ed, rfl⟩ := hx
  obtain ⟨d', xs, f1, f2, f3⟩ := r1.h.listAt e
  rw [ed] at f1; cases f1
  refine WpE.of (pe_lst (WpA.pa X [])) (WpA.of pa_nil ⟨Nat.zero_le _, fun q np => ?_⟩)
  obtain ⟨kp, r2⟩ := r1.free (u := .lst []) np
  have hne : d ≠ q := by
    obtain ⟨a, u, e1, e2, _⟩ := r1.h.obj k (hs1[k]'(by
      have := (List.getElem?_eq_some_iff.mp ed).1
      rw [r1.h.len] at this; exact this)) (List.getElem?_eq_getElem _)
    rw [ed] at e1; cases e1
    exact ne_of_none e2 np
  refine ⟨d, q, xs, rfl, rfl, ?_, upd_same, ?_⟩
  · rw [C.hK]
    rcases f2 with (z | ⟨o, z⟩) | z
    · exact .inl (.inl (by rw [upd_ne hne]; exact z))
    · exact .inl (.inr ⟨o, by rw [upd_ne hne]; exact z⟩)
    · exact .inr z
  · have : vs.isEmpty = xs.isEmpty := by
      have := f3.len
      cases vs <;> cases xs <;> simp at this ⊢
    rw [this] at h
    exact h as1 _ PfxA.refl kp r2 _ (by unfold RV; rfl)
theorem ok_nilE (C : Cok X R W G call nm) {n : Bool} {a : E} {pa : Expr} {p pos : Pos} (ha : OkE X R W G call a pa) : OkE X R W G call (.nil n a) (.Compare pa [nlT n] [.List [] p] pos) := fun as s hs σ H Q r h =>
  WpE.of (pe_cmpR (op_nil (by have := C.hu; omega) n) (WpE.pe X pa) (WpE.pe X _) (by cases n <;> rfl)) (nil_go C ha r h)
theorem okT_nilE (C : Cok X R W G call nm) {n : Bool} {a : E} {pa : Expr} {p pos : Pos} (ha : OkE X R W G call a pa) : OkT X R W G call (.nil n a) (.Compare pa [nlT n] [.List [] p] pos) := fun as s hs σ H Q r h =>
  WpT.of (pt_cmpR (op_nil (by have := C.hu; omega) n) (WpE.pe X pa) (WpE.pe X _) (by cases n <;> rfl)) (nil_go C ha r (KB.kv h))
end
end Kn
namespace Kn
open PySem PySem.Spec PyProof.Rows L2 KnK
section
variable {X : Cx} {CX : CXT} {E : L2.St → XK}
theorem run_fnI {k : Nat} {f : Addr} {fd : FuncData} {ps : List Str} {sp : Sp} {pins : List (Addr × PySem.Obj)} {σ : L2.St} {H : Hp} {s : Shared} {Q : VK} {us : List Value} {vs : List V} (F : FnOk X.prog X.w X.K X.mg X.base CX k f fd ps sp) (hr : Room (k + 1) X.A) (hb : Binds X.K fd ps []) (hx : PassesAt CX X σ (E σ))
    (I : Inv X pins σ H s) (r : Vals vs us) (h : sp vs H Q (E σ)) : wpAny (model X.prog X.w) X.A.in1 (PySem.call (.ref f) us) (EP X pins σ Q) X.xe s := by
  have hl : us.length = ps.length := by rw [← r.length]; exact F.len _ _ _ _ h
  have b := hb s us I.kIn (by rw [List.append_nil]; exact hl)
  rw [List.append_nil] at b
  refine wpAny_call (codeAny_mono (F.run X.A.in1 X.stack s H ⟨us, []⟩ us vs Q (E σ) hr.in1 I.env0.in1 b r h) fun r s' hq => ?_)
  cases r with
  | error e => exact hx pins H s e s' I hq
  | ok fl =>
    cases fl with
    | ret u => exact I.after hq
    | next => exact False.elim hq
    | brk => exact False.elim hq
    | cont => exact False.elim hq
theorem len_inst {k : Nat} {f a Cl dx : Addr} {gs : List (Str × V)} {fd : FuncData} {ps : List Str} {sp : Sp} {pins : List (Addr × PySem.Obj)} {σ : L2.St} {H : Hp} {s : Shared} {Q : VK} (F : FnOk X.prog X.w X.K X.mg X.base CX k f fd ps sp) (hr : Room (k + 1) X.A) (hb : Binds X.K fd ps []) (hx : PassesAt CX X σ (E σ))
    (I : Inv X pins σ H s) (e : H a = some (.ins Cl dx gs)) (m : Meth X.K Cl "__len__" f) (h : sp [.ref a] H (fun v H1 => ∃ n : Nat, v = .int n ∧ n ≤ 1000 ∧ Q (.int n) H1) (E σ)) :
    wpAny (model X.prog X.w) X.A (PySem.call (.builtin "len") [.ref a]) (EP X pins σ Q) X.xe s := by
  obtain ⟨mA, O, _⟩ := ins_get I.hok e
  obtain ⟨od, J, _⟩ := O.look
  refine Calls.call_function_entry kind_len plain_len entry_len (args_len1 _) ?_
  unfold Builtin.«len»
  refine wpAny_bind (m := oneArg "len" _) (wpAny_pure ?_)
  refine wpAny_bind (m := callSpecial? (.ref a) (PySem.Str.ofString "__len__")) ?_
  unfold callSpecial? specialOf
  refine wpAny_bind (wpAny_bind (J.type.here ((PySem.W.looks_findIn I.kIn m.at_).here ?_)))
  refine wpAny_holding ?_
  refine wpAny_bind ((PySem.W.bind_fn I.kIn _ (by have := m.fn; unfold PySem.W.isFn at this; exact eq_of_beq this)).here ?_)
  refine wpAny_bind (wpAny_mono (run_fnI (E := E) F hr hb hx I (us := [.ref a]) (vs := [.ref a]) (.cons rfl .nil) h) (fun v s' hq => wpAny_pure ?_) fun _ _ z => z)
  obtain ⟨z, H1, I1, rz, n, rfl, hn, q⟩ := hq
  obtain ⟨t, rfl⟩ := rz
  refine wpAny_bind (wpAny_holding (wpAny_pure ?_))
  refine wpAny_bind (wpAny_letGo ?_)
  show wpAny _ _ (if ((n : Nat) : Int) < 0 then _ else _) _ _ _
  rw [if_neg (by omega)]
  show wpAny _ _ (if ((n : Nat) : Int) ≥ 2 ^ 63 then _ else _) _ _ _
  rw [if_neg (by omega)]
  exact wpAny_bind (wpAny_mkInt (wpAny_pure ⟨_, rfl, .int n, H1, I1.tok _, ⟨_, rfl⟩, q⟩))
end
def lenM (y : Val) (h : Hs) : Out Val := (binV .mul (.str [97]) y h).bind fun v h => biV .len [v] h
theorem lenM_cases (y : Val) (h : Hs) : (∃ n : Nat, n ≤ 1000 ∧ y = .int n ∧ lenM y h = .ok (.int n) h) ∨ lenM y h = .no := by
  cases y with
  | int k =>
    unfold lenM binV
    simp only
    split
    · rename_i c
      simp only [Bool.and_eq_true, decide_eq_true_eq] at c
      refine .inl ⟨k.toNat, Nat.le_of_ble_eq_true c.1.2, by have := c.1.1; rw [Int.toNat_of_nonneg this], ?_⟩
      show biV .len [.str (rep [97] k.toNat)] h = _
      show Out.ok (Val.int ((rep [97] k.toNat).length : Nat)) h = _
      rw [rep_len, show [97].length * k.toNat = k.toNat from Nat.one_mul _]
    · exact .inr rfl
  | _ => exact .inr rfl
theorem lenM_eq (G : Glo) (call : CallF) (e : E) (s : St) (hs : Hs) : evE G call (.bi .len (.cons (.bin .mul (.lit (.str [97])) e) .nil)) s hs = (evE G call e s hs).bind lenM := by
  simp only [evE, evEs, Out.bind]
  cases evE G call e s hs with
  | ok y h =>
    simp only [lenM, Out.bind]
    cases binV .mul (.str [97]) y h <;> rfl
  | _ => rfl
section
variable {X : Cx} {R : Rp} {W : WX} {G : Glo} {call : CallF} {nm : Nm}
theorem ok_lenI (C : Cok X R W G call nm) (hc : X.calm = true) {o : E} {m : Nat} {po : Expr} {p pos : Pos} (hx : nm.mth[m]? = some "__len__") (hg : L2.Gl X "len") (hn : noStar po = true)
    (har : ∀ (c : Nat) (k : Kn.Cls) (f : Nat) (F : Fn), G.cls[c]? = some k → alist k.meths m = some f → G.fns[f]? = some F → F.pars = 1) (hal : ∀ (c : Nat) (k : Kn.Cls) (f : Nat), G.cls[c]? = some k → alist k.meths m = some f → ∃ F, G.fns[f]? = some F)
    (ho : OkE X R W G call o po) : OkE X R W G call (.bi .len (.cons (.bin .mul (.lit (.str [97])) (.mth o m .nil)) .nil)) (.Call (.Name "len" p) [po] [] pos) := fun as s hs σ H Q r h => by
  rw [lenM_eq] at h
  unfold evE at h
  intro pins sh I
  refine Call_ (ld_blt I hg (C.blt _ (by decide +kernel)) PySem.boot_len ?_)
  refine PyProof.Rows.callWith_builtin1 (PyProof.Rows.args_cons ?_ (star_one hn)) (star_one hn) rfl
  have hb : ∀ {x : Out Val} {g : Val → Hs → Out Val}, (x.bind g).bind lenM = x.bind fun v h => (g v h).bind lenM := fun {x g} => by cases x <;> rfl
  rw [hb] at h
  refine thn ((ho as s hs σ H (fun z H1 => ∃ a Cl dx gs f fa fd ps j F, z = .ref a ∧ H1 a = some (.ins Cl dx gs) ∧ Meth X.K Cl "__len__" fa ∧ Binds X.K fd ps [] ∧ Room (j + 1) X.A ∧ FnOk X.prog X.w X.K X.mg X.base (L2N.CX X.prog X.w) j fa fd ps (spOf R call F f) ∧
      spOf R call F f [z] H1 (fun v H1 => ∃ n : Nat, v = .int n ∧ n ≤ 1000 ∧ Q (.int n) H1) (L2.WE W σ)) r (h.bind.imp fun v hs1 as1 H1 p1 k1 r1 h z hz => ?_)) pins sh I) ?_
  · split at h
    · rename_i n
      split at h
      · rename_i c fs e1
        split at h
        · rename_i f ef
          obtain ⟨k, hk, ek⟩ := Option.bind_eq_some_iff.mp ef
          obtain ⟨F, hF⟩ := hal c k f hk ek
          obtain ⟨nf, fa, fd, ps, j, hm, hb', hps, hr, ok⟩ := C.mths hc c k m f F "__len__" hk ek hF hx
          have hv := hz
          unfold RV at hz
          obtain ⟨d, ed, rfl⟩ := hz
          obtain ⟨d', dx, gs, f1, f2, f3⟩ := r1.h.inst e1
          rw [ed] at f1; cases f1
          refine ⟨d, _, dx, gs, f, fa, fd, ps, j, F.pars, rfl, f2, hm, hb', hr, ok, ?_⟩
          have h : Pst R W s σ (KV1 R Q) as1 H1 ((callE call f [.ref n] hs1).bind lenM) := h
          refine sp_of r1 (RVs.one hv) (by rw [har c k f F hk ek hF]; rfl) (h.bind.imp fun y hs2 as2 H2 p2 k2 r2 h2 x hx2 => ?_)
          rcases lenM_cases y hs2 with ⟨n, hn, rfl, e⟩ | e
          · rw [e] at h2
            have e2 : x = .int n := by unfold RV at hx2; exact hx2
            exact ⟨n, e2, hn, h2.here r2 (by unfold RV; rfl)⟩
          · rw [e] at h2; exact h2.elim
        · exact h.elim
      · exact h.elim
    · exact h.elim
  · rintro v s1 ⟨z, H1, I1, rz, a, Cl, dx, gs, f, fa, fd, ps, j, F, rfl, ea, hm, hb', hr, ok, q⟩
    obtain rfl : v = .ref a := rz
    refine PyProof.Rows.args_nil ?_
    exact len_inst (E := L2.WE W) ok hr hb' (L2N.passAt C.tk σ) I1 ea hm q
end
end Kn
namespace Kn
open PySem PySem.Spec PyProof.Rows L2 KnK
section
variable {X : Cx}
/-- how the values of the keywords are put -/
def Run (X : Cx) (ks : List Str) (gz : List V → List V) : Prop := ∀ {CX : CXT} {E : L2.St → XK} {k : Nat} {f : Addr} {fd : FuncData} {ps : List Str} {sp : Sp} {pins : List (Addr × PySem.Obj)} {σ : L2.St} {H : Hp} {s : Shared} {Q : VK} {us ws : List Value} {vs zs : List V},
  FnOk X.prog X.w X.K X.mg X.base CX k f fd ps sp → Room k X.A → BornB X.K fd ps → PassesAt CX X σ (E σ) → Inv X pins σ H s → Vals vs us → vs.length = 3 → Vals zs ws → zs.length = ks.length → sp (vs ++ gz zs) H Q (E σ) →
  wpAny (model X.prog X.w) X.A (PySem.call (.ref f) us (ks.zip ws)) (EP X pins σ Q) X.xe s
theorem run0 : Run X [] fun _ => [.non, .non] := by
  intro CX E k f fd ps sp pins σ H s Q us ws vs zs F hr B hx I r l rz lz h
  obtain ⟨d, hd, hb⟩ := B.b0
  exact run_fnSD (dvs := [.non, .non]) F hr hb hd hx I r h
theorem runK {ks : List Str} {gz : List V → List V} {g : List Value → List Value → List Value} (hb : ∀ {fd : FuncData} {ps : List Str}, BornB X.K fd ps → KBn X.K fd ps 3 ks g (fun vs zs => vs ++ gz zs)) : Run X ks gz := by
  intro CX E k f fd ps sp pins σ H s Q us ws vs zs F hr B hx I r l rz lz h
  have b := hb B
  have r2 := b.rel r rz
  refine wpAny_call (codeAny_mono (F.run X.A X.stack s H ⟨us, ks.zip ws⟩ (g us ws) (vs ++ gz zs) Q (E σ) hr I.env0 (b.to s us ws I.kIn (r.length.symm.trans l) (rz.length.symm.trans lz)) r2 h) fun r s' hq => ?_)
  cases r with
  | error e => exact hx pins H s e s' I hq
  | ok fl =>
    cases fl with
    | ret u => exact I.after hq
    | next => exact False.elim hq
    | brk => exact False.elim hq
    | cont => exact False.elim hq
theorem run1 : Run X ["mother"] fun zs => .non :: zs := runK fun B => B.b1
theorem run2 : Run X ["father", "mother"] fun zs => zs := runK fun B => B.b2
end
theorem meth_formK {o : Expr} {m : Str} {apos pos : Pos} {es : List Expr} {kws : List Keyword} {env : Env} (ho : attributeBase o m env (eval o env) = eval o env) (hn : es.all noStar = true) (hk : (backToKw pos (keywordEach kws env)).all (·.1.isSome) = true) (hf : es.length + kws.length < 29) (hl : (apos.endLine == pos.line) = true) :
    eval (.Call (.Attribute o m apos) es kws pos) env = (do
      let ov ← eval o env
      standAt apos.atName
      let (f, first) ← holding [ov] (getMethod ov m (plainOf o env))
      callWith pos f first (backTo pos (starEach es env)) (backToKw pos (keywordEach kws env))) := by
  rw [arm_eval_Call, ho]
  have hm : methodCallForm (es.length + kws.length) (backTo pos (starEach es env)) (backToKw pos (keywordEach kws env)) = true := by
    unfold methodCallForm
    have h1 : (backTo pos (starEach es env)).all (!·.1) = true := star_all hn
    rw [h1, hk]
    have : decide (es.length + kws.length + (if (backToKw pos (keywordEach kws env)).isEmpty then 0 else 1) < 30) = true := decide_eq_true (by
      split <;> omega)
    rw [this]
    rfl
  congr 1
  funext ov
  congr 1
  funext _
  exact mcall_line hm hl
theorem evEs_two {G : Glo} {call : CallF} {a b : E} {er : Es} {s : St} {h : Hs} : evEs G call (.cons a (.cons b er)) s h = (evEs G call (.cons a (.cons b .nil)) s h).bind fun vs h => (evEs G call er s h).bind fun ws h => .ok (vs ++ ws) h := by
  simp only [evEs, Out.bind]
  cases evE G call a s h with
  | ok va h1 =>
    simp only
    cases evE G call b s h1 with
    | ok vb h2 =>
      simp only
      cases evEs G call er s h2 <;> rfl
    | _ => rfl
  | _ => rfl
section
variable {X : Cx} {R : Rp} {W : WX} {G : Glo} {call : CallF} {nm : Nm}
/-- the keywords' values, gz puts in what is left out -/
def OkK (X : Cx) (R : Rp) (W : WX) (G : Glo) (call : CallF) (er : Es) (kws : List Keyword) (n : Nat) (gz : List V → List V) : Prop := ∀ as s hs σ H (Q : List V → Hp → Prop), RS R as s hs σ H → Pst R W s σ (fun ws _ as H => ∀ zs, RVs R as H ws zs → Q zs H) as H (evEs G call er s hs) →
  ∀ (pos : Pos) (pins : List (Addr × PySem.Obj)) (sh : Shared), Inv X pins σ H sh → wpAny (model X.prog X.w) X.A (evalAll ((backToKw pos (keywordEach kws X.env)).map (·.2))) (AP X pins σ fun zs H => zs.length = n ∧ Q (gz zs) H) X.xe sh
theorem ok_brn (C : Cok X R W G call nm) (hc : X.calm = true) {o a b : E} {er : Es} {x : Str} {po pa pb : Expr} {kws : List Keyword} {apos pos : Pos} {ks : List Str} {gz : List V → List V} (rn : Run X ks gz) (hx : nm.mth[nm.brn]? = some x) (hb : attributeBase po x X.env (eval po X.env) = eval po X.env) (hn : [pa, pb].all noStar = true)
    (hl : (apos.endLine == pos.line) = true) (hka : (backToKw pos (keywordEach kws X.env)).all (·.1.isSome) = true) (hks : (backToKw pos (keywordEach kws X.env)).filterMap (·.1) = ks) (hkn : (backToKw pos (keywordEach kws X.env)).any (·.1.isNone) = false) (hkl : kws.length < 20)
    (har : ∀ (c : Nat) (k : Kn.Cls) (f : Nat) (F : Fn), G.cls[c]? = some k → alist k.meths nm.brn = some f → G.fns[f]? = some F → F.pars = er.len + 3) (hal : ∀ (c : Nat) (k : Kn.Cls) (f : Nat), G.cls[c]? = some k → alist k.meths nm.brn = some f → ∃ F, G.fns[f]? = some F)
    (ho : OkE X R W G call o po) (he : OkEs X R W G call (.cons a (.cons b .nil)) [pa, pb]) (hk : OkK X R W G call er kws ks.length gz) : OkE X R W G call (.mth o nm.brn (.cons a (.cons b er))) (.Call (.Attribute po x apos) [pa, pb] kws pos) := fun as s hs σ H Q r h => by
  unfold evE at h
  intro pins sh I
  refine PySem.W.methodCall_KW (pl := plainOf po X.env) ?_ (meth_formK hb hn hka (by simp only [List.length_cons, List.length_nil]; omega) hl)
  refine thn ((ho as s hs σ H (fun z H1 => ∃ a Cl dx gs f fa fd ps j F, z = .ref a ∧ H1 a = some (.ins Cl dx gs) ∧ L2.Cls X.K Cl ∧ Meth X.K Cl x fa ∧ gs.lookup x = none ∧ BornB X.K fd ps ∧ Room j X.A ∧ FnOk X.prog X.w X.K X.mg X.base (L2N.CX X.prog X.w) j fa fd ps (spOf R call F f) ∧
      WpA X [pa, pb] σ H1 fun xs H2 => xs.length = 2 ∧ ∀ (pos : Pos) (pins : List (Addr × PySem.Obj)) (sh : Shared), Inv X pins σ H2 sh → wpAny (model X.prog X.w) X.A (evalAll ((backToKw pos (keywordEach kws X.env)).map (·.2))) (AP X pins σ fun zs H3 => zs.length = ks.length ∧ spOf R call F f (z :: (xs ++ gz zs)) H3 Q (L2.WE W σ)) X.xe sh) r (h.bind.imp fun v hs1 as1 H1 p1 k1 r1 h z hz => ?_)) pins sh I) ?_
  · split at h
    · rename_i n
      split at h
      · rename_i c fs e1
        split at h
        · rename_i f ef
          obtain ⟨k, hk', ek⟩ := Option.bind_eq_some_iff.mp ef
          obtain ⟨F, hF⟩ := hal c k f hk' ek
          obtain ⟨nf, fa, fd, ps, j, hm, hb', hps, hr, ok⟩ := C.brns hc c k f F x hk' ek hF hx
          have hv := hz
          unfold RV at hz
          obtain ⟨d, ed, rfl⟩ := hz
          obtain ⟨d', dx, gs, f1, f2, f3⟩ := r1.h.inst e1
          rw [ed] at f1; cases f1
          refine ⟨d, _, dx, gs, f, fa, fd, ps, j, F.pars, rfl, f2, (C.clsO c k hk').1, hm, RF.none nf f3, hb', hr, ok, ?_⟩
          have h : Pst R W s σ (KV1 R Q) as1 H1 ((evEs G call (.cons a (.cons b er)) s hs1).bind fun vs h => callE call f (.ref n :: vs) h) := h
          have ha : ∀ {x : Out (List Val)} {g : List Val → Hs → Out (List Val)} {k : List Val → Hs → Out Val}, (x.bind g).bind k = x.bind fun v h => (g v h).bind k := fun {x g k} => by cases x <;> rfl
          rw [evEs_two, ha] at h
          cases e : evEs G call (.cons a (.cons b .nil)) s hs1 with
          | no => rw [e] at h; exact h.elim
          | ex c h' => exact he as1 s hs1 σ H1 _ r1 (by rw [e] at h ⊢; exact h)
          | ok vs h' =>
            have hvl := evEs_len e
            refine he as1 s hs1 σ H1 _ r1 ?_
            rw [e] at h ⊢
            intro as2 H2 p2 k2 r2 xs hxs
            refine ⟨by rw [← hxs.len, hvl]; rfl, ?_⟩
            have h2 := Pst.from p2 k2 h
            have h2 : Pst R W s σ (KV1 R Q) as2 H2 ((evEs G call er s h').bind fun ws h => callE call f (.ref n :: (vs ++ ws)) h) := by
              have : ∀ {x : Out (List Val)}, (x.bind fun ws h => .ok (vs ++ ws) h).bind (fun vs h => callE call f (.ref n :: vs) h) = x.bind fun ws h => callE call f (.ref n :: (vs ++ ws)) h := fun {x} => by cases x <;> rfl
              rw [← this]; exact h2
            refine hk as2 s h' σ H2 (fun zs H3 => spOf R call F.pars f (.ref d :: (xs ++ zs)) H3 Q (L2.WE W σ)) r2 ?_
            cases e2 : evEs G call er s h' with
            | no => rw [e2] at h2; exact h2.elim
            | ex c h' => rw [e2] at h2; exact h2
            | ok ws h3 =>
              have hwl := evEs_len e2
              rw [e2] at h2
              intro as3 H3 p3 k3 r3 zs hzs
              exact sp_of r3 (RVs.cons (RV.mono p3 k3 _ _ (RV.mono p2 k2 _ _ hv)) ((RVs.mono p3 k3 _ _ hxs).append hzs)) (by rw [har c k f F hk' ek hF]; simp [hvl, hwl, Es.len]; omega) (Pst.from p3 k3 h2)
        · exact h.elim
      · exact h.elim
    · exact h.elim
  · rintro v s1 ⟨z, H1, I1, rz, a, Cl, dx, gs, f, fa, fd, ps, j, F, rfl, ea, c, hm, l, hb', hr, ok, q⟩
    obtain rfl : v = .ref a := rz
    refine getmeth_ok I1 ea c hm l ?_
    simp only [List.all_cons, Bool.and_eq_true] at hn
    refine PySem.W.callWith_KW (first := [.ref a]) (h₀ := X.base) I.ok.mod.kin hm.kp hka (thn (q pos pins s1 I1) fun us s2 ⟨vs, H2, I2, r, q1, q2⟩ => ?_) (by
      rw [star_one hn.1]
      have := star_any (env := X.env) (pos := pos) (pes := [pb]) (by simpa using hn.2.1)
      unfold backTo at this ⊢
      rw [List.map_cons, List.any_cons, this, hkn]; rfl) (star_one hn.1)
    refine thn (q2 pos pins s2 I2) fun ws s3 ⟨zs, H3, I3, rz, l1, q3⟩ => ⟨I3.kIn, ?_⟩
    rw [hks]
    exact rn (E := L2.WE W) ok hr hb' (L2N.passAt C.tk σ) I3 (us := .ref a :: us) (vs := .ref a :: vs) (.cons rfl r) (by rw [List.length_cons, q1]) rz l1 q3
theorem okK0 : OkK X R W G call (.cons (.lit .non) (.cons (.lit .non) .nil)) [] 0 (fun _ => [.non, .non]) := fun as s hs σ H Q r h pos pins sh I => by
  have h : Pst R W s σ (fun ws _ as H => ∀ zs, RVs R as H ws zs → Q zs H) as H (.ok [.non, .non] hs) := h
  refine wpAny_evalAll_nil ⟨[], H, I, .nil, rfl, ?_⟩
  exact h as H PfxA.refl Kp.refl r _ (RVs.cons (by unfold RV; rfl) (RVs.one (by unfold RV; rfl)))
theorem okK1 {e : E} {pe : Expr} {kp : Pos} (he : OkE X R W G call e pe) : OkK X R W G call (.cons (.lit .non) (.cons e .nil)) [⟨some "mother", pe, kp⟩] 1 (fun zs => .non :: zs) := fun as s hs σ H Q r h pos pins sh I => by
  have e1 : evEs G call (.cons (.lit .non) (.cons e .nil)) s hs = (evE G call e s hs).bind fun v h => .ok [.non, v] h := by
    simp only [evEs, evE, Out.bind]
    cases evE G call e s hs <;> rfl
  rw [e1] at h
  refine (pk_cons (WpE.pe X pe) pk_nil).run pos pins sh σ H _ I ?_
  refine he as s hs σ H _ r (h.bind.imp fun v hs1 as1 H1 p1 k1 r1 h x hx => ?_)
  exact ⟨rfl, h as1 H1 PfxA.refl Kp.refl r1 _ (RVs.cons (by unfold RV; rfl) (RVs.one hx))⟩
theorem okK2 {e1 e2 : E} {p1 p2 : Expr} {kp kq : Pos} (h1 : OkE X R W G call e1 p1) (h2 : OkE X R W G call e2 p2) : OkK X R W G call (.cons e1 (.cons e2 .nil)) [⟨some "father", p1, kp⟩, ⟨some "mother", p2, kq⟩] 2 (fun zs => zs) := fun as s hs σ H Q r h pos pins sh I => by
  have e : evEs G call (.cons e1 (.cons e2 .nil)) s hs = (evE G call e1 s hs).bind fun v h => (evE G call e2 s h).bind fun w h => .ok [v, w] h := by
    simp only [evEs, Out.bind]
    cases evE G call e1 s hs with
    | ok v h =>
      simp only
      cases evE G call e2 s h <;> rfl
    | _ => rfl
  rw [e] at h
  refine (pk_cons (WpE.pe X p1) (pk_cons (WpE.pe X p2) pk_nil)).run pos pins sh σ H _ I ?_
  refine h1 as s hs σ H _ r (h.bind.imp fun v hs1 as1 H1 p1 k1 r1 h x hx => ?_)
  refine h2 as1 s hs1 σ H1 _ r1 (h.bind.imp fun w hs2 as2 H2 p2 k2 r2 h y hy => ?_)
  exact ⟨rfl, h as2 H2 PfxA.refl Kp.refl r2 _ (RVs.cons (RV.mono p2 k2 _ _ hx) (RVs.one hy))⟩
end
end Kn
namespace Kn
open PySem L2 KnK
theorem RH.alter {R : Rp} {as : List Addr} {hs : Hs} {H : Hp} (r : RH R as hs H) {n : Nat} {o o' : Obj} (e : hs[n]? = some o) (f : ∀ a u, RO R as H a o u → RO R as H a o' u) : RH R as (hs.set n o') H := by
  refine ⟨by simp [r.len], r.nd, r.fz, r.nf, fun m ob e' => ?_⟩
  by_cases hm : n = m
  · subst hm
    rw [List.getElem?_set_self (List.getElem?_eq_some_iff.mp e).1] at e'
    cases e'
    obtain ⟨a, u, e1, e2, e3⟩ := r.obj n o e
    exact ⟨a, u, e1, e2, f a u e3⟩
  · rw [List.getElem?_set_ne hm] at e'
    exact r.obj m ob e'
/-- what is walked stands locked -/
def LkOk (src : Src) (hs : Hs) : Prop := ∀ n, src.lk = some n → ∃ o, (lkd src hs)[n]? = some o ∧ isLk o = true
theorem lock_list {hs : Hs} {n : Nat} {vs : List Val} (hv : Kn.listAt hs n = some vs) : ∃ o, (Kn.lock hs n)[n]? = some o ∧ isLk o = true ∧ ∀ hs' : Hs, hs'[n]? = some o → Kn.listAt hs' n = some vs := by
  unfold Kn.listAt at hv
  split at hv
  · rename_i ws e1
    cases hv
    exact ⟨.lck vs, by unfold Kn.lock; rw [e1]; simp [(List.getElem?_eq_some_iff.mp e1).1], rfl, fun hs' e => by unfold Kn.listAt; rw [e]⟩
  · rename_i ws e1
    cases hv
    exact ⟨.frz (.list vs), by unfold Kn.lock; rw [e1]; exact e1, rfl, fun hs' e => by unfold Kn.listAt; rw [e]⟩
  · rename_i ws e1
    cases hv
    exact ⟨.lck vs, by unfold Kn.lock; rw [e1]; exact e1, rfl, fun hs' e => by unfold Kn.listAt; rw [e]⟩
  · cases hv
theorem RH.lockL {R : Rp} {as : List Addr} {hs : Hs} {H : Hp} {n : Nat} {vs : List Val} (r : RH R as hs H) (hv : Kn.listAt hs n = some vs) : RH R as (Kn.lock hs n) H := by
  unfold Kn.lock
  split
  · rename_i e1
    exact r.alter e1 fun a u q => q
  · rename_i kvs e1
    unfold Kn.listAt at hv
    rw [e1] at hv
    cases hv
  · exact r
theorem RH.unlockL {R : Rp} {as : List Addr} {hs0 hs : Hs} {H : Hp} {n : Nat} {vs : List Val} (r : RH R as hs H) (hv : Kn.listAt hs0 n = some vs) (k : Fz (Kn.lock hs0 n) hs) : RH R as (Kn.unlock hs0 hs n) H := by
  unfold Kn.unlock
  unfold Kn.listAt at hv
  split at hv
  · rename_i ws e1
    cases hv
    rw [e1]
    have : (Kn.lock hs0 n)[n]? = some (.lck vs) := by
      unfold Kn.lock
      rw [e1]
      simp [(List.getElem?_eq_some_iff.mp e1).1]
    exact r.alter (k n _ this rfl) fun a u q => q
  · rename_i ws e1
    cases hv
    rw [e1]
    have : (Kn.lock hs0 n)[n]? = some (.frz (.list vs)) := by
      unfold Kn.lock
      rw [e1]
      exact e1
    exact r.alter (k n _ this rfl) fun a u q => q
  · rename_i ws e1
    cases hv
    rw [e1]
    have : (Kn.lock hs0 n)[n]? = some (.lck vs) := by
      unfold Kn.lock
      rw [e1]
      exact e1
    exact r.alter (k n _ this rfl) fun a u q => q
  · cases hv
def Kps (src : Src) (hs hs' : Hs) : Prop := ∀ n, src.lk = some n → hs'[n]? = (lkd src hs)[n]?
theorem Kps.of {src : Src} {hs hs' : Hs} (l : LkOk src hs) (k : Fz (lkd src hs) hs') : Kps src hs hs' := fun n e => by
  obtain ⟨o, eo, il⟩ := l n e
  rw [eo]
  exact k n o eo il
/-- the heap unlocked again: the same, or at one place -/
def UnH (X : Cx) (H H3 : Hp) : Prop := H3 = H ∨ ∃ d od u, H d = some (.frz od u) ∧ (∀ o' u', X.H_0 d ≠ some (.frz o' u')) ∧ H3 = upd H d u
theorem UnH.inv {X : Cx} {pins : List (Addr × PySem.Obj)} {σ : L2.St} {H H3 : Hp} {s : Shared} (u : UnH X H H3) (I : Inv X pins σ H s) : Inv X pins σ H3 s := by
  rcases u with rfl | ⟨d, od, u, h1, h2, rfl⟩
  · exact I
  · exact I.unlock h1 h2
theorem WpE.un {X : Cx} {e : Expr} {σ : L2.St} {H : Hp} {Q : VK} (h : WpE X e σ H fun v H2 => ∃ H3, UnH X H2 H3 ∧ Q v H3) : WpE X e σ H Q := fun pins s I =>
  thn (h pins s I) fun v s1 ⟨x, H1, I1, r, H3, u, q⟩ => ⟨x, H3, u.inv I1, r, q⟩
def unE (X : Cx) (D : Ends) : Ends := ⟨fun σ H => ∃ H3, UnH X H H3 ∧ D.nx σ H3, fun v H => ∃ H3, UnH X H H3 ∧ D.rt v H3, fun σ H => ∃ H3, UnH X H H3 ∧ D.bk σ H3, fun σ H => ∃ H3, UnH X H H3 ∧ D.ct σ H3⟩
theorem WpS.un {X : Cx} {st : Stmt} {D : Ends} {σ : L2.St} {H : Hp} (h : WpS X st (unE X D) σ H) : WpS X st D σ H := fun pins s I => by
  refine thn (h pins s I) fun f s1 q => ?_
  cases f with
  | next => obtain ⟨σ', H', I2, H3, u, q⟩ := q; exact ⟨σ', H3, u.inv I2, q⟩
  | brk => obtain ⟨σ', H', I2, H3, u, q⟩ := q; exact ⟨σ', H3, u.inv I2, q⟩
  | cont => obtain ⟨σ', H', I2, H3, u, q⟩ := q; exact ⟨σ', H3, u.inv I2, q⟩
  | ret v => obtain ⟨x, σ', H', I2, r, H3, u, q⟩ := q; exact ⟨x, σ', H3, u.inv I2, r, q⟩
/-- H2 is H with what is walked locked -/
structure Lk (X : Cx) (R : Rp) (src : Src) (as : List Addr) (hs : Hs) (H H2 : Hp) : Prop where
  ok : LkOk src hs
  rh : RH R as (lkd src hs) H2
  kp : Kp R H H2
  fr : ∀ a, H2 a = none → H a = none
  one : src.dk = false → H2 = H
  un : ∀ as' hs' H', PfxA as as' → Kp R H2 H' → RH R as' hs' H' → Fz (lkd src hs) hs' → ∃ H3, UnH X H' H3 ∧ Kt R H' H3 ∧ Kp R H H3 ∧ RH R as' (unlkd src hs hs') H3 ∧ (src.dk = false → H3 = H')
theorem lk_none {X : Cx} {R : Rp} {items : List Val} {dk : Bool} {as : List Addr} {hs : Hs} {H : Hp} (r : RH R as hs H) : Lk X R ⟨items, none, dk⟩ as hs H H :=
  ⟨fun n e => by (cases e), r, Kp.refl, fun _ h => h, fun _ => rfl, fun as' hs' H' p k r' f => ⟨H', .inl rfl, fun _ _ h => h, k, r', fun _ => rfl⟩⟩
theorem lk_list {X : Cx} {R : Rp} {items : List Val} {n : Nat} {vs : List Val} {as : List Addr} {hs : Hs} {H : Hp} (r : RH R as hs H) (hv : Kn.listAt hs n = some vs) : Lk X R ⟨items, some n, false⟩ as hs H H :=
  ⟨fun m e => by (cases e; obtain ⟨o, h1, h2, _⟩ := lock_list hv; exact ⟨o, h1, h2⟩), r.lockL hv, Kp.refl, fun _ h => h, fun _ => rfl, fun as' hs' H' p k r' f => ⟨H', .inl rfl, fun _ _ h => h, k, r'.unlockL hv f, fun _ => rfl⟩⟩
structure SrcW (R : Rp) (src : Src) (as : List Addr) (hs : Hs) (H : Hp) (J : L2.It) : Prop where
  goes : ∀ as' hs' H' i, PfxA as as' → Kp R H H' → RH R as' hs' H' → Kps src hs hs' → i < src.items.length → J.go i H'
  stops : ∀ as' hs' H', PfxA as as' → Kp R H H' → RH R as' hs' H' → Kps src hs hs' → J.stop src.items.length H'
  ylds : ∀ as' hs' H' i v x H1, PfxA as as' → Kp R H H' → RH R as' hs' H' → Kps src hs hs' → src.items[i]? = some v → J.yld i H' x H1 → Kp R H' H1 ∧ RH R as' hs' H1 ∧ RV R as' H1 v x
  same : ∀ i H' x H1, J.yld i H' x H1 → H1 = H'
/-- the keys of a locked dict -/
def ItN (w : World) (d : Addr) (o : PySem.Obj) (l : List (NestedKey × V × V)) : L2.It :=
  ⟨fun i H => H d = some (.frz o (DX w d l)) ∧ i < l.length, fun i H x H' => H' = H ∧ ∃ q, l[i]? = some q ∧ x = q.2.1, fun i H => H d = some (.frz o (DX w d l)) ∧ l.length ≤ i⟩
theorem frzN {X : Cx} {pins : List (Addr × PySem.Obj)} {σ : L2.St} {H : Hp} {s : Shared} (I : Inv X pins σ H s) {d : Addr} {o : PySem.Obj} {l : List (NestedKey × V × V)} (h : H d = some (.frz o (DX X.w d l))) :
    (d == sysModules) = false ∧ s.heap.get? d = some o ∧ o.ExactDict ∧ ∃ es ep, o.data = .dict es ep ∧ es.size = l.length ∧ ∀ (i : Nat) (q : NestedKey × V × V), l[i]? = some q → ∃ en, es[i]? = some en ∧ RelV q.2.1 en.key := by
  obtain ⟨h1, ⟨h2, h3, o', es, ep, h4, h5, h6, h7⟩, _⟩ := I.hok d _ h
  rw [h1] at h4
  cases h4
  have hl : es.size = l.length := by
    have := h7.length
    simpa using this.symm
  refine ⟨h2, h1, h5, es, ep, h6, hl, fun i q hq => ?_⟩
  obtain ⟨en, h8, h9⟩ := L2.paired_get h7 hq
  exact ⟨en, by rw [← Array.getElem?_toList]; exact h8, h9.2.1⟩
theorem turn_N {P : Program} {w : World} {K : PySem.W.Frag} {tg : Expr} {d : Addr} {o : PySem.Obj} {es : Array DictEntry} {ep : Nat} {l : List (NestedKey × V × V)} (it : Addr) (hod : o.data = .dict es ep) : Turn P w K tg (ItN w d o l) [it] it (fun i h => h.IsKeyIter it d i l.length ep) where
  mem := by simp
  obj := fun i h st b hb => by
    have e : b = it := by simpa using hb
    subst e
    obtain ⟨oi, e, c, dd⟩ := st
    exact ⟨oi, e, fun v z => by rw [dd] at z; cases z⟩
  keep := fun i h h' st k => st.at fun oi e => k it (by simp) oi e
  item := by
    intro X hP hw hK hc i pins s σ H E I hf st hg
    subst hP hw hK
    obtain ⟨hd, hi⟩ := hg
    obtain ⟨f0, f1, f2, f3, f4, f5⟩ := hf it (by simp)
    obtain ⟨hs, hgd, hx, es', ep', hdt, hsz, ent⟩ := frzN I hd
    obtain ⟨rfl, rfl⟩ := dict_ep hod hdt
    have hq : l[i]? = some l[i] := List.getElem?_eq_getElem hi
    obtain ⟨en, hen, hkey⟩ := ent i _ hq
    refine next_key_item st hgd hdt hsz hen fun h' st' sb => ?_
    have I1 : Inv X pins σ H { s with heap := h' } := I.turned (t' := s.toks) (fun b ob hb e => (sb.2 b hb).trans e) f0 f1 f3 f4 f5
    obtain ⟨oi, e, c, dd⟩ := id st'
    exact ⟨en.key, rfl, go_of (s := { s with heap := h' }) e c dd (by decide) ⟨l[i].2.1, H, I1, hkey, ⟨rfl, l[i], hq, rfl⟩, st', fun b hb => (hf b hb).1⟩⟩
  done := by
    intro X hP hw hK hc i pins s σ H E I hf st hg
    subst hP hw hK
    obtain ⟨hd, hi⟩ := hg
    obtain ⟨f0, f1, f2, f3, f4, f5⟩ := hf it (by simp)
    obtain ⟨hs, hgd, hx, es', ep', hdt, hsz, ent⟩ := frzN I hd
    obtain ⟨rfl, rfl⟩ := dict_ep hod hdt
    exact next_key_end (I.ok.hd hc) st hgd hdt hsz hi fun h' eb => ⟨rfl, I.turned (t' := s.toks) (fun b ob hb e => eb b ob hb e) f0 f1 f3 f4 f5⟩
  self := fun A i s Q E st h => by
    refine wpAny_pyIter_slot st.typeIs F.slot_dict_keyiterator_iter (wpAny_call_entry F.slot_dict_keyiterator_iter st.typeIs F.entry_dict_keyiterator_iter ?_ (F.args_dict_keyiterator_iter_1 _))
    show wpAny _ _ (ret (.ref it)) _ _ s
    exact wpAny_pure ⟨_, rfl, "dict_keyiterator", _, st.typeIs, F.slot_dict_keyiterator_next.lookup, h⟩
theorem it_dict {X : Cx} {tg : Expr} {pins : List (Addr × PySem.Obj)} {σ : L2.St} {H : Hp} {s : Shared} {d : Addr} {o : PySem.Obj} {l : List (NestedKey × V × V)} {Rr : L2.It → Hp → Prop} (I : Inv X pins σ H s) (hd : H d = some (.frz o (DX X.w d l))) (q : Rr (ItN X.w d o l) H) :
    wpAny (model X.prog X.w) X.A (pyIter (.ref d)) (PIE X pins σ tg Rr) X.xe s := by
  obtain ⟨hs, hgd, hx, es, ep, hdt, hsz, ent⟩ := frzN I hd
  refine iter_keys hs hgd hx hdt (pi_one (tk := s.toks) I _ (turn_N _ hdt) ⟨_, Heap.get?_push_size _ rfl, rfl, ?_⟩ q)
  rw [hsz] <;> rfl
theorem RKv.get {R : Rp} {as : List Addr} {H : Hp} : ∀ {kvs : List (Val × Val)} {l : List (NestedKey × V × V)} {i : Nat} {q : NestedKey × V × V}, RKv R as H kvs l → l[i]? = some q → ∃ v, (kvs.map (·.1))[i]? = some v ∧ RV R as H v q.2.1
  | [], _, i, q, h, e => by unfold RKv at h; subst h; simp at e
  | (k, v) :: r, _, i, q, h, e => by
    obtain ⟨z, x, t, rfl, h0, h1, h2, h3⟩ := h
    cases i with
    | zero => simp at e; subst e; exact ⟨k, by simp, h1⟩
    | succ i =>
      obtain ⟨w, e1, e2⟩ := RKv.get h3 (i := i) (by simpa using e)
      exact ⟨w, by simpa using e1, e2⟩
theorem src_dict {R : Rp} {n : Nat} {kvs : List (Val × Val)} {as : List Addr} {hs : Hs} {H : Hp} {d : Addr} {od : PySem.Obj} {l : List (NestedKey × V × V)} (hd : H d = some (.frz od (DX R.w d l))) (rk : RKv R as H kvs l) : SrcW R ⟨kvs.map (·.1), some n, true⟩ as hs H (ItN R.w d od l) := by
  have hl : kvs.length = l.length := rk.len
  refine ⟨fun as' hs' H' i p k r' kp hi => ⟨k.z _ _ _ hd, by rw [← hl]; simpa using hi⟩, fun as' hs' H' p k r' kp => ⟨k.z _ _ _ hd, by rw [← hl]; simp⟩, fun as' hs' H' i v x H1 p k r' kp hi y => ?_, fun i H' x H1 y => y.1⟩
  obtain ⟨rfl, q, hq, rfl⟩ := y
  obtain ⟨w, e1, e2⟩ := rk.get hq
  have hi : (kvs.map (·.1))[i]? = some v := hi
  rw [e1] at hi
  cases hi
  exact ⟨Kp.refl, r', RV.mono p k _ _ e2⟩
theorem lk_dict {X : Cx} {R : Rp} {items : List Val} {n : Nat} {kvs : List (Val × Val)} {as : List Addr} {hs : Hs} {H : Hp} {d : Addr} {od : PySem.Obj} {l : List (NestedKey × V × V)} (r : RH R as hs H) (e : hs[n]? = some (.dict kvs)) (ed : as[n]? = some d) (hd : H d = some (DX R.w d l)) (rk : RKv R as H kvs l) (nd : (l.map (·.1)).Nodup)
    (nf : ∀ o' u', X.H_0 d ≠ some (.frz o' u')) : Lk X R ⟨items, some n, true⟩ as hs H (upd H d (.frz od (DX R.w d l))) := by
  have hlt := (List.getElem?_eq_some_iff.mp e).1
  have el : Kn.lock hs n = hs.set n (.frz (.dict kvs)) := by unfold Kn.lock; rw [e]
  have kw : Kp R H (upd H d (.frz od (DX R.w d l))) := Kp.write hd trivial
  refine ⟨fun m em => ?_, ?_, kw, fun a h => ?_, fun z => (by cases z), fun as' hs' H' p k r' f => ?_⟩
  · cases em
    refine ⟨.frz (.dict kvs), ?_, rfl⟩
    show (Kn.lock hs n)[n]? = _
    rw [el, List.getElem?_set_self hlt]
  · show RH R as (Kn.lock hs n) _
    rw [el]
    exact r.write e ed hd trivial ⟨od, _, rfl, l, rfl, RKv.mono PfxA.refl kw _ _ rk, nd⟩
  · by_cases ha : a = d
    · subst ha; rw [upd_same] at h; cases h
    · rw [upd_ne ha] at h; exact h
  · have f : Fz (Kn.lock hs n) hs' := f
    rw [el] at f
    have e' : hs'[n]? = some (.frz (.dict kvs)) := f n _ (List.getElem?_set_self hlt) rfl
    have hd' : H' d = some (.frz od (DX R.w d l)) := k.z _ _ _ upd_same
    have kt : Kt R H' (upd H' d (DX R.w d l)) := fun a xs q => by
      have hne : ∀ o, H' a = some o → (∀ ob, o ≠ .frz ob (DX R.w d l)) → a ≠ d := fun o eo hn z => by
        subst z
        rw [hd'] at eo
        cases eo
        exact hn _ rfl
      rcases q with (q | ⟨ob, q⟩) | q
      · exact .inl (.inl (by rw [upd_ne (hne _ q fun ob z => by cases z)]; exact q))
      · exact .inl (.inr ⟨ob, by rw [upd_ne (hne _ q fun ob' z => by cases z)]; exact q⟩)
      · exact .inr q
    have kk : Kp R H (upd H' d (DX R.w d l)) := ⟨fun a xs q => kt _ _ (k.t _ _ (kw.t _ _ q)), fun a ob u q => by
      have ha : a ≠ d := fun z => by subst z; rw [hd] at q; cases q
      rw [upd_ne ha]
      exact k.z _ _ _ (kw.z _ _ _ q)⟩
    refine ⟨upd H' d (DX R.w d l), .inr ⟨d, od, _, hd', nf, rfl⟩, kt, kk, ?_, fun z => (by cases z)⟩
    show RH R as' (Kn.unlock hs hs' n) _
    unfold Kn.unlock
    rw [e]
    exact r'.writeT e' (p _ _ ed) hd' kt ⟨l, rfl, RKv.mono p kk _ _ rk, nd⟩
theorem lk_frz {X : Cx} {R : Rp} {items : List Val} {n : Nat} {kvs : List (Val × Val)} {as : List Addr} {hs : Hs} {H : Hp} (r : RH R as hs H) (e : hs[n]? = some (.frz (.dict kvs))) : Lk X R ⟨items, some n, true⟩ as hs H H := by
  have el : Kn.lock hs n = hs := by unfold Kn.lock; rw [e]
  refine ⟨fun m em => ?_, ?_, Kp.refl, fun _ h => h, fun _ => rfl, fun as' hs' H' p k r' f => ⟨H', .inl rfl, fun _ _ h => h, k, ?_, fun _ => rfl⟩⟩
  · cases em
    exact ⟨_, by show (Kn.lock hs n)[n]? = _; rw [el]; exact e, rfl⟩
  · show RH R as (Kn.lock hs n) _
    rw [el]; exact r
  · have f : Fz (Kn.lock hs n) hs' := f
    rw [el] at f
    show RH R as' (Kn.unlock hs hs' n) _
    unfold Kn.unlock
    rw [e]
    exact r'.alter (f n _ e rfl) fun a u q => q
def WpI (X : Cx) (tg pi : Expr) (σ : L2.St) (H : Hp) (Rr : L2.It → Hp → Prop) : Prop := ∀ (pins : List (Addr × PySem.Obj)) (s : Shared), Inv X pins σ H s →
  wpAny (model X.prog X.w) X.A (eval pi X.env) (fun v s1 => wpAny (model X.prog X.w) X.A (pyIter v) (PIE X pins σ tg Rr) X.xe s1) X.xe s
theorem WpI.pi (X : Cx) (tg pi : Expr) : PI X tg pi (WpI X tg pi) := ⟨fun pins s _ _ _ I h => h pins s I⟩
theorem WpI.of {X : Cx} {tg pi : Expr} {t : TI} {σ : L2.St} {H : Hp} {Rr : L2.It → Hp → Prop} (h : PI X tg pi t) (q : t σ H Rr) : WpI X tg pi σ H Rr := fun pins s I => h.run pins s σ H Rr I q
theorem it_list {X : Cx} {tg : Expr} {pins : List (Addr × PySem.Obj)} {σ : L2.St} {H : Hp} {s : Shared} {a : Addr} {xs : List V} {Rr : L2.It → Hp → Prop} (I : Inv X pins σ H s) (hq : SqL X.K H a xs) (q : Rr (Itl X.K a) H) : wpAny (model X.prog X.w) X.A (pyIter (.ref a)) (PIE X pins σ tg Rr) X.xe s := by
  obtain ⟨its, rv, p, hz⟩ := I.list hq
  refine wpAny_pyIter_list p.isList ?_
  refine ⟨s.heap.objs.size, [s.heap.objs.size], _, _, H, rfl, I.kept (t' := s.toks) fun b o e => Heap.get?_push_of_some _ e, turn_list a _, ⟨_, Heap.get?_push_size _ rfl, rfl, rfl⟩, fun b hb => ?_, q⟩
  have e : b = s.heap.objs.size := by simpa using hb
  subst e
  exact I.fpOk (Nat.le_refl _) (I.hok.fresh (Nat.le_refl _))
theorem it_tup {X : Cx} {tg : Expr} {pins : List (Addr × PySem.Obj)} {σ : L2.St} {H : Hp} {s : Shared} {a : Addr} {xs : List V} {Rr : L2.It → Hp → Prop} (I : Inv X pins σ H s) (hq : SqT X.K H a xs) (q : Rr (Itt X.K a) H) : wpAny (model X.prog X.w) X.A (pyIter (.ref a)) (PIE X pins σ tg Rr) X.xe s := by
  obtain ⟨its, rv, p, hz⟩ := I.tuple hq
  refine wpAny_pyIter_tuple (show s.heap.IsTuple a its.toArray from p) ?_
  refine ⟨s.heap.objs.size, [s.heap.objs.size], _, _, H, rfl, I.kept (t' := s.toks) fun b o e => Heap.get?_push_of_some _ e, turn_tuple a _, ⟨_, Heap.get?_push_size _ rfl, rfl, rfl⟩, fun b hb => ?_, q⟩
  have e : b = s.heap.objs.size := by simpa using hb
  subst e
  exact I.fpOk (Nat.le_refl _) (I.hok.fresh (Nat.le_refl _))
theorem it_str {X : Cx} {tg : Expr} {pins : List (Addr × PySem.Obj)} {σ : L2.St} {H : Hp} {s : Shared} {x : Str} {v : Value} {Rr : L2.It → Hp → Prop} (I : Inv X pins σ H s) (r : RelV (.str x) v) (q : Rr (Its x) H) : wpAny (model X.prog X.w) X.A (pyIter v) (PIE X pins σ tg Rr) X.xe s := by
  obtain ⟨t, rfl⟩ := r
  cases ha : x.cps.all (· < 128)
  · exact wpAny_pyIter_wide ha (pi_one (tk := s.toks) I _ (turn_str _ x t "str_iterator" (.inr rfl)) ⟨_, Heap.get?_push_size _ rfl, rfl, rfl⟩ q)
  · exact wpAny_pyIter_ascii ha (pi_one (tk := s.toks) I _ (turn_str _ x t "str_ascii_iterator" (.inl rfl)) ⟨_, Heap.get?_push_size _ rfl, rfl, rfl⟩ q)
theorem src_of {X : Cx} {R : Rp} {as : List Addr} {hs : Hs} {H : Hp} {v : Val} {x : V} {src : Src} {Rr : L2.It → Hp → Prop} (r : RH R as hs H) (e : srcOf v hs = some src) (hx : RV R as H v x) (q : ∀ J H2, Lk X R src as hs H H2 → SrcW R src as hs H2 J → Rr J H2) :
    (∃ a xs, x = .ref a ∧ SqL R.K H a xs ∧ Rr (Itl R.K a) H) ∨ (∃ a xs, x = .ref a ∧ SqT R.K H a xs ∧ Rr (Itt R.K a) H) ∨ (∃ z, x = .str z ∧ Rr (Its z) H) ∨
    (∃ d l, x = .ref d ∧ H d = some (DX R.w d l) ∧ ∀ od, (∀ o' u', X.H_0 d ≠ some (.frz o' u')) → Rr (ItN R.w d od l) (upd H d (.frz od (DX R.w d l)))) ∨ (∃ d od l, x = .ref d ∧ H d = some (.frz od (DX R.w d l)) ∧ Rr (ItN R.w d od l) H) := by
  unfold srcOf at e
  split at e
  · cases e
    unfold RV at hx
    obtain ⟨a, xs, rfl, h1, h2⟩ := hx
    refine .inr (.inl ⟨a, xs, rfl, h1, q _ H (lk_none r) ⟨fun as' hs' H' i p k r' l hi => ?_, fun as' hs' H' p k r' l => ?_, fun as' hs' H' i v x H1 p k r' l hi y => ?_, fun i H' x H1 y => y.1⟩⟩)
    · have hi : i < xs.length := by rw [← h2.len]; exact hi
      exact ⟨xs, xs[i], k.t _ _ h1, by simp [hi]⟩
    · exact ⟨xs, k.t _ _ h1, by rw [← h2.len]; exact Nat.le_refl _⟩
    · obtain ⟨rfl, y⟩ := y
      obtain ⟨z, e1, e2⟩ := h2.get hi
      rw [y xs (k.t _ _ h1)] at e1
      cases e1
      exact ⟨Kp.refl, r', RV.mono p k _ _ e2⟩
  · cases e
    rename_i t
    unfold RV at hx
    obtain ⟨rfl, g⟩ := hx
    refine .inr (.inr (.inl ⟨_, rfl, q _ H (lk_none r) ⟨fun as' hs' H' i p k r' l hi => ?_, fun as' hs' H' p k r' l => ?_, fun as' hs' H' i v x H1 p k r' l hi y => ?_, fun i H' x H1 y => y.1⟩⟩))
    · show i < t.toArray.size
      simpa using hi
    · show t.toArray.size ≤ _
      simp
    · obtain ⟨rfl, c, ec, rfl⟩ := y
      have ec : t.toArray[i]? = some c := ec
      have ec : t[i]? = some c := by simpa using ec
      have hi : (t.map fun c => Val.str [c])[i]? = some v := hi
      rw [List.getElem?_map, ec] at hi
      cases hi
      refine ⟨Kp.refl, r', ?_⟩
      unfold RV
      refine ⟨rfl, by simp [sizeLine_eq], fun d hd => ?_⟩
      have : d = c := by simpa using hd
      subst this
      exact g.2 _ (List.mem_of_getElem? ec)
  · rename_i n
    split at e
    · rename_i vs hv
      cases e
      unfold RV at hx
      obtain ⟨a, ea, rfl⟩ := hx
      obtain ⟨a', xs, e1, h1, h2⟩ := r.listAt hv
      rw [ea] at e1; cases e1
      obtain ⟨o, lo1, lo2, lo3⟩ := lock_list hv
      have key : ∀ as' hs' H', PfxA as as' → RH R as' hs' H' → Kps ⟨vs, some n, false⟩ hs hs' → ∃ ys, SqL R.K H' a ys ∧ RVs R as' H' vs ys := fun as' hs' H' p r' l => by
        obtain ⟨b, ys, f1, f2, f3⟩ := r'.listAt (lo3 hs' ((l n rfl).trans lo1))
        rw [p n a ea] at f1; cases f1
        exact ⟨ys, f2, f3⟩
      refine .inl ⟨a, xs, rfl, h1, q _ H (lk_list r hv) ⟨fun as' hs' H' i p k r' l hi => ?_, fun as' hs' H' p k r' l => ?_, fun as' hs' H' i v x H1 p k r' l hi y => ?_, fun i H' x H1 y => y.1⟩⟩
      · obtain ⟨ys, f2, f3⟩ := key as' hs' H' p r' l
        have hi : i < ys.length := by rw [← f3.len]; exact hi
        exact ⟨ys, ys[i], f2, by simp [hi]⟩
      · obtain ⟨ys, f2, f3⟩ := key as' hs' H' p r' l
        exact ⟨ys, f2, by rw [← f3.len]; exact Nat.le_refl _⟩
      · obtain ⟨ys, f2, f3⟩ := key as' hs' H' p r' l
        obtain ⟨rfl, y⟩ := y
        obtain ⟨z, e1, e2⟩ := f3.get hi
        rw [y ys f2] at e1
        cases e1
        exact ⟨Kp.refl, r', e2⟩
    · split at e
      · rename_i kvs hv
        cases e
        unfold RV at hx
        obtain ⟨a, ea, rfl⟩ := hx
        unfold Kn.dictAt at hv
        split at hv
        · cases hv
          rename_i e1
          obtain ⟨a', u, f1, f2, l, rfl, rk, nd⟩ := r.obj n _ e1
          rw [ea] at f1; cases f1
          refine .inr (.inr (.inr (.inl ⟨a, l, rfl, f2, fun od nf => ?_⟩)))
          exact q _ _ (lk_dict r e1 ea f2 rk nd nf) (src_dict upd_same (RKv.mono PfxA.refl (Kp.write f2 trivial) _ _ rk))
        · cases hv
          rename_i e1
          obtain ⟨a', u, f1, f2, ob, u', rfl, l, rfl, rk, nd⟩ := r.obj n _ e1
          rw [ea] at f1; cases f1
          exact .inr (.inr (.inr (.inr ⟨a, ob, l, rfl, f2, q _ H (lk_frz r e1) (src_dict f2 rk)⟩)))
        · cases hv
      · cases e
  · cases e
theorem rng_get (lo : Int) : ∀ (n i : Nat), i < n → (Kn.rng lo n)[i]? = some (.int (lo + i))
  | 0, _, h => absurd h (Nat.not_lt_zero _)
  | n + 1, 0, _ => by unfold Kn.rng; simp
  | n + 1, i + 1, h => by
    unfold Kn.rng
    simp only [List.getElem?_cons_succ]
    rw [rng_get (lo + 1) n i (by omega)]
    congr 2
    push_cast
    omega
theorem rng_len (lo : Int) : ∀ n : Nat, (Kn.rng lo n).length = n
  | 0 => rfl
  | n + 1 => by unfold Kn.rng; simp [rng_len (lo + 1) n]
theorem src_rng {R : Rp} {as : List Addr} {hs : Hs} {H : Hp} {lo : Int} {n : Nat} : SrcW R ⟨Kn.rng lo n, none, false⟩ as hs H (Itr lo n) := by
  refine ⟨fun as' hs' H' i p k r' l hi => ?_, fun as' hs' H' p k r' l => ?_, fun as' hs' H' i v x H1 p k r' l hi y => ?_, fun i H' x H1 y => y.1⟩
  · show i < n
    simpa [rng_len] using hi
  · show n ≤ _
    simp [rng_len]
  · obtain ⟨rfl, rfl⟩ := y
    have hl : i < n := by
      have := (List.getElem?_eq_some_iff.mp hi).1
      simpa [rng_len] using this
    have hi : (Kn.rng lo n)[i]? = some v := hi
    rw [rng_get lo n i hl] at hi
    cases hi
    exact ⟨Kp.refl, r', by unfold RV; rfl⟩
section
variable {X : Cx} {R : Rp} {W : WX} {G : Glo} {call : CallF} {nm : Nm}
def OkI (X : Cx) (R : Rp) (W : WX) (G : Glo) (call : CallF) (it : Kn.It) (tg pi : Expr) : Prop := ∀ as s hs σ H Rr, RS R as s hs σ H → Pst R W s σ (fun src hs' as' H' => ∀ J H2, Lk X R src as' hs' H' H2 → SrcW R src as' hs' H2 J → Rr J H2) as H (evI G call it s hs) → WpI X tg pi σ H Rr
theorem okI_ex (C : Cok X R W G call nm) {e : E} {tg pe : Expr} (he : OkE X R W G call e pe) : OkI X R W G call (.ex e) tg pe := fun as s hs σ H Rr r h => by
  unfold evI at h
  intro pins sh I
  refine thn ((he as s hs σ H (fun x H => (∃ a xs, x = .ref a ∧ SqL R.K H a xs ∧ Rr (Itl R.K a) H) ∨ (∃ a xs, x = .ref a ∧ SqT R.K H a xs ∧ Rr (Itt R.K a) H) ∨ (∃ z, x = .str z ∧ Rr (Its z) H) ∨
    (∃ d l, x = .ref d ∧ H d = some (DX R.w d l) ∧ ∀ od, (∀ o' u', X.H_0 d ≠ some (.frz o' u')) → Rr (ItN R.w d od l) (upd H d (.frz od (DX R.w d l)))) ∨ (∃ d od l, x = .ref d ∧ H d = some (.frz od (DX R.w d l)) ∧ Rr (ItN R.w d od l) H)) r (h.bind.imp fun v hs1 as1 H1 p1 k1 r1 h x hx => ?_)) pins sh I) ?_
  · obtain ⟨src, e, h⟩ := h.opt
    exact src_of r1.h e hx (h as1 H1 PfxA.refl Kp.refl r1)
  · rintro v s1 ⟨x, H1, I1, rx, q⟩
    rcases q with ⟨a, xs, rfl, h1, q⟩ | ⟨a, xs, rfl, h1, q⟩ | ⟨z, rfl, q⟩ | ⟨d, l, rfl, h1, q⟩ | ⟨d, od, l, rfl, h1, q⟩
    · obtain rfl : v = .ref a := rx
      exact it_list I1 (by rw [C.hK]; exact h1) (by rw [C.hK]; exact q)
    · obtain rfl : v = .ref a := rx
      exact it_tup I1 (by rw [C.hK]; exact h1) (by rw [C.hK]; exact q)
    · exact it_str I1 rx q
    · obtain rfl : v = .ref d := rx
      obtain ⟨od, I2⟩ := I1.lock h1 trivial
      rw [← C.hw] at I2 q
      exact it_dict I2 upd_same (q od (I1.nofrz h1 trivial))
    · obtain rfl : v = .ref d := rx
      rw [← C.hw] at h1 q
      exact it_dict I1 h1 q
theorem okI_rng (C : Cok X R W G call nm) {e : E} {tg pe : Expr} {p pos : Pos} (hg : Gl X "range") (hn : noStar pe = true) (he : OkE X R W G call e pe) : OkI X R W G call (.rng e) tg (.Call (.Name "range" p) [pe] [] pos) := fun as s hs σ H Rr r h => by
  unfold evI at h
  refine WpI.of (pi_range1 hg (C.blt _ (by decide)) (WpA.pa X [pe]) (star_one hn)) ?_
  refine WpA.of (pa_cons (WpE.pe X pe) (WpA.pa X []) (star_one hn)) ?_
  refine he as s hs σ H _ r (h.bind.imp fun v hs1 as1 H1 p1 k1 r1 h x hx => ?_)
  refine WpA.of pa_nil ?_
  split at h
  · rename_i j
    split at h
    · rename_i hj
      have := inI_lt hj
      unfold RV at hx
      subst hx
      exact ⟨j, rfl, by omega, by omega, h as1 H1 PfxA.refl Kp.refl r1 _ H1 (lk_none r1.h) src_rng⟩
    · exact h.elim
  · exact h.elim
theorem okI_rng2 (C : Cok X R W G call nm) {a b : E} {tg pa pb : Expr} {p pos : Pos} (hg : Gl X "range") (hna : noStar pa = true) (hnb : noStar pb = true) (ha : OkE X R W G call a pa) (hb : OkE X R W G call b pb) : OkI X R W G call (.rng2 a b) tg (.Call (.Name "range" p) [pa, pb] [] pos) := fun as s hs σ H Rr r h => by
  unfold evI at h
  refine WpI.of (pi_range2 hg (C.blt _ (by decide)) (WpA.pa X [pa, pb]) (by rw [star_one hna, star_one hnb]; rfl) (star_one hnb)) ?_
  refine WpA.of (pa_cons (WpE.pe X pa) (WpA.pa X [pb]) (star_one hna)) ?_
  refine ha as s hs σ H _ r (h.bind.imp fun v hs1 as1 H1 p1 k1 r1 h x hx => ?_)
  refine WpA.of (pa_cons (WpE.pe X pb) (WpA.pa X []) (star_one hnb)) ?_
  refine hb as1 s hs1 σ H1 _ r1 (h.bind.imp fun w hs2 as2 H2 p2 k2 r2 h y hy => ?_)
  refine WpA.of pa_nil ?_
  split at h
  · rename_i _ _ i j _
    split at h
    · rename_i hj
      rw [Bool.and_eq_true] at hj
      have h1 := inI_lt hj.1
      have h2 := inI_lt hj.2
      unfold RV at hx hy
      subst hx hy
      exact ⟨i, j, rfl, by omega, h as2 H2 PfxA.refl Kp.refl r2 _ H2 (lk_none r2.h) src_rng⟩
    · exact h.elim
  · exact h.elim
def tgSlots : Tg → List Nat
  | .name i => [i]
  | .tup js => js
def tgVals (h : Hs) : Tg → Val → List Val
  | .name _, v => [v]
  | .tup _, .tup vs => vs
  | .tup _, .ref n => (Kn.listAt h n).getD []
  | .tup _, _ => []
def tgOk (h : Hs) : Tg → Val → Bool
  | .name _, _ => true
  | .tup _, .tup _ => true
  | .tup _, .ref n => (Kn.listAt h n).isSome
  | .tup _, _ => false
def setsL (σ : L2.St) : List Nat → List V → L2.St
  | i :: r, x :: t => setsL (σ.set i (some x)) r t
  | _, _ => σ
theorem tgSet_eq {tg : Tg} {v : Val} {s s2 : St} {hs : Hs} (h : tgSet tg v s hs = some s2) : tgOk hs tg v = true ∧ sets s (tgSlots tg) (tgVals hs tg v) = some s2 := by
  unfold tgSet at h
  split at h
  · exact ⟨rfl, h⟩
  · split at h
    · exact ⟨rfl, h⟩
    · split at h
      · rename_i e
        exact ⟨by simp [tgOk, e], by simp only [tgSlots, tgVals, e]; exact h⟩
      · cases h
    · cases h
theorem sets_len : ∀ {js : List Nat} {vs : List Val} {s s2 : St}, sets s js vs = some s2 → vs.length = js.length
  | [], [], _, _, _ => rfl
  | [], _ :: _, _, _, h => by (unfold sets at h; cases h)
  | _ :: _, [], _, _, h => by (unfold sets at h; cases h)
  | i :: r, v :: t, s, s2, h => by
    unfold sets at h
    simp [sets_len h]
theorem sets_rel {as : List Addr} {H : Hp} : ∀ {js : List Nat} {vs : List Val} {xs : List V} {s s2 : St} {σ : L2.St}, s.length = σ.length → (∀ (i : Nat) (v : Val), i ∉ js → s[i]? = some (some v) → ∃ x, σ[i]? = some (some x) ∧ RV R as H v x) → RVs R as H vs xs → sets s js vs = some s2 →
    s2.length = (setsL σ js xs).length ∧ ∀ (i : Nat) (v : Val), s2[i]? = some (some v) → ∃ x, (setsL σ js xs)[i]? = some (some x) ∧ RV R as H v x
  | [], [], _, s, s2, σ, hl, hv, hx, h => by
    unfold sets at h
    cases h
    exact ⟨hl, fun i v e => hv i v (by simp) e⟩
  | [], _ :: _, _, _, _, _, _, _, _, h => by (unfold sets at h; cases h)
  | _ :: _, [], _, _, _, _, _, _, _, h => by (unfold sets at h; cases h)
  | j :: r, v :: t, xs, s, s2, σ, hl, hv, hx, h => by
    unfold sets at h
    unfold RVs at hx
    obtain ⟨x, xt, rfl, h1, h2⟩ := hx
    refine sets_rel (s := s.set j (some v)) (σ := σ.set j (some x)) (by simp [hl]) (fun i w hi e => ?_) h2 h
    by_cases hij : j = i
    · subst hij
      by_cases hlt : j < s.length
      · rw [List.getElem?_set_self hlt] at e
        cases e
        exact ⟨x, by rw [List.getElem?_set_self (by rw [← hl]; exact hlt)], h1⟩
      · rw [List.getElem?_eq_none (by simpa using hlt)] at e; cases e
    · rw [List.getElem?_set_ne hij] at e ⊢
      exact hv i w (by simp only [List.mem_cons, not_or]; exact ⟨fun z => hij z.symm, hi⟩) e
theorem wipe_get (σ : L2.St) (i : Nat) : ∀ vs : List Nat, (wipe σ vs)[i]? = if i ∈ vs then (σ[i]?).map (fun _ => none) else σ[i]?
  | [] => by simp [wipe]
  | v :: vs => by
    unfold wipe
    by_cases h : v = i
    · subst h
      rw [if_pos List.mem_cons_self]
      by_cases hl : v < σ.length
      · rw [List.getElem?_set_self (by rw [wipe_length]; exact hl)]
        simp [List.getElem?_eq_getElem hl]
      · rw [List.getElem?_eq_none (by simp [wipe_length]; omega), List.getElem?_eq_none (by omega)]
        rfl
    · rw [List.getElem?_set_ne h, wipe_get σ i vs]
      have : (i ∈ v :: vs) ↔ i ∈ vs := by simp [Ne.symm h]
      simp only [this]
theorem setsL_len : ∀ (js : List Nat) (xs : List V) (σ : L2.St), (setsL σ js xs).length = σ.length
  | [], _, _ => rfl
  | _ :: _, [], _ => rfl
  | j :: r, x :: t, σ => by unfold setsL; rw [setsL_len r t]; simp
theorem setsL_out {i : Nat} : ∀ {js : List Nat} {xs : List V} {σ : L2.St}, i ∉ js → (setsL σ js xs)[i]? = σ[i]?
  | [], _, _, _ => rfl
  | _ :: _, [], _, _ => rfl
  | j :: r, x :: t, σ, h => by
    unfold setsL
    rw [setsL_out (fun z => h (List.mem_cons_of_mem _ z)), List.getElem?_set_ne (fun z => h (by rw [z]; exact List.mem_cons_self))]
theorem wipe_sets {σ : L2.St} {js : List Nat} {xs : List V} : wipe (setsL (wipe σ js) js xs) js = wipe σ js := by
  apply List.ext_getElem?
  intro i
  rw [wipe_get, wipe_get]
  by_cases h : i ∈ js
  · rw [if_pos h, if_pos h]
    by_cases hl : i < σ.length
    · rw [List.getElem?_eq_getElem (by rw [setsL_len, wipe_length]; exact hl), List.getElem?_eq_getElem hl]; rfl
    · rw [List.getElem?_eq_none (by rw [setsL_len, wipe_length]; omega), List.getElem?_eq_none (by omega)]
  · rw [if_neg h, if_neg h, setsL_out h, wipe_get, if_neg h]
/-- a turn's slots -/
theorem RS.turn {as : List Addr} {s s2 : St} {hs hs' : Hs} {σ : L2.St} {H : Hp} {tg : Tg} {v : Val} {xs : List V} (r : RS R as s hs σ H) (h : tgSet tg v s hs' = some s2) (q : RVs R as H (tgVals hs' tg v) xs) : RS R as s2 hs (setsL σ (tgSlots tg) xs) H := by
  obtain ⟨h1, h2⟩ := sets_rel r.len (fun i v _ e => r.val i v e) q (tgSet_eq h).2
  exact ⟨r.h, h1, h2⟩
theorem RS.turnW {as : List Addr} {s s2 : St} {hs hs' : Hs} {σ : L2.St} {H : Hp} {tg : Tg} {v : Val} {xs : List V} (r : RS R as s hs σ H) (h : tgSet tg v s hs' = some s2) (q : RVs R as H (tgVals hs' tg v) xs) : RS R as s2 hs (setsL (wipe σ (tgSlots tg)) (tgSlots tg) xs) H := by
  obtain ⟨h1, h2⟩ := sets_rel (σ := wipe σ (tgSlots tg)) (by rw [wipe_length]; exact r.len) (fun i v hi e => by rw [wipe_get, if_neg hi]; exact r.val i v e) q (tgSet_eq h).2
  exact ⟨r.h, h1, h2⟩
def WpG (X : Cx) (ptg : Expr) (x : V) (σ : L2.St) (H : Hp) (Q : L2.St → Hp → Prop) : Prop := ∀ (pins : List (Addr × PySem.Obj)) (s : Shared) (u : Value), Inv X pins σ H s → RelV x u →
  wpAny (model X.prog X.w) X.A (assign ptg X.env u) (fun _ s' => ∃ σ' H', Inv X pins σ' H' s' ∧ Q σ' H') X.xe s
theorem WpG.pg (X : Cx) (ptg : Expr) : PG X ptg (WpG X ptg) := ⟨fun pins s _ _ _ _ _ I r h => h pins s _ I r⟩
theorem WpG.of {ptg : Expr} {t : TG} {x : V} {σ : L2.St} {H : Hp} {Q : L2.St → Hp → Prop} (h : PG X ptg t) (q : t x σ H Q) : WpG X ptg x σ H Q := fun pins s u I r => h.run pins s σ H x u Q I r q
def OkG (X : Cx) (R : Rp) (tg : Tg) (ptg : Expr) : Prop := ∀ as hs σ H v x Q, RH R as hs H → RV R as H v x → tgOk hs tg v = true → (tgVals hs tg v).length = (tgSlots tg).length → (∀ xs, RVs R as H (tgVals hs tg v) xs → Q (setsL σ (tgSlots tg) xs) H) → WpG X ptg x σ H Q
/-- a name that may be stored -/
def LocB (sc : Scope) (x : Str) : Bool := decide (sc.names.lookup x = some .local)
theorem okG_name (C : X.N.Nodup) {i : Nat} {x : Str} {pos : Pos} (hN : X.N[i]? = some x) (hx : X.env.scope.names.lookup x = some .local ∨ (X.env.scope.names.lookup x = some .cell ∧ X.fn x = true)) : OkG X R (.name i) (.Name x pos) := fun as hs σ H v z Q _ hz _ _ h => by
  have h1 : Loc X.env.scope x := hx.elim .inl fun z => .inr z.1
  have h2 : X.fn x = true ∨ X.env.scope.names.lookup x = some .local := hx.elim .inr fun z => .inl z.2
  exact WpG.of (pg_name C hN h1 h2) (h [z] (RVs.one hz))
def gNames (js : List Nat) : TGs := fun vs σ H Q => vs.length = js.length ∧ Q (setsL σ js vs) H
def NmOk (X : Cx) : List Nat → List Expr → Prop
  | [], es => es = []
  | j :: r, es => ∃ x p t, es = .Name x p :: t ∧ X.N[j]? = some x ∧ (X.env.scope.names.lookup x = some .local ∨ (X.env.scope.names.lookup x = some .cell ∧ X.fn x = true)) ∧ NmOk X r t
theorem pgs_names (C : X.N.Nodup) : ∀ {js : List Nat} {es : List Expr}, NmOk X js es → PGs X es (gNames js) ∧ (assignEach es X.env).length = js.length ∧ (assignEach es X.env).findIdx? (·.1) = none ∧ es.length = js.length
  | [], _, h => by
    unfold NmOk at h
    subst h
    refine ⟨⟨fun pins s σ H vs us Q I r q => ?_⟩, rfl, rfl, rfl⟩
    obtain ⟨e, q⟩ := q
    exact pgs_nil.run pins s σ H vs us Q I r ⟨List.length_eq_zero_iff.mp e, by
      have : vs = [] := List.length_eq_zero_iff.mp e
      subst this
      exact q⟩
  | j :: r, _, h => by
    obtain ⟨x, p, t, rfl, hN, hx, h⟩ := h
    obtain ⟨i1, i2, i3, i4⟩ := pgs_names C h
    have h1 : Loc X.env.scope x := hx.elim .inl fun z => .inr z.1
    have h2 : X.fn x = true ∨ X.env.scope.names.lookup x = some .local := hx.elim .inr fun z => .inl z.2
    refine ⟨⟨fun pins s σ H vs us Q I r q => ?_⟩, by show (assignEach t X.env).length + 1 = _; rw [i2]; rfl, ?_, by simp [i4]⟩
    · obtain ⟨e, q⟩ := q
      match vs, e, q with
      | v :: vt, e, q =>
        refine (pgs_cons (pg_name C hN h1 h2) i1).run pins s σ H _ us Q I r ⟨v, vt, rfl, ?_⟩
        exact ⟨by simpa using e, q⟩
    · show (List.findIdx? (·.1) ((false, _) :: assignEach t X.env)) = none
      rw [List.findIdx?_cons, i3]
      rfl
theorem okG_tup (C : Cok X R W G call nm) (hc : X.calm = true) {js : List Nat} {es : List Expr} {k : Nat} {pos : Pos} (h : NmOk X js es) : OkG X R (.tup js) (.Tuple es k pos) := fun as hs σ H v z Q rh hz ho hl h' => by
  obtain ⟨i1, i2, i3, i4⟩ := pgs_names C.nd h
  cases v with
  | tup vs =>
    unfold RV at hz
    obtain ⟨a, xs, rfl, h1, h2⟩ := hz
    have hl : vs.length = js.length := hl
    exact WpG.of (pg_tup hc i1 i2 i3) ⟨a, xs, rfl, by rw [C.hK]; exact h1, by rw [← h2.len, hl], by rw [← h2.len, hl], h' xs h2⟩
  | ref n =>
    unfold tgOk at ho
    obtain ⟨vs, e⟩ := Option.isSome_iff_exists.mp ho
    have ev : tgVals hs (.tup js) (.ref n) = vs := by simp only [tgVals, e]; rfl
    rw [ev] at hl h'
    unfold RV at hz
    obtain ⟨a, ea, rfl⟩ := hz
    obtain ⟨a', xs, e1, h1, h2⟩ := rh.listAt e
    rw [ea] at e1; cases e1
    have hl : vs.length = js.length := hl
    exact WpG.of (pg_unl hc i1 i2 i3) ⟨a, xs, rfl, by rw [C.hK]; exact h1, by rw [← h2.len, hl], by rw [← h2.len, hl], h' xs h2⟩
  | _ => simp [tgOk] at ho
end
end Kn
namespace Kn
open PySem L2 KnK
section
variable {X : Cx} {R : Rp} {W : WX} {G : Glo} {call : CallF} {nm : Nm}
abbrev WF : WX := fun _ _ _ _ => False
/-- the block's contexts -/
abbrev BX (X : Cx) (scope : Scope) (s : Shared) (H : Hp) (C : Addr) (cl : List (Str × Addr)) (fp : List Addr) : Cx := X.blk s H scope (compEnvC scope cl C X.env) fp
def WpC (X : Cx) (ifs : List Expr) (σ : L2.St) (H : Hp) (Q : Bool → Hp → Prop) : Prop := ∀ (pins : List (Addr × PySem.Obj)) (s : Shared), Inv X pins σ H s →
    wpAny (model X.prog X.w) X.A (forIn ifs true fun c r => if r = true then do let ok ← isTrue c X.env (eval c X.env); pure (ForInStep.yield ok) else pure (ForInStep.yield r)) (TP X pins σ Q) X.xe s
theorem WpC.of {ifs : List Expr} {t : TT} {σ : L2.St} {H : Hp} {Q : Bool → Hp → Prop} (h : PTs X ifs t) (q : t σ H Q) : WpC X ifs σ H Q := fun pins s I => h.run pins s σ H Q I q
def OkC (X : Cx) (R : Rp) (W : WX) (G : Glo) (call : CallF) (cond : Es) (ifs : List Expr) : Prop := ∀ as s hs σ H Q, RS R as s hs σ H → Pst R W s σ (fun vs _ _ H => (vs = [] ∧ Q true H) ∨ ∃ b, vs = [.bl b] ∧ Q b H) as H (evEs G call cond s hs) → WpC X ifs σ H Q
def gB (X : Cx) (scope : Scope) (ptg : Expr) : TG := fun x σ H Q => ∀ s0 H0 c cl fp, WpG (BX X scope s0 H0 c cl fp) ptg x σ H Q
def tB (X : Cx) (scope : Scope) (pifs : List Expr) : TT := fun σ H Q => ∀ s0 H0 c cl fp, WpC (BX X scope s0 H0 c cl fp) pifs σ H Q
def eB (X : Cx) (scope : Scope) (pelt : Expr) : TE := fun σ H Q => ∀ s0 H0 c cl fp, WpE (BX X scope s0 H0 c cl fp) pelt σ H Q
theorem gB_ok {scope : Scope} {ptg : Expr} {s0 H0 c cl fp} : PG (BX X scope s0 H0 c cl fp) ptg (gB X scope ptg) := ⟨fun pins s _ _ _ _ _ I r h => h s0 H0 c cl fp pins s _ I r⟩
theorem tB_ok {scope : Scope} {ifs : List Expr} {s0 H0 c cl fp} : PTs (BX X scope s0 H0 c cl fp) ifs (tB X scope ifs) := ⟨fun pins s _ _ _ I h => h s0 H0 c cl fp pins s I⟩
theorem eB_ok {scope : Scope} {pe : Expr} {s0 H0 c cl fp} : PE (BX X scope s0 H0 c cl fp) pe (eB X scope pe) := ⟨fun pins s _ _ _ I h => h s0 H0 c cl fp pins s I⟩
theorem okC_nil : OkC X R W G call .nil [] := fun as s hs σ H Q r h => by
  unfold evEs at h
  refine WpC.of pts_nil ?_
  rcases h as H PfxA.refl Kp.refl r with ⟨_, q⟩ | ⟨b, e, _⟩
  · exact q
  · cases e
theorem okC_one {e : E} {pe : Expr} (he : OkT X R W G call e pe) : OkC X R W G call (.cons e .nil) [pe] := fun as s hs σ H Q r h => by
  unfold evEs evEs at h
  refine WpC.of (pts_one (WpT.pt X pe)) ?_
  refine he as s hs σ H _ r (h.bind.imp fun v hs1 as1 H1 p1 k1 r1 h => ?_)
  rcases h as1 H1 PfxA.refl Kp.refl r1 with ⟨e, _⟩ | ⟨b, e, q⟩
  · cases e
  · cases e
    exact ⟨b, rfl, q⟩
theorem ok_comp (C : Cok X R W G call nm) (hk : ∀ f vs h, KO h (call f vs h)) {elt : E} {tg : Tg} {it : Kn.It} {cond : Es} {pelt ptg piter : Expr} {pifs : List Expr} {scope : Scope} {own : List (Str × Nat)} {pos : Pos}
    (hi : OkI X R W G call it ptg piter) (ok : BlkOk X.N X.env.scope scope own) (hown : own.map (·.2) = tgSlots tg)
    (hg : ∀ s H c cl fp, OkG (BX X scope s H c cl fp) R tg ptg) (hc : ∀ s H c cl fp, OkC (BX X scope s H c cl fp) R WF G call cond pifs) (he : ∀ s H c cl fp, OkE (BX X scope s H c cl fp) R WF G call elt pelt)
    (hs : ∀ x, foldedSetIterable piter X.env x = pure x) : ∀ as s hs σ H Q, RS R as s hs σ H → Pst R W s σ (KV1 R Q) as H (evE G call (.comp elt tg it cond) s hs) →
    tLc (WpI X ptg piter) (gB X scope ptg) (tB X scope pifs) (eB X scope pelt) (own.map (·.2)) σ H (fun v H2 => ∃ H3, UnH X H2 H3 ∧ Q v H3) := fun as s hs σ H Q r h => by
  unfold evE at h
  refine hi as s hs σ H _ r (h.bind.imp fun src hs1 as1 H1 p1 k1 r1 h J Hl lk sw D nD => ?_)
  rw [hown]
  have tk := compTurn_k (ec := fun s h => evEs G call cond s h) (ee := fun s h => evE G call elt s h) (fun s h => evEs_k (G := G) hk cond s h) (fun s h => evE_k (G := G) hk elt s h) tg s
  generalize hf : compTurn (fun s h => evEs G call cond s h) (fun s h => evE G call elt s h) tg s = f at h tk
  split at h
  rotate_left
  · exact h.elim
  rename_i vs h2 hgo
  have lks := lkd_len src hs1
  -- what stands at turn i
  let Pv : Nat → Hp → Prop := fun i H => ∃ as' hs' acc, PfxA (as1 ++ [D]) as' ∧ Kp R Hl H ∧ RH R as' hs' H ∧ hs'[hs1.length]? = some (.lck acc) ∧ Fz (lkd src hs1) hs' ∧ compGo f hs1.length (src.items.drop i) acc hs' = .ok vs h2
  have pD : as1 ++ [D] = as1 ++ [D] := rfl
  have aD : (as1 ++ [D])[hs1.length]? = some D := by rw [← r1.h.len]; simp
  refine ⟨fun i m H => m = src.items.length - i ∧ i ≤ src.items.length ∧ Pv i H, ⟨src.items.length, by simp, Nat.zero_le _, ?_⟩, ?_⟩
  · refine ⟨as1 ++ [D], lkd src hs1 ++ [.lck []], [], PfxA.refl, Kp.new nD, lk.rh.new nD (o := .lck []) (u := .lst []) ⟨[], rfl, RVs.nil⟩, ?_, Fz.app, by simpa using hgo⟩
    rw [← lks]; simp
  · rintro i m H' ⟨rfl, hil, as', hs', acc, p', k', r', hacc, fz, go⟩
    have pp : PfxA as1 as' := PfxA.snoc.trans p'
    have kps := Kps.of lk.ok fz
    by_cases hlt : i < src.items.length
    rotate_left
    · have ei : i = src.items.length := by omega
      subst ei
      rw [List.drop_length] at go
      unfold compGo at go
      cases go
      refine .inl ⟨sw.stops as' h2 H' pp k' r' kps, ?_⟩
      obtain ⟨H3, un, kt, kp3, ru, _⟩ := lk.un as' h2 H' pp k' r' fz
      refine ⟨H3, un, ?_⟩
      have e2 : (unlkd src hs1 h2)[hs1.length]? = some (.lck vs) := by
        unfold unlkd
        split
        · rename_i n en
          unfold Kn.unlock
          split
          · rename_i o eo
            have := (List.getElem?_eq_some_iff.mp eo).1
            rw [List.getElem?_set_ne (by omega)]
            exact hacc
          · exact hacc
        · exact hacc
      have rf : RH R as' ((unlkd src hs1 h2).set hs1.length (.list vs)) H3 := ru.alter e2 fun a u q => q
      refine h as' H3 pp kp3 (r1.to pp kp3 rf) _ ?_
      unfold RV
      exact ⟨D, p' _ _ aD, rfl⟩
    · refine .inr ⟨sw.goes as' hs' H' i pp k' r' kps hlt, Pv (i + 1), fun H'' q => ⟨_, by omega, rfl, by omega, q⟩, fun x H'' y => ?_⟩
      have ev : src.items[i]? = some src.items[i] := by simp [hlt]
      obtain ⟨ky, ry, vy⟩ := sw.ylds as' hs' H' i _ x H'' pp k' r' kps ev y
      rw [List.drop_eq_getElem_cons hlt] at go
      unfold compGo at go
      generalize hv : src.items[i] = v at go ev vy
      -- the turn
      have tkv := tk v hs'
      subst hf
      cases et : compTurn (fun s h => evEs G call cond s h) (fun s h => evE G call elt s h) tg s v hs' with
      | no => rw [et] at go; cases go
      | ex c h' => rw [et] at go; cases go
      | ok w h' =>
      rw [et] at go tkv
      have et' := et
      unfold compTurn at et
      cases es2 : tgSet tg v s hs' with
      | none => rw [es2] at et; cases et
      | some s2 =>
      rw [es2] at et
      obtain ⟨to, tl⟩ := tgSet_eq es2
      intro s0 H0 c0 cl0 fp0
      refine hg s0 H0 c0 cl0 fp0 as' hs' _ H'' v x _ ry vy to (sets_len tl) fun xs hxs => ⟨wipe_sets, fun s0 H0 c0 cl0 fp0 => ?_⟩
      have rs2 : RS R as' s2 hs' (setsL (wipe σ (tgSlots tg)) (tgSlots tg) xs) H'' := RS.turnW (r1.to pp (lk.kp.trans (k'.trans ky)) ry) es2 hxs
      refine hc s0 H0 c0 cl0 fp0 as' s2 hs' _ H'' _ rs2 ?_
      have kc := evEs_k (G := G) hk cond s2 hs'
      have elt_case : ∀ hc2, evEs G call cond s2 hs' = .ok [] hc2 ∨ evEs G call cond s2 hs' = .ok [.bl true] hc2 → (∃ x' h3, evE G call elt s2 hc2 = .ok x' h3 ∧ w = some x' ∧ h' = h3) → ∀ as2 H2, PfxA as' as2 → Kp R H'' H2 → RS R as2 s2 hc2 (setsL (wipe σ (tgSlots tg)) (tgSlots tg) xs) H2 →
          ∀ s0 H0 c0 cl0 fp0, WpE (BX X scope s0 H0 c0 cl0 fp0) pelt (setsL (wipe σ (tgSlots tg)) (tgSlots tg) xs) H2 fun y H4 => ∃ acc, H4 D = some (.lst acc) ∧ acc.length < sizeLine ∧ Pv (i + 1) (upd H4 D (.lst (acc ++ [y]))) := by
        rintro hc2 hcond ⟨x', h3, ee, rfl, rfl⟩ as2 H2 p2 k2 r2 s0 H0 c0 cl0 fp0
        refine he s0 H0 c0 cl0 fp0 as2 s2 hc2 _ H2 _ r2 ?_
        rw [ee]
        intro as3 H3 p3 k3 r3 y hy
        have hacc3 : h'[hs1.length]? = some (.lck acc) := tkv _ _ hacc rfl
        simp only at go
        split at go
        · rename_i hsz
          obtain ⟨a, u, f1, f2, ys, rfl, f4⟩ := r3.h.obj _ _ hacc3
          rw [p3 _ _ (p2 _ _ (p' _ _ aD))] at f1
          cases f1
          have hlt' : ys.length < sizeLine := by
            rw [← f4.len, sizeLine_eq]
            exact Nat.lt_of_lt_of_le (Nat.lt_of_succ_le (Nat.le_of_ble_eq_true hsz)) (Nat.le_refl _)
          refine ⟨ys, f2, hlt', as3, h'.set hs1.length (.lck (acc ++ [x'])), acc ++ [x'], p'.trans (p2.trans p3), ?_, ?_, ?_, ?_, go⟩
          · exact (((k'.trans ky).trans k2).trans k3).trans (Kp.write f2 trivial)
          · have kw : Kp R H3 (upd H3 D (.lst (ys ++ [y]))) := Kp.write f2 trivial
            exact r3.h.write hacc3 (p3 _ _ (p2 _ _ (p' _ _ aD))) f2 trivial ⟨_, rfl, RVs.mono PfxA.refl kw _ _ (f4.append (RVs.one hy))⟩
          · rw [List.getElem?_set_self (List.getElem?_eq_some_iff.mp hacc3).1]
          · intro n o en l
            have := (List.getElem?_eq_some_iff.mp en).1
            rw [List.getElem?_set_ne (by omega)]
            exact tkv n o (fz n o en l) l
        · cases go
      cases ec : evEs G call cond s2 hs' with
      | no => simp only [ec] at et; cases et
      | ex c h' => simp only [ec] at et; cases et
      | ok cs hc2 =>
      simp only [ec] at et
      intro as2 H2 p2 k2 r2
      split at et
      · rename_i heq
        cases heq
        refine .inl ⟨rfl, if_tt (elt_case hc2 (.inl ec) ?_ as2 H2 p2 k2 r2)⟩
        split at et
        · rename_i x' h3 ee
          cases et
          exact ⟨x', _, ee, rfl, rfl⟩
        · cases et
      · rename_i heq
        cases heq
        refine .inr ⟨true, rfl, if_tt (elt_case hc2 (.inr ec) ?_ as2 H2 p2 k2 r2)⟩
        split at et
        · rename_i x' h3 ee
          cases et
          exact ⟨x', _, ee, rfl, rfl⟩
        · cases et
      · rename_i heq
        cases heq
        cases et
        refine .inr ⟨false, rfl, if_ff ⟨as2, _, acc, p'.trans p2, (k'.trans ky).trans k2, r2.h, tkv _ _ hacc rfl, fz.trans tkv, go⟩⟩
      · cases et
theorem ok_lc (C : Cok X R W G call nm) (hcl : X.calm = true) (hk : ∀ f vs h, KO h (call f vs h)) {elt : E} {tg : Tg} {it : Kn.It} {cond : Es} {pelt ptg piter : Expr} {pifs : List Expr} {scope : Scope} {own : List (Str × Nat)} {pos : Pos}
    (hi : OkI X R W G call it ptg piter) (ok : BlkOk X.N X.env.scope scope own) (hown : own.map (·.2) = tgSlots tg)
    (hg : ∀ s H c cl fp, OkG (BX X scope s H c cl fp) R tg ptg) (hc : ∀ s H c cl fp, OkC (BX X scope s H c cl fp) R WF G call cond pifs) (he : ∀ s H c cl fp, OkE (BX X scope s H c cl fp) R WF G call elt pelt)
    (hs : ∀ x, foldedSetIterable piter X.env x = pure x) : OkE X R W G call (.comp elt tg it cond) (.ListComp pelt [⟨ptg, piter, pifs, 0⟩] scope pos) := fun as s hs' σ H Q r h => by
  refine WpE.un (WpE.of (pe_lc hcl C.nd (WpI.pi X ptg piter) ok (fun s0 H0 c cl fp => gB_ok) (fun s0 H0 c cl fp => tB_ok) (fun s0 H0 c cl fp => eB_ok) hs) ?_)
  exact ok_comp C hk hi ok hown hg hc he hs (pos := pos) as s hs' σ H Q r h
end
end Kn
namespace Kn
open PySem L2 KnK
/-- the end of a statement of the evaluator, as it is wished in the layer -/
def PstS (R : Rp) (W : WX) (D : Ends) (as : List Addr) (H : Hp) : OutS → Prop
  | .nx s hs => ∀ as' σ' H', PfxA as as' → Kp R H H' → RS R as' s hs σ' H' → D.nx σ' H'
  | .rt v hs => ∀ as' H' x, PfxA as as' → Kp R H H' → RH R as' hs H' → RV R as' H' v x → D.rt x H'
  | .bk s hs => ∀ as' σ' H', PfxA as as' → Kp R H H' → RS R as' s hs σ' H' → D.bk σ' H'
  | .ct s hs => ∀ as' σ' H', PfxA as as' → Kp R H H' → RS R as' s hs σ' H' → D.ct σ' H'
  | .ex c s hs => ∀ as' σ' H', PfxA as as' → Kp R H H' → RS R as' s hs σ' H' → W (.ref (R.xc c)) none σ' H'
  | .no => False
section
variable {R : Rp} {W : WX} {D : Ends} {s : St} {σ : L2.St} {as as' : List Addr} {H H' : Hp} {α : Type}
theorem PstS.from (p : PfxA as as') (q : Kp R H H') : ∀ {x : OutS}, PstS R W D as H x → PstS R W D as' H' x
  | .nx _ _, h => fun a b c d e => h a b c (p.trans d) (q.trans e)
  | .rt _ _, h => fun a b c d e => h a b c (p.trans d) (q.trans e)
  | .bk _ _, h => fun a b c d e => h a b c (p.trans d) (q.trans e)
  | .ct _ _, h => fun a b c d e => h a b c (p.trans d) (q.trans e)
  | .ex _ _ _, h => fun a b c d e => h a b c (p.trans d) (q.trans e)
  | .no, h => h
theorem PstS.bind {f : α → Hs → OutS} : ∀ {x : Out α}, PstS R W D as H (x.toS s f) → Pst R W s σ (fun a hs as' H' => PstS R W D as' H' (f a hs)) as H x
  | .ok a hs, h => fun as1 H1 p q _ => PstS.from p q h
  | .ex _ _, h => fun as1 H1 p q r => h as1 σ H1 p q r
  | .no, h => h
end
/-- where a statement stands -/
structure Sok (X : Cx) : Prop where
  po : PassesOwn (model X.prog X.w) X.A X.env X.xe
  kind : X.env.scope.kind = .function
section
variable {X : Cx} {R : Rp} {W : WX} {G : Glo} {call : CallF} {nm : Nm}
def OkS (X : Cx) (R : Rp) (W : WX) (G : Glo) (call : CallF) (st : S) (pst : Stmt) : Prop := ∀ as s hs σ H D, RS R as s hs σ H → PstS R W D as H (exS G call st s hs) → WpS X pst D σ H
def OkSs (X : Cx) (R : Rp) (W : WX) (G : Glo) (call : CallF) (st : Ss) (pst : List Stmt) : Prop := ∀ as s hs σ H D, RS R as s hs σ H → PstS R W D as H (exSs G call st s hs) → WpSs X pst D σ H
theorem oks_nil : OkSs X R W G call .nil [] := fun as s hs σ H D r h => by
  unfold exSs at h
  exact WpSs.of pss_nil (h as σ H PfxA.refl Kp.refl r)
theorem oks_cons {st : S} {rest : Ss} {pst : Stmt} {prest : List Stmt} (h1 : OkS X R W G call st pst) (h2 : OkSs X R W G call rest prest) : OkSs X R W G call (.cons st rest) (pst :: prest) := fun as s hs σ H D r h => by
  unfold exSs at h
  refine WpSs.of (pss_cons (WpS.ps X pst) (WpSs.pss X prest)) ?_
  refine h1 as s hs σ H _ r ?_
  split at h
  · rename_i s1 h1' e
    rw [e]
    intro as' σ' H' p k r'
    exact h2 as' s1 h1' σ' H' D r' (PstS.from p k h)
  · rename_i x hx
    cases e : exS G call st s hs with
    | nx s1 h1' => exact absurd e (hx s1 h1')
    | rt v h' => rw [e] at h; exact h
    | bk s1 h' => rw [e] at h; exact h
    | ct s1 h' => rw [e] at h; exact h
    | ex c s1 h' => rw [e] at h; exact h
    | no => rw [e] at h; exact h
theorem oks_ret {e : E} {pe : Expr} {pos : Pos} (he : OkE X R W G call e pe) : OkS X R W G call (.ret e) (.Return (some pe) pos) := fun as s hs σ H D r h => by
  unfold exS at h
  refine WpS.of (ps_ret (WpE.pe X pe)) ?_
  exact he as s hs σ H _ r (h.bind.imp fun v hs1 as1 H1 p1 k1 r1 h x hx => h as1 H1 x PfxA.refl Kp.refl r1.h hx)
theorem oks_retN {pos : Pos} : OkS X R W G call (.ret (.lit .non)) (.Return none pos) := fun as s hs σ H D r h => by
  unfold exS evE at h
  exact WpS.of ps_retN (h as H .non PfxA.refl Kp.refl r.h (by unfold RV; rfl))
def noComp : Expr → Bool
  | .ListComp .. => false
  | .SetComp .. => false
  | .DictComp .. => false
  | _ => true
theorem sw_plain {e : Expr} {t : Option Expr} {l : Nat} {env : Env} (h : noComp e = true) : swapsWith e t l env = pure false := by
  cases e <;> first | rfl | cases h
theorem oks_expr {e : E} {pe : Expr} {pos : Pos} (hc : noComp pe = true) (he : OkE X R W G call e pe) : OkS X R W G call (.expr e) (.Expr pe pos) := fun as s hs σ H D r h => by
  unfold exS at h
  refine WpS.of (ps_expr (WpE.pe X pe) (sw_plain hc)) ?_
  exact he as s hs σ H _ r (h.bind.imp fun v hs1 as1 H1 p1 k1 r1 h x hx => h as1 σ H1 PfxA.refl Kp.refl r1)
theorem oks_pass {pos : Pos} : OkS X R W G call .pass (.Pass pos) := fun as s hs σ H D r h => by
  unfold exS at h
  exact WpS.of ps_pass (h as σ H PfxA.refl Kp.refl r)
theorem oks_cont {pos : Pos} : OkS X R W G call .cont (.Continue pos) := fun as s hs σ H D r h => by
  unfold exS at h
  exact WpS.of ps_continue (h as σ H PfxA.refl Kp.refl r)
theorem oks_if {c : E} {a b : Ss} {pc : Expr} {pa pb : List Stmt} {pos : Pos} (hc : OkT X R W G call c pc) (ha : OkSs X R W G call a pa) (hb : OkSs X R W G call b pb) : OkS X R W G call (.ite c a b) (.If pc pa pb pos) := fun as s hs σ H D r h => by
  unfold exS at h
  refine WpS.of (ps_if (WpT.pt X pc) (WpSs.pss X pa) (WpSs.pss X pb)) ?_
  refine hc as s hs σ H _ r (h.bind.imp fun v hs1 as1 H1 p1 k1 r1 h => ?_)
  split at h
  · exact ⟨true, rfl, if_tt (ha as1 s hs1 σ H1 D r1 h)⟩
  · exact ⟨false, rfl, if_ff (hb as1 s hs1 σ H1 D r1 h)⟩
  · exact h.elim
def VarOk (X : Cx) (x : Str) : Prop := X.env.scope.names.lookup x = some .local ∨ (X.env.scope.names.lookup x = some .cell ∧ X.fn x = true)
theorem oks_set (C : Cok X R W G call nm) {i : Nat} {x : Str} {e : E} {pe : Expr} {p pos : Pos} (hN : X.N[i]? = some x) (hx : VarOk X x) (hs : swapsWith pe (some (.Name x p)) pos.line X.env = pure false) (he : OkE X R W G call e pe) :
    OkS X R W G call (.asg (.name i) e) (.Assign [.Name x p] pe pos) := fun as s hs' σ H D r h => by
  unfold exS at h
  have h1 : Loc X.env.scope x := hx.elim .inl fun z => .inr z.1
  have h2 : X.fn x = true ∨ X.env.scope.names.lookup x = some .local := hx.elim .inr fun z => .inl z.2
  refine WpS.of (ps_set C.nd hN h1 (WpE.pe X pe) hs h2) ?_
  refine he as s hs' σ H _ r (h.bind.imp fun v hs1 as1 H1 p1 k1 r1 h x hx => ?_)
  exact h as1 _ H1 PfxA.refl Kp.refl (r1.set hx i)
/-- name = [..] whose list goes right into the name -/
theorem oks_setLc (C : Cok X R W G call nm) (hcl : X.calm = true) (hk : ∀ f vs h, KO h (call f vs h)) {i : Nat} {y : Str} {py : Pos} {elt : E} {tg : Tg} {it : Kn.It} {cond : Es} {pelt ptg piter : Expr} {pifs : List Expr} {scope : Scope} {own : List (Str × Nat)} {pos spos : Pos}
    (hN : X.N[i]? = some y) (hyl : X.env.scope.names.lookup y = some .local) (hsw : swapsWith (.ListComp pelt [⟨ptg, piter, pifs, 0⟩] scope pos) (some (.Name y py)) spos.line X.env = pure true)
    (hi : OkI X R W G call it ptg piter) (ok : BlkOk X.N X.env.scope scope own) (hown : own.map (·.2) = tgSlots tg)
    (hg : ∀ s H c cl fp, OkG (BX X scope s H c cl fp) R tg ptg) (hc : ∀ s H c cl fp, OkC (BX X scope s H c cl fp) R WF G call cond pifs) (he : ∀ s H c cl fp, OkE (BX X scope s H c cl fp) R WF G call elt pelt)
    (hs : ∀ x, foldedSetIterable piter X.env x = pure x) : OkS X R W G call (.asg (.name i) (.comp elt tg it cond)) (.Assign [.Name y py] (.ListComp pelt [⟨ptg, piter, pifs, 0⟩] scope pos) spos) := fun as s hs' σ H D r h => by
  unfold exS at h
  refine WpS.un (WpS.of (ps_setLc hcl C.nd hN hyl hsw (WpI.pi X ptg piter) ok (fun s0 H0 c cl fp => gB_ok) (fun s0 H0 c cl fp => tB_ok) (fun s0 H0 c cl fp => eB_ok) hs) ?_)
  refine ok_comp C hk hi ok hown hg hc he hs (pos := pos) as s hs' σ H (fun v H3 => D.nx (σ.set i (some v)) H3) r (h.bind.imp fun v hs1 as1 H1 p1 k1 r1 h x hx => ?_)
  exact h as1 _ H1 PfxA.refl Kp.refl (r1.set hx i)
theorem oks_asgT (C : Cok X R W G call nm) {js : List Nat} {e : E} {pe ptg : Expr} {pos : Pos} (hg : OkG X R (.tup js) ptg) (hs : swapsWithSole [ptg] pe pos.line X.env = pure false) (hw : swappedStores [ptg] pe X.env = pure none) (h1 : (assignEach [ptg] X.env).map (·.2) = [assign ptg X.env])
    (he : OkE X R W G call e pe) : OkS X R W G call (.asg (.tup js) e) (.Assign [ptg] pe pos) := fun as s hs' σ H D r h => by
  unfold exS at h
  refine WpS.of (ps_asg (WpE.pe X pe) (WpG.pg X ptg) hs hw h1) ?_
  refine he as s hs' σ H _ r (h.bind.imp fun v hs1 as1 H1 p1 k1 r1 h x hx => ?_)
  unfold lvSet at h
  simp only at h
  split at h
  · rename_i vs
    split at h
    · rename_i s2 es
      refine hg as1 hs1 σ H1 (.tup vs) x _ r1.h hx rfl (sets_len es) fun xs hxs => ?_
      exact h as1 _ H1 PfxA.refl Kp.refl (RS.turn (hs' := []) (tg := .tup js) (v := .tup vs) r1 es hxs)
    · exact h.elim
  · exact h.elim
theorem oks_par (C : Cok X R W G call nm) (hcl : X.calm = true) {i j : Nat} {x y : Str} {es : Es} {a b : Expr} {px py pt pos : Pos} {kt k2 pt2} (hi : X.N[i]? = some x) (hj : X.N[j]? = some y) (hij : i ≠ j)
    (hx : X.env.scope.names.lookup x = some .local) (hy : X.env.scope.names.lookup y = some .local) (hw : swappedStores [.Tuple [.Name x px, .Name y py] kt pt] (.Tuple [a, b] k2 pt2) X.env = pure (some [x, y]))
    (he : OkEs X R W G call es [a, b]) : OkS X R W G call (.asg (.tup [i, j]) (.tup es)) (.Assign [.Tuple [.Name x px, .Name y py] kt pt] (.Tuple [a, b] k2 pt2) pos) := fun as s hs' σ H D r h => by
  unfold exS evE at h
  refine WpS.of (ps_par hcl C.nd hi hj hij hx hy (WpA.pa X _) hw) ?_
  refine he as s hs' σ H _ r (h.bind.bind.imp fun vs hs1 as1 H1 p1 k1 r1 h xs hxs => ?_)
  have hq := h as1 H1 PfxA.refl Kp.refl r1
  unfold lvSet at hq
  simp only at hq
  split at hq
  · rename_i s2 es2
    have hl := sets_len es2
    match vs, hl, hxs, es2 with
    | [v, w], _, hxs, es2 =>
      have rs := RS.turn (hs' := []) (tg := .tup [i, j]) (v := .tup [v, w]) r1 es2 hxs
      unfold RVs at hxs
      obtain ⟨x1, t, rfl, h1, hxs⟩ := hxs
      unfold RVs at hxs
      obtain ⟨x2, t, rfl, h2, hxs⟩ := hxs
      unfold RVs at hxs
      subst hxs
      exact ⟨x1, x2, rfl, (show PstS R W D as1 H1 (.nx s2 hs1) from hq) as1 _ H1 PfxA.refl Kp.refl rs⟩
  · exact hq.elim
theorem oks_par3 (C : Cok X R W G call nm) (hcl : X.calm = true) {i j l : Nat} {x y z : Str} {es : Es} {a b c : Expr} {px py pz pt pos : Pos} {kt k2 pt2} (hi : X.N[i]? = some x) (hj : X.N[j]? = some y) (hl : X.N[l]? = some z) (hij : i ≠ j) (hil : i ≠ l) (hjl : j ≠ l)
    (hx : X.env.scope.names.lookup x = some .local) (hy : X.env.scope.names.lookup y = some .local) (hz : X.env.scope.names.lookup z = some .local) (hw : swappedStores [.Tuple [.Name x px, .Name y py, .Name z pz] kt pt] (.Tuple [a, b, c] k2 pt2) X.env = pure (some [x, y, z]))
    (he : OkEs X R W G call es [a, b, c]) : OkS X R W G call (.asg (.tup [i, j, l]) (.tup es)) (.Assign [.Tuple [.Name x px, .Name y py, .Name z pz] kt pt] (.Tuple [a, b, c] k2 pt2) pos) := fun as s hs' σ H D r h => by
  unfold exS evE at h
  refine WpS.of (ps_par3 hcl C.nd hi hj hl hij hil hjl hx hy hz (WpA.pa X _) hw) ?_
  refine he as s hs' σ H _ r (h.bind.bind.imp fun vs hs1 as1 H1 p1 k1 r1 h xs hxs => ?_)
  have hq := h as1 H1 PfxA.refl Kp.refl r1
  unfold lvSet at hq
  simp only at hq
  split at hq
  · rename_i s2 es2
    have hl := sets_len es2
    match vs, hl, hxs, es2 with
    | [v, w, u], _, hxs, es2 =>
      have rs := RS.turn (hs' := []) (tg := .tup [i, j, l]) (v := .tup [v, w, u]) r1 es2 hxs
      unfold RVs at hxs
      obtain ⟨x1, t, rfl, h1, hxs⟩ := hxs
      unfold RVs at hxs
      obtain ⟨x2, t, rfl, h2, hxs⟩ := hxs
      unfold RVs at hxs
      obtain ⟨x3, t, rfl, h3, hxs⟩ := hxs
      unfold RVs at hxs
      subst hxs
      exact ⟨x1, x2, x3, rfl, (show PstS R W D as1 H1 (.nx s2 hs1) from hq) as1 _ H1 PfxA.refl Kp.refl rs⟩
  · exact hq.elim
def noSlice : Expr → Bool
  | .Slice .. => false
  | _ => true
theorem oks_sub (C : Cok X R W G call nm) {o i e : E} {po pi pe : Expr} {p pos : Pos} (hn : noSlice pi = true) (hs : swapsWithSole [.Subscript po pi p] pe pos.line X.env = pure false) (ho : OkE X R W G call o po) (hi : OkE X R W G call i pi) (he : OkE X R W G call e pe) :
    OkS X R W G call (.asg (.sub o i) e) (.Assign [.Subscript po pi p] pe pos) := fun as s hs' σ H D r h => by
  unfold exS at h
  have ha : ∀ v, assign (.Subscript po pi p) X.env v = (do
      let ov ← holding [v] (eval po X.env)
      let iv ← holding [v, ov] (eval pi X.env)
      standAt p
      holding [v, ov, iv] (setItem ov iv v)
      release [v, ov, iv] []) := by
    intro v
    cases pi <;> first | rfl | cases hn
  refine WpS.of (ps_asg (WpE.pe X pe) (pg_sub (WpE.pe X po) (WpE.pe X pi) (WSet.r X) ha) hs (by cases pe <;> rfl) rfl) ?_
  refine he as s hs' σ H _ r (h.bind.imp fun v hs1 as1 H1 p1 k1 r1 h x hx => ?_)
  refine ho as1 s hs1 σ H1 _ r1 (PstS.bind h |>.imp fun w hs2 as2 H2 p2 k2 r2 h y hy => ?_)
  refine hi as2 s hs2 σ H2 _ r2 (PstS.bind h |>.imp fun u hs3 as3 H3 p3 k3 r3 h z hz => ?_)
  unfold optS at h
  split at h
  · rename_i hs4 e4
    exact set_ok C.hK C.hw C.hu r3 (RV.mono p3 k3 _ _ hy) hz (RV.mono (p2.trans p3) (k2.trans k3) _ _ hx) e4 fun H4 k4 r4 => h as3 σ H4 PfxA.refl k4 r4
  · exact h.elim
theorem oks_fld (C : Cok X R W G call nm) {o e : E} {f : Nat} {x : Str} {po pe : Expr} {p pos : Pos} (hx : nm.fld[f]? = some x) (hs : swapsWith pe (some (.Attribute po x p)) pos.line X.env = pure false) (ho : OkE X R W G call o po) (he : OkE X R W G call e pe) :
    OkS X R W G call (.asg (.fld o f) e) (.Assign [.Attribute po x p] pe pos) := fun as s hs' σ H D r h => by
  unfold exS at h
  refine WpS.of (ps_fld (WpE.pe X po) (WpE.pe X pe) hs) ?_
  refine he as s hs' σ H _ r (h.bind.imp fun v hs1 as1 H1 p1 k1 r1 h y hy => ?_)
  refine ho as1 s hs1 σ H1 _ r1 (PstS.bind h |>.imp fun w hs2 as2 H2 p2 k2 r2 h z hz => ?_)
  unfold optS at h
  split at h
  · rename_i hs4 e4
    unfold fldSet at e4
    split at e4
    · rename_i n
      split at e4
      · rename_i c fs e1
        split at e4
        · rename_i k hk
          split at e4
          · rename_i hlt
            cases e4
            unfold RV at hz
            obtain ⟨d, ed, rfl⟩ := hz
            obtain ⟨d', dx, gs, f1, f2, f3⟩ := r2.h.inst e1
            rw [ed] at f1; cases f1
            have ck := C.clsO c k hk
            have hl : fs.length < 100 := Nat.lt_of_succ_le (Nat.le_of_ble_eq_true hlt)
            obtain ⟨k4, r4⟩ := r2.write (o' := .inst c (alistPut fs f v)) (u' := .ins (R.cl c) dx (putF x y gs)) e1 ed f2 trivial ⟨dx, _, rfl, by rw [← C.fldN f x hx]; exact RF.put (RV.mono p2 k2 _ _ hy) f3⟩
            exact ⟨d, _, dx, gs, rfl, f2, ck.1, ck.2 x (List.mem_of_getElem? hx), by rw [← f3.len]; omega, h as2 σ _ PfxA.refl k4 r4⟩
          · cases e4
        · cases e4
      · cases e4
    · cases e4
  · exact h.elim
theorem ip_addS : PIp X .Add (fun x y H Q => ∃ a b, x = .str a ∧ y = .str b ∧ a.length + b.length ≤ sizeLine ∧ Q (.str (a ++ b)) H) := by
  intro pins s σ H x y v u Q I r1 r2 h
  obtain ⟨i, j, e1, e2, hz, q⟩ := h
  subst e1; subst e2
  obtain ⟨t, rfl⟩ := r1
  obtain ⟨t', rfl⟩ := r2
  exact SB.iadd (fun t' k => ⟨.str _, H, I.tok _, ⟨_, rfl⟩, q⟩) hz
theorem PIp.or {op : Operator} {t u : TIp} (h1 : PIp X op t) (h2 : PIp X op u) : PIp X op (fun x y H Q => t x y H Q ∨ u x y H Q) := fun pins s σ H x y v u Q I r1 r2 h => h.elim (h1 pins s σ H x y v u Q I r1 r2) (h2 pins s σ H x y v u Q I r1 r2)
theorem oks_augN (C : Cok X R W G call nm) {i : Nat} {x : Str} {e : E} {pe : Expr} {p pos : Pos} (hN : X.N[i]? = some x) (hx : VarOk X x) (he : OkE X R W G call e pe) :
    OkS X R W G call (.augN i .add e) (.AugAssign (.Name x p) .Add pe pos) := fun as s hs σ H D r h => by
  unfold exS at h
  have h1 : Loc X.env.scope x := hx.elim .inl fun z => .inr z.1
  have h2 : X.fn x = true ∨ X.env.scope.names.lookup x = some .local := hx.elim .inr fun z => .inl z.2
  refine WpS.of (ps_aug C.nd hN h1 (WpE.pe X pe) (PIp.or ip_add ip_addS) h2) ?_
  split at h
  · rename_i v ev
    obtain ⟨z, e1, e2⟩ := r.val i v ev
    refine ⟨z, e1, he as s hs σ H _ r (h.bind.imp fun w hs1 as1 H1 p1 k1 r1 h y hy => ?_)⟩
    have e2 := RV.mono p1 k1 _ _ e2
    split at h
    · unfold RV at e2 hy
      subst e2 hy
      exact .inl ⟨_, _, rfl, rfl, h as1 _ H1 PfxA.refl Kp.refl (r1.set (by unfold RV; rfl) i)⟩
    · unfold RV at e2 hy
      obtain ⟨rfl, g1⟩ := e2
      obtain ⟨rfl, g2⟩ := hy
      split at h
      · rename_i hz
        have hz := small_le hz
        refine .inr ⟨_, _, rfl, rfl, by rw [toS_len, toS_len]; exact hz, h as1 _ H1 PfxA.refl Kp.refl (r1.set ?_ i)⟩
        unfold RV
        exact ⟨congrArg V.str (toS_append _ _), g1.append g2 hz⟩
      · exact h.elim
    · exact h.elim
  · exact h.elim
theorem augGet_inv (o i : Val) (h : Hs) : augGet o i h = .no ∨ ∃ n vs k c, o = .ref n ∧ i = .int k ∧ h[n]? = some (.list vs) ∧ 0 ≤ k ∧ k < 2 ^ 63 ∧ vs[k.toNat]? = some c ∧ augGet o i h = .ok c h := by
  cases o with
  | ref n =>
    cases e : h[n]? with
    | none => left; simp [augGet, e]
    | some ob =>
      cases ob with
      | list vs =>
        cases i with
        | int k =>
          cases hz : (decide (0 ≤ k) && inI k 1073741824) with
          | false => left; simp only [augGet, e, hz]; rfl
          | true =>
            cases ec : vs[k.toNat]? with
            | none => left; simp only [augGet, e, hz, ec]; rfl
            | some c =>
              right
              have hz' := hz
              rw [Bool.and_eq_true] at hz'
              have z0 := of_decide_eq_true hz'.1
              have z1 := inI_lt hz'.2
              exact ⟨n, vs, k, c, rfl, rfl, e, z0, by omega, ec, by simp only [augGet, e, hz, ec]; rfl⟩
        | _ => left; simp [augGet, e]
      | _ => left; simp [augGet, e]
  | _ => left; rfl
theorem get_lst : PGet X (fun o i H Q => ∃ a xs k x, o = .ref a ∧ i = .int k ∧ H a = some (.lst xs) ∧ 0 ≤ k ∧ k < 2 ^ 63 ∧ xs[k.toNat]? = some x ∧ Q x H) := by
  intro pins s σ H o i ov iv Q I ro ri h
  obtain ⟨a, xs, k, x, rfl, rfl, ha, h0, h1, hx, q⟩ := h
  obtain rfl : ov = .ref a := ro
  obtain ⟨t, rfl⟩ := ri
  obtain ⟨its, rv, p, hz⟩ := I.list (SqL.of ha)
  obtain ⟨u, hu, ru⟩ := rv.get hx
  exact wpAny_getItem_list p.isList h0 h1 (by simpa using hu) ⟨x, H, I, ru, q⟩
theorem oks_augS (C : Cok X R W G call nm) {o i e : E} {po pi pe : Expr} {p pos : Pos} (hn : noSlice pi = true) (ho : OkE X R W G call o po) (hi : OkE X R W G call i pi) (he : OkE X R W G call e pe) :
    OkS X R W G call (.augS o i .add e) (.AugAssign (.Subscript po pi p) .Add pe pos) := fun as s hs σ H D r h => by
  unfold exS at h
  refine WpS.of (ps_augS (WpE.pe X po) (WpE.pe X pi) get_lst (WpE.pe X pe) ip_add (WSet.r X) (by intro ov iv new; cases pi <;> first | rfl | cases hn)) ?_
  refine ho as s hs σ H _ r (PstS.bind h |>.imp fun a hs1 as1 H1 p1 k1 r1 h x hx => ?_)
  refine hi as1 s hs1 σ H1 _ r1 (PstS.bind h |>.imp fun b hs2 as2 H2 p2 k2 r2 h y hy => ?_)
  rcases augGet_inv a b hs2 with e0 | ⟨n, vs, k, c, rfl, rfl, e1, h0, hlt, ec, e0⟩
  · rw [e0] at h; exact h.elim
  rw [e0] at h
  change PstS R W D as2 H2 (Out.toS (evE G call e s hs2) s _) at h
  have hx2 := RV.mono p2 k2 _ _ hx
  have hx3 := hx2
  have hy3 := hy
  unfold RV at hx2 hy
  subst hy
  obtain ⟨d, ed, rfl⟩ := hx2
  obtain ⟨d', xs, f1, f2, f3⟩ := r2.h.list e1
  rw [ed] at f1; cases f1
  obtain ⟨z, ez, hz⟩ := f3.get ec
  refine ⟨d, xs, k, z, rfl, rfl, f2, h0, hlt, ez, ?_⟩
  refine he as2 s hs2 σ H2 _ r2 (PstS.bind h |>.imp fun v hs4 as4 H4 p4 k4 r4 h w hw => ?_)
  have hz := RV.mono p4 k4 _ _ hz
  split at h
  · unfold RV at hz hw
    subst hz hw
    refine ⟨_, _, rfl, rfl, ?_⟩
    unfold optS at h
    split at h
    · rename_i hs5 e5
      exact set_ok C.hK C.hw C.hu r4 (RV.mono p4 k4 _ _ hx3) (RV.mono p4 k4 _ _ hy3) (by unfold RV; rfl) e5 fun H5 k5 r5 => h as4 σ H5 PfxA.refl k5 r5
    · exact h.elim
  · exact h.elim
end
end Kn
namespace Kn
open PySem L2 KnK
section
variable {X : Cx} {R : Rp} {W : WX} {G : Glo} {call : CallF} {nm : Nm}
/-- a loop's end, unlocked -/
def ulk (src : Src) (h1 : Hs) : OutS → OutS
  | .nx s h2 => .nx s (unlkd src h1 h2)
  | .rt v h2 => .rt v (unlkd src h1 h2)
  | .ex c s h2 => if src.dk then .no else .ex c s (unlkd src h1 h2)
  | _ => .no
theorem oks_for (C : Cok X R W G call nm) (S : Sok X) (hcl : X.calm = true) (hk : ∀ f vs h, KO h (call f vs h)) {tg : Tg} {it : Kn.It} {b : Ss} {ptg piter : Expr} {pb : List Stmt} {pos : Pos}
    (hi : OkI X R W G call it ptg piter) (hg : OkG X R tg ptg) (hb : OkSs X R W G call b pb) (hs : ∀ x, foldedSetIterable piter X.env x = pure x) : OkS X R W G call (.forr tg it b) (.For ptg piter pb [] pos) := fun as s hs' σ H D r h => by
  unfold exS at h
  refine WpS.un (WpS.of (ps_for S.po hcl (WpI.pi X ptg piter) (WpG.pg X ptg) (WpSs.pss X pb) hs) ?_)
  refine hi as s hs' σ H _ r (h.bind.imp fun src hs1 as1 H1 p1 k1 r1 h J Hl lk sw => ?_)
  have tk := forTurn_k (eb := fun s h => exSs G call b s h) (fun s h => exSs_k (G := G) hk b s h) tg
  generalize hf : forTurn (fun s h => exSs G call b s h) tg = f at h tk
  have h : PstS R W D as1 H1 (ulk src hs1 (forGo f src.items s (lkd src hs1))) := by
    cases e : forGo f src.items s (lkd src hs1) <;> rw [e] at h <;> exact h
  generalize ho : forGo f src.items s (lkd src hs1) = out at h
  refine ⟨fun i m σ H => m = src.items.length - i ∧ i ≤ src.items.length ∧ ∃ as' s' hs', PfxA as1 as' ∧ Kp R Hl H ∧ RS R as' s' hs' σ H ∧ Fz (lkd src hs1) hs' ∧ forGo f (src.items.drop i) s' hs' = out,
    ⟨src.items.length, by simp, Nat.zero_le _, as1, s, lkd src hs1, PfxA.refl, Kp.refl, r1.to PfxA.refl lk.kp lk.rh, Fz.refl, by simpa using ho⟩, ?_⟩
  rintro i m σ1 H' ⟨rfl, hil, as', s', hs', p', k', r', fz, go⟩
  have kps := Kps.of lk.ok fz
  have un : ∀ {as3 : List Addr} {s3 : St} {h3 : Hs} {σ3 : L2.St} {H3 : Hp}, PfxA as1 as3 → Kp R Hl H3 → RS R as3 s3 h3 σ3 H3 → Fz (lkd src hs1) h3 → ∃ H4, UnH X H3 H4 ∧ Kp R H1 H4 ∧ RS R as3 s3 (unlkd src hs1 h3) σ3 H4 ∧ (src.dk = false → H4 = H3) := fun p k r f => by
    obtain ⟨H4, u, kt, kp, rh, e⟩ := lk.un _ _ _ p k r.h f
    exact ⟨H4, u, kp, ⟨rh, r.len, fun i v e => let ⟨x, e1, e2⟩ := r.val i v e; ⟨x, e1, RV.monoT PfxA.refl kt _ _ e2⟩⟩, e⟩
  by_cases hlt : i < src.items.length
  rotate_left
  · have ei : i = src.items.length := by omega
    subst ei
    rw [List.drop_length] at go
    unfold forGo at go
    subst go
    obtain ⟨H4, u, kp, r4, _⟩ := un p' k' r' fz
    exact .inl ⟨sw.stops as' hs' H' p' k' r'.h kps, H4, u, h as' σ1 H4 p' kp r4⟩
  · refine .inr ⟨sw.goes as' hs' H' i p' k' r'.h kps hlt, fun σ H => ∃ as' s' hs', PfxA as1 as' ∧ Kp R Hl H ∧ RS R as' s' hs' σ H ∧ Fz (lkd src hs1) hs' ∧ forGo f (src.items.drop (i + 1)) s' hs' = out, fun σ'' H'' q => ⟨_, by omega, rfl, by omega, q⟩, fun x H'' y => ?_⟩
    have ev : src.items[i]? = some src.items[i] := by simp [hlt]
    obtain ⟨ky, ry, vy⟩ := sw.ylds as' hs' H' i _ x H'' p' k' r'.h kps ev y
    rw [List.drop_eq_getElem_cons hlt] at go
    unfold forGo at go
    generalize hv : src.items[i] = v at go ev vy
    have tkv := tk v s' hs'
    subst hf
    have ry' : RS R as' s' hs' σ1 H'' := r'.to PfxA.refl ky ry
    have kk : Kp R Hl H'' := k'.trans ky
    cases es2 : tgSet tg v s' hs' with
    | none =>
      have : forTurn (fun s h => exSs G call b s h) tg v s' hs' = .no := by unfold forTurn; rw [es2]
      rw [this] at go
      simp only at go
      subst go
      exact h.elim
    | some s2 =>
      have et : forTurn (fun s h => exSs G call b s h) tg v s' hs' = exSs G call b s2 hs' := by unfold forTurn; rw [es2]
      rw [et] at go tkv
      obtain ⟨to, tl⟩ := tgSet_eq es2
      refine hg as' hs' σ1 H'' v x _ ry vy to (sets_len tl) fun xs hxs => ?_
      have rs2 : RS R as' s2 hs' (setsL σ1 (tgSlots tg) xs) H'' := RS.turn ry' es2 hxs
      refine hb as' s2 hs' _ H'' _ rs2 ?_
      cases eb : exSs G call b s2 hs' with
      | nx s3 h3 =>
        rw [eb] at go tkv
        exact fun as3 σ3 H3 p3 k3 r3 => ⟨as3, s3, h3, p'.trans p3, kk.trans k3, r3, fz.trans tkv, go⟩
      | ct s3 h3 =>
        rw [eb] at go tkv
        exact fun as3 σ3 H3 p3 k3 r3 => ⟨as3, s3, h3, p'.trans p3, kk.trans k3, r3, fz.trans tkv, go⟩
      | bk s3 h3 =>
        rw [eb] at go tkv
        subst go
        exact fun as3 σ3 H3 p3 k3 r3 => by
          obtain ⟨H4, u, kp, r4, _⟩ := un (p'.trans p3) (kk.trans k3) r3 (fz.trans tkv)
          exact ⟨H4, u, h as3 σ3 H4 (p'.trans p3) kp r4⟩
      | rt w h3 =>
        rw [eb] at go tkv
        subst go
        exact fun as3 H3 z p3 k3 r3 hz => by
          obtain ⟨H4, u, kt, kp, r4, _⟩ := lk.un as3 h3 H3 (p'.trans p3) (kk.trans k3) r3 (fz.trans tkv)
          exact ⟨H4, u, h as3 H4 z (p'.trans p3) kp r4 (RV.monoT PfxA.refl kt _ _ hz)⟩
      | ex c s3 h3 =>
        rw [eb] at go tkv
        subst go
        exact fun as3 σ3 H3 p3 k3 r3 => by
          obtain ⟨H4, u, kp, r4, e4⟩ := un (p'.trans p3) (kk.trans k3) r3 (fz.trans tkv)
          unfold ulk at h
          simp only at h
          split at h
          · exact h.elim
          · rename_i hdk
            have := e4 (by simpa using hdk)
            subst this
            exact h as3 σ3 H4 (p'.trans p3) kp r4
      | no =>
        rw [eb] at go
        subst go
        exact h.elim
theorem oks_while (S : Sok X) {c : E} {b : Ss} {pc : Expr} {pb : List Stmt} {pos : Pos} (hc : OkT X R W G call c pc) (hb : OkSs X R W G call b pb) : OkS X R W G call (.whil c b) (.While pc pb [] pos) := fun as s hs σ H D r h => by
  unfold exS at h
  refine WpS.of (ps_while S.po (WpT.pt X pc) (WpSs.pss X pb)) ?_
  generalize ho : whileGo (fun s h => evE G call c s h) (fun s h => exSs G call b s h) G.fuel s hs = out at h
  refine ⟨fun m σ' H' => ∃ as' s' hs', PfxA as as' ∧ Kp R H H' ∧ RS R as' s' hs' σ' H' ∧ whileGo (fun s h => evE G call c s h) (fun s h => exSs G call b s h) m s' hs' = out, ⟨G.fuel, as, s, hs, PfxA.refl, Kp.refl, r, ho⟩, ?_⟩
  rintro m σ' H' ⟨as', s', hs', p', k', r', go⟩
  cases m with
  | zero => unfold whileGo at go; subst go; exact h.elim
  | succ m =>
    unfold whileGo at go
    refine hc as' s' hs' σ' H' _ r' ?_
    cases ec : evE G call c s' hs' with
    | no => rw [ec] at go; subst go; exact h.elim
    | ex k h' =>
      rw [ec] at go
      subst go
      exact fun as1 H1 p1 k1 r1 => h as1 σ' H1 (p'.trans p1) (k'.trans k1) r1
    | ok v h1 =>
      rw [ec] at go
      intro as1 H1 p1 k1 r1
      have hv : v = .bl true ∨ v = .bl false := by
        cases v with
        | bl t => cases t <;> simp
        | _ => subst go; exact h.elim
      rcases hv with rfl | rfl
      · refine ⟨true, rfl, if_tt ⟨fun σ3 H3 => ∃ as3 s3 hs3, PfxA as as3 ∧ Kp R H H3 ∧ RS R as3 s3 hs3 σ3 H3 ∧ whileGo (fun s h => evE G call c s h) (fun s h => exSs G call b s h) m s3 hs3 = out, fun σ3 H3 q => ⟨m, Nat.lt_succ_self _, q⟩, ?_⟩⟩
        refine hb as1 s' h1 σ' H1 _ r1 ?_
        have pp := p'.trans p1
        have kk := k'.trans k1
        simp only at go
        cases eb : exSs G call b s' h1 with
        | nx s3 h3 => rw [eb] at go; exact fun as3 σ3 H3 p3 k3 r3 => ⟨as3, s3, h3, pp.trans p3, kk.trans k3, r3, go⟩
        | ct s3 h3 => rw [eb] at go; exact fun as3 σ3 H3 p3 k3 r3 => ⟨as3, s3, h3, pp.trans p3, kk.trans k3, r3, go⟩
        | bk s3 h3 => rw [eb] at go; subst go; exact fun as3 σ3 H3 p3 k3 r3 => h as3 σ3 H3 (pp.trans p3) (kk.trans k3) r3
        | rt w h3 => rw [eb] at go; subst go; exact fun as3 H3 z p3 k3 r3 hz => h as3 H3 z (pp.trans p3) (kk.trans k3) r3 hz
        | ex c s3 h3 => rw [eb] at go; subst go; exact fun as3 σ3 H3 p3 k3 r3 => h as3 σ3 H3 (pp.trans p3) (kk.trans k3) r3
        | no => rw [eb] at go; subst go; exact h.elim
      · simp only at go
        subst go
        exact ⟨false, rfl, if_ff (h as1 σ' H1 (p'.trans p1) (k'.trans k1) r1)⟩
theorem pmk_own0 {C : Addr} {bmB : List Value} {B newId initId : String} {x : Str} {p pos : Pos} (F : ExcBaseFacts B newId initId bmB) (q : PySem.W.excIn X.K C bmB newId = true) (gC : X.mg x = some (.ref C)) (kC : PySem.W.keepIn X.K (.ref C) = true) (r : Raises X (.ref C)) (hg : Gl X x)
    (hdb : (x == ("__debug__" : Str)) = false) : L2N.PMk X (.Call (.Name x p) [] [] pos) (fun _ H Q => Q (.ref C) none H) := by
  intro pins s σ H Q I h
  refine wpAny_Call_Name_kw (ld_glob I hg gC ?_ hdb)
  refine PySem.W.callWith_K0 I.kIn kC ?_
  obtain ⟨bm, N, nm, qn, bs, hdct, sn, sub, ab, col, dd, k0, k1, k2, k3, k5, mN, hC, hN, hni, T⟩ := exc_obj I.kIn q
  refine wpAny_call_exc_subT F T hC hN hni (fun h' e hm => ?_) (by show 0 ≤ sizeLine; omega)
  exact L2N.mk_of I hm r h (I.hok.gone hm.new)
end
end Kn
namespace Kn
open PySem L2 KnK
section
variable {X : Cx} {R : Rp} {W : WX} {G : Glo} {call : CallF} {nm : Nm}
theorem oks_raise (C : Cok X R W G call nm) (hcl : X.calm = true) {c : Nat} {x : Str} {p pos rpos : Pos} (hx : nm.exc[c]? = some x) (hc : (G.exc[c]?).isSome = true) (hg : Gl X x) : OkS X R W G call (.raise c) (.Raise (some (.Call (.Name x p) [] [] pos)) none rpos) := fun as s hs σ H D r h => by
  unfold exS at h
  obtain ⟨h1, h2, h3⟩ := C.rais c hc
  refine WpS.of (L2N.ps_raise hcl C.tk (pmk_own0 PySem.F.excBase_ValueError h3 (C.exm c x hx hc).1 h1 h2 hg (C.exN c x hx).1)) ?_
  exact h as σ H PfxA.refl Kp.refl r
theorem RV.pure_flat {v : Val} (h : plainV v = true) {as as' : List Addr} {H : Hp} {x : V} (r : RV R as H v x) : RV R as' H v x := by
  cases v <;> first | (unfold RV at r ⊢; exact r) | simp [plainV] at h
theorem RVs.pure {as as' : List Addr} {H : Hp} : ∀ {vs : List Val} {xs : List V}, vs.all plainV = true → RVs R as H vs xs → RVs R as' H vs xs
  | [], _, _, h => h
  | v :: r, _, h, q => by
    unfold RVs at q
    obtain ⟨x, t, rfl, h1, h2⟩ := q
    simp only [List.all_cons, Bool.and_eq_true] at h
    exact RVs.cons (RV.pure_flat h.1 h1) (RVs.pure h.2 h2)
theorem RV.pureV {v : Val} (h : Kn.pureV v = true) {as as' : List Addr} {H : Hp} {x : V} (r : RV R as H v x) : RV R as' H v x := by
  cases v with
  | tup vs =>
    unfold RV at r ⊢
    obtain ⟨a, xs, e, h1, h2⟩ := r
    exact ⟨a, xs, e, h1, RVs.pure h h2⟩
  | _ => exact RV.pure_flat (by simpa [Kn.pureV] using h) r
/-- which(e) within the suite -/
theorem which_ok (C : Cok X R W G call nm) (hcl : X.calm = true) {i k : Nat} {l : List Nat} {n x : Str} {v : Val} {h' : Hs} {q p pos : Pos} {a : Addr} {oe : PySem.Obj} {pn : List (Addr × PySem.Obj)} (hx : nm.fn[nm.wh]? = some x) (hg : Gl X x) (hN : X.N[i]? = some n) (hv : Vis X.env.scope n)
    (hd : (n == ("__debug__" : Str)) = false) (hcd : (n == ("__classdict__" : Str)) = false) (hl : G.exc[k]? = some l) (hc : call nm.wh [.exc k] [] = .ok v h') (hp : Kn.pureV v = true) (hz : L2N.Zn (.ref (R.xc k)) none oe) (hf : ∃ vs, oe.data = .fields vs) {σ0 : L2.St} {H : Hp} {Q : VK}
    (hQ : ∀ H' y, (∀ b u, H b = some u → H' b = some u) → Kp R H H' → RV R [] H' v y → Q y H') : WpE (X.suite a ((a, oe) :: pn)) (.Call (.Name x q) [.Name n p] [] pos) (σ0.set i (some (.ref a))) H Q := by
  obtain ⟨hdx, fa, fd, ps, j, hm, hkp, hb, hps, hr, F⟩ := C.whO hcl x hx
  intro pins sh I
  let Y := X.suite a ((a, oe) :: pn)
  generalize hσ : σ0.set i (some (V.ref a)) = σ at I ⊢
  have I : Inv Y pins σ H sh := I
  have hs : σ[i]? = some (some (.ref a)) := by
    have h1 := I.len
    have h2 : i < X.N.length := (List.getElem?_eq_some_iff.mp hN).1
    subst hσ
    rw [List.getElem?_set_self (by simp only [List.length_set] at h1; rw [h1]; exact h2)]
  refine wpAny_Call_Name_kw (ld_glob (X := Y) I hg hm ?_ hdx)
  have ha : PA Y [.Name n p] (tCons (tVar i) tNil) := pa_cons (pe_var (X := Y) hN hv hd hcd) pa_nil
  refine PySem.W.callWith_K (h₀ := Y.base) I.ok.mod.kin hkp (thn (ha.run pos pins sh σ H (fun vs H1 => vs = [V.ref a] ∧ H = H1) I ⟨_, hs, rfl, rfl⟩) fun us s1 hh => ?_)
  obtain ⟨vs, H1, I1, r1, ev, eH⟩ := hh
  subst ev
  rw [← eH] at I1
  refine ⟨I1.kIn, ?_⟩
  cases r1 with
  | cons ru rn =>
    rename_i u us'
    cases rn
    obtain rfl : u = .ref a := ru
    obtain ⟨fv, hfv⟩ := hf
    have hot : L2H.Hot1 Y.A (a, oe) := ⟨rfl, fv, hfv, hz.2.2 fv hfv⟩
    have P1 := I1.pin (a, oe) (List.mem_append_left _ List.mem_cons_self)
    have hpin : L2H.PinOk Y.stack H s1 (a, oe) := ⟨P1.1, P1.2.1, fun hm => (List.mem_cons.mp (I1.stkSub a hm)).elim P1.2.2.1 P1.2.2.2.1, P1.2.2.2.2⟩
    have b := hb s1 [.ref a] I1.kIn (by rw [List.append_nil, hps]; rfl)
    rw [List.append_nil] at b
    have hr' : L2H.RoomH j Y.A := ⟨hr.dp, hr.un⟩
    refine wpAny_call (codeAny_mono (F k l v h' hl hc hp Y.A Y.stack s1 H ⟨[.ref a], []⟩ a oe Q (fun _ _ _ => False) hr' hot hpin I1.env0 b hz hQ) fun r s' hq => ?_)
    cases r with
    | error e =>
      obtain ⟨_, _, _, _, _, _, _, _, _, _, _, _, f⟩ := hq
      exact f.elim
    | ok fl =>
      cases fl with
      | ret u => exact I1.after hq
      | next => exact False.elim hq
      | brk => exact False.elim hq
      | cont => exact False.elim hq
/-- the heap keeps what it had -/
theorem RH.stay {as : List Addr} {hs : Hs} {H H' : Hp} (r : RH R as hs H) (h : ∀ b u, H b = some u → H' b = some u) (k : Kp R H H') : RH R as hs H' :=
  ⟨r.len, r.nd, fun a u e => h a u (r.fz a u e), r.nf, fun n o e => let ⟨a, u, e1, e2, e3⟩ := r.obj n o e; ⟨a, u, e1, h a u e2, RO.mono PfxA.refl k _ _ e3⟩⟩
structure Tok (X : Cx) : Prop where
  stk : X.stack = X.env :: X.outer
  frm : X.env.frame = some X.env.locals
theorem oks_tryW (C : Cok X R W G call nm) (hcl : X.calm = true) (T : Tok X) {b : Ss} {c i : Nat} {pb : List Stmt} {x n y : Str} {np q p cp rp pos' pos : Pos} (hx : nm.exc[c]? = some x) (hce : (G.exc[c]?).isSome = true) (hgx : Gl X x) (hN : X.N[i]? = some n) (hln : X.env.scope.names.lookup n = some .local)
    (hd : (n == ("__debug__" : Str)) = false) (hcd : (n == ("__classdict__" : Str)) = false) (hy : nm.fn[nm.wh]? = some y) (hgy : Gl X y)
    (hb : ∀ (W : WX) (pn : List (Addr × PySem.Obj)) (xe : Value → Shared → Prop), L2N.Takes (X.tr pn xe) W → PassesOwn (model X.prog X.w) X.A X.env xe → OkSs (X.tr pn xe) R W G call b pb) :
    OkS X R W G call (.tryW b c i nm.wh) (.Try pb [.ExceptHandler (some (.Name x np)) (some n) [.Return (some (.Call (.Name y q) [.Name n p] [] cp)) rp] pos'] [] [] pos) := fun as s hs σ H D r h => by
  unfold exS at h
  have hc : Names X x (.ref (R.xc c)) := ⟨hgx, (C.exN c x hx).1, .inl (C.exm c x hx hce).1⟩
  refine WpS.of (L2N.ps_try_as (tb := fun W D σ H => ∀ (pn : List (Addr × PySem.Obj)) (xe : Value → Shared → Prop), L2N.Takes (X.tr pn xe) W → PassesOwn (model X.prog X.w) X.A X.env xe → WpSs (X.tr pn xe) pb D σ H)
    (ts := fun a cls d D σ H => ∀ (oe : PySem.Obj) (pn : List (Addr × PySem.Obj)), L2N.Zn cls d oe → (∃ vs, oe.data = .fields vs) → WpSs (X.suite a ((a, oe) :: pn)) [.Return (some (.Call (.Name y q) [.Name n p] [] cp)) rp] D σ H)
    T.stk T.frm C.nd hN hln hc C.tk (fun W pn xe t po => ⟨fun pins s σ H D I h => h pn xe t po pins s I⟩) (fun a oe cls d pn hz hf => ⟨fun pins s σ H D I h => h oe pn hz hf pins s I⟩)) ?_
  intro pn xe tk po
  refine hb _ pn xe tk po as s hs σ H D r ?_
  cases e : exSs G call b s hs with
  | nx s2 h2 => rw [e] at h; exact h
  | rt v h2 => rw [e] at h; exact h
  | bk s2 h2 => rw [e] at h; exact h
  | ct s2 h2 => rw [e] at h; exact h
  | no => rw [e] at h; exact h
  | ex k s2 h2 =>
    rw [e] at h
    intro as1 σ1 H1 p1 k1 r1
    simp only at h
    split at h
    rotate_left
    · exact h.elim
    rename_i l hl
    refine ⟨l.contains c, by rw [C.hK]; have := (C.exm c x hx hce).2 k l hl; rw [C.hK] at this; exact this, fun hct a na => ?_, fun hcf => ?_⟩
    · rw [if_pos hct] at h
      split at h
      · rename_i v h3 ec
        split at h
        · rename_i hp
          intro oe pn hz hf
          refine WpSs.of (pss_one (ps_ret (WpE.pe _ _))) ?_
          refine which_ok C hcl hy hgy hN (.inl hln) hd hcd hl ec hp hz hf fun H2 z h2 k2 rz => ?_
          exact h as1 H2 z p1 (k1.trans k2) (r1.h.stay h2 k2) (RV.pureV hp rz)
        · exact h.elim
      · exact h.elim
    · rw [hcf] at h
      exact h as1 σ1 H1 p1 k1 r1
end
end Kn
namespace Kn
open PySem L2 KnK
section
variable {X : Cx} {R : Rp} {W : WX} {G : Glo} {call : CallF} {nm : Nm}
/-- the names of defs, n parameters each -/
def FnNs (X : Cx) (G : Glo) (nm : Nm) (n : Nat) : List Nat → List Expr → Prop
  | [], es => es = []
  | f :: r, es => ∃ x p t F, es = .Name x p :: t ∧ nm.fn[f]? = some x ∧ Gl X x ∧ G.fns[f]? = some F ∧ n = F.pars ∧ FnNs X G nm n r t
def AdOk (X : Cx) (R : Rp) (G : Glo) (call : CallF) (n f : Nat) (fa : Addr) : Prop := ∃ fd ps j, PySem.W.keepIn X.K (.ref fa) = true ∧ Binds X.K fd ps [] ∧ Room j X.A ∧ FnOk X.prog X.w X.K X.mg X.base (L2N.CX X.prog X.w) j fa fd ps (spOf R call n f)
theorem fnNs_ok (C : Cok X R W G call nm) (hc : X.calm = true) {n : Nat} : ∀ {fs : List Nat} {es : List Expr}, FnNs X G nm n fs es → ∃ fas : List Addr, fas.length = fs.length ∧ es.length = fs.length ∧ (∀ (k f : Nat), fs[k]? = some f → ∃ fa, fas[k]? = some fa ∧ AdOk X R G call n f fa) ∧
    PA X es (fun σ H Q => Q (fas.map V.ref) H)
  | [], _, h => by
    unfold FnNs at h
    subst h
    exact ⟨[], rfl, rfl, fun k f e => by simp at e, pa_nil⟩
  | f :: r, _, h => by
    obtain ⟨x, p, t, F, rfl, hx, hg, hF, hn, h⟩ := h
    obtain ⟨fas, l1, l2, h2, h3⟩ := fnNs_ok C hc h
    obtain ⟨hd, fa, fd, ps, j, hm, hk, hb, hps, hr, ok⟩ := C.fns hc f F x hF hx
    refine ⟨fa :: fas, by simp [l1], by simp [l2], fun k g e => ?_, ?_⟩
    · cases k with
      | zero =>
        simp at e
        subst e
        exact ⟨fa, rfl, fd, ps, j, hk, hb, hr, by rw [hn]; exact ok⟩
      | succ k =>
        obtain ⟨fa', e1, e2⟩ := h2 k g (by simpa using e)
        exact ⟨fa', by simpa using e1, e2⟩
    · have := pa_cons (pe_glob (v := .ref fa) (pos := p) hg hm rfl hd) h3 (star_one rfl)
      exact ⟨fun pos pins s σ H Q I q => this.run pos pins s σ H Q I q⟩
/-- an index that is reckoned without the heap -/
def OkJ (X : Cx) (R : Rp) (G : Glo) (call : CallF) (ie : E) (pie : Expr) : Prop := PlainIx pie ∧ ∃ t, PE X pie t ∧ ∀ as s hs σ H, RS R as s hs σ H → evE G call ie s hs = .no ∨ ∃ v z, evE G call ie s hs = .ok v hs ∧ RV R as H v z ∧ ∀ H' Q, Q z H' → t σ H' Q
theorem okJ_var {i : Nat} {n : Str} {p : Pos} (hN : X.N[i]? = some n) (hv : Vis X.env.scope n) (hd : (n == ("__debug__" : Str)) = false) (hcd : (n == ("__classdict__" : Str)) = false) : OkJ X R G call (.var i) (.Name n p) := ⟨fun _ _ => rfl, _, pe_var hN hv hd hcd, fun as s hs σ H r => by
  unfold evE
  split
  · rename_i v e
    obtain ⟨z, e1, e2⟩ := r.val i v e
    exact .inr ⟨v, z, rfl, e2, fun H' Q q => ⟨z, e1, q⟩⟩
  · exact .inl rfl⟩
theorem okJ_sub {i k : Nat} {c : Int} {n : Str} {p p2 p3 : Pos} (hN : X.N[i]? = some n) (hv : Vis X.env.scope n) (hd : (n == ("__debug__" : Str)) = false) (hcd : (n == ("__classdict__" : Str)) = false) : OkJ X R G call (.bin .sub (.var i) (.lit (.int c))) (.BinOp (.Name n p) .Sub (.Constant (.int c) k p2) p3) := ⟨fun _ _ => rfl, _, pe_op op_sub (pe_var hN hv hd hcd) pe_int, fun as s hs σ H r => by
  rw [evE.eq_7, evE.eq_1]
  cases e : s[i]? with
  | none => exact .inl rfl
  | some o =>
    cases o with
    | none => exact .inl rfl
    | some v =>
      obtain ⟨z, e1, e2⟩ := r.val i v e
      cases v with
      | int a =>
        unfold RV at e2
        subst e2
        refine .inr ⟨.int (a - c), .int (a - c), by simp [Out.bind, evE.eq_2, binV], by unfold RV; rfl, fun H' Q q => ⟨.int a, e1, ?_⟩⟩
        exact ⟨_, _, rfl, rfl, q⟩
      | _ => exact .inl (by simp [Out.bind, evE.eq_2, binV])⟩
theorem ok_callOf (C : Cok X R W G call nm) (hc : X.calm = true) {fs : List Nat} {ie : E} {es : Es} {pns : List Expr} {pie : Expr} {lp sp pos : Pos} {pe : Expr} {pes : List Expr} (hf : FnNs X G nm es.len fs pns) (hz : pns.length ≤ sizeLine) (hj : OkJ X R G call ie pie)
    (hn : (pe :: pes).all noStar = true) (he : OkEs X R W G call es (pe :: pes)) : OkE X R W G call (.callOf fs ie es) (.Call (.Subscript (.List pns lp) pie sp) (pe :: pes) [] pos) := fun as s hs σ H Q r h => by
  obtain ⟨fas, l1, l2, h2, h3⟩ := fnNs_ok C hc hf
  obtain ⟨hpl, tj, hpj, hj⟩ := hj
  simp only [List.all_cons, Bool.and_eq_true] at hn
  rw [evE.eq_22] at h
  have rd : WpE X (.Subscript (.List pns lp) pie sp) σ H (fun fv H1 => ∃ f fa, fv = .ref fa ∧ AdOk X R G call es.len f fa ∧ WpA X (pe :: pes) σ H1 fun xs H2 => spOf R call es.len f xs H2 Q (L2.WE W σ)) := by
    refine WpE.of (pe_ix (WIx.r X) (pe_lst h3) hpj hpl) ?_
    refine ⟨by simp [l1, ← l2]; exact hz, fun q nq => ?_⟩
    obtain ⟨k1, r1⟩ := r.free (u := .lst (fas.map V.ref)) nq
    rcases hj as s hs σ H r with ev | ⟨v, z, ev, e2, ht⟩
    · rw [ev] at h; exact h.elim
    · rw [ev] at h
      refine ht _ _ ?_
      simp only [Out.bind] at h
      split at h
      · rename_i k
        split at h
        · rename_i hk
          have hk := of_decide_eq_true hk
          split at h
          · rename_i f hfk
            unfold RV at e2
            subst e2
            obtain ⟨fa, e3, ad⟩ := h2 _ f hfk
            have hlt : k.toNat < (fas.map V.ref).length := by rw [List.length_map, l1]; exact (List.getElem?_eq_some_iff.mp hfk).1
            refine WIx.of ix_list ⟨q, fas.map V.ref, k, .ref fa, rfl, rfl, .inl (.inl upd_same), ?_, f, fa, rfl, ad, ?_⟩
            · have : L2.atI (fas.map V.ref) (k.toNat : Int) = some (.ref fa) := L2.atI_nat (by rw [List.getElem?_map, e3]; rfl)
              rw [Int.toNat_of_nonneg hk] at this
              exact this
            · have h := Pst.from PfxA.refl k1 h
              cases e : evEs G call es s hs with
              | no => rw [e] at h; exact h.elim
              | ex c h' => exact he as s hs σ _ _ r1 (by rw [e] at h ⊢; exact h)
              | ok vs h' =>
                have hvl := evEs_len e
                refine he as s hs σ _ _ r1 ?_
                rw [e] at h ⊢
                intro as1 H1 p1 k1 r1 xs hxs
                exact sp_of r1 hxs hvl (Pst.from p1 k1 h)
          · exact h.elim
        · exact h.elim
      · exact h.elim
  intro pins sh I
  show wpAny _ _ (do let fv ← eval (.Subscript (.List pns lp) pie sp) X.env; callWith pos fv [] (backTo pos (starEach (pe :: pes) X.env)) (backToKw pos (keywordEach [] X.env))) _ _ _
  refine wpAny_bind (thn (rd pins sh I) fun v s1 ⟨z, H1, I1, rz, f, fa, ez, ⟨fd, ps, j, hkp, hb, hr, ok⟩, q⟩ => ?_)
  subst ez
  obtain rfl : v = .ref fa := rz
  refine PySem.W.callWith_K (h₀ := X.base) I.ok.mod.kin hkp (thn (q pos pins s1 I1) fun us s2 ⟨vs, H2, I2, r, q2⟩ => ⟨I2.kIn, ?_⟩) (star_one hn.1) (star_any hn.2)
  exact run_fnS (E := L2.WE W) ok hr hb (L2N.passAt C.tk σ) I2 r q2
def FdNs (X : Cx) (nm : Nm) (n : Str) : List Nat → List Expr → Prop
  | [], es => es = []
  | f :: r, es => ∃ x p p2 t, es = .Attribute (.Name n p) x p2 :: t ∧ nm.fld[f]? = some x ∧ FdNs X nm n r t
def gFds (R : Rp) (G : Glo) (o : Nat) (fs : List Nat) : TGs := fun xs σ H Q => ∃ as s hs vs x, RS R as s hs σ H ∧ s[o]? = some (some x) ∧ RVs R as H vs xs ∧ ∃ hs', fldsSet G x fs vs hs = some hs' ∧ ∀ H', Kp R H H' → RS R as s hs' σ H' → Q σ H'
theorem pgs_flds (C : Cok X R W G call nm) {o : Nat} {n : Str} (hN : X.N[o]? = some n) (hv : Vis X.env.scope n) (hd : (n == ("__debug__" : Str)) = false) (hcd : (n == ("__classdict__" : Str)) = false) : ∀ {fs : List Nat} {es : List Expr}, FdNs X nm n fs es → PGs X es (gFds R G o fs) ∧ (assignEach es X.env).length = fs.length ∧ (assignEach es X.env).findIdx? (·.1) = none ∧ es.length = fs.length
  | [], _, h => by
    unfold FdNs at h
    subst h
    refine ⟨⟨fun pins s σ H vs us Q I r q => ?_⟩, rfl, rfl, rfl⟩
    obtain ⟨as, s', hs, ws, x, rs, e1, rv, hs', e2, q⟩ := q
    cases ws with
    | nil =>
      unfold RVs at rv
      subst rv
      unfold fldsSet at e2
      cases e2
      exact pgs_nil.run pins s σ H [] us Q I r ⟨rfl, q H Kp.refl rs⟩
    | cons v t => unfold fldsSet at e2; cases e2
  | f :: r, _, h => by
    obtain ⟨x, p, p2, t, rfl, hx, h⟩ := h
    obtain ⟨i1, i2, i3, i4⟩ := pgs_flds C hN hv hd hcd h
    refine ⟨⟨fun pins s σ H vs us Q I rr q => ?_⟩, by show (assignEach t X.env).length + 1 = _; rw [i2]; rfl, ?_, by simp [i4]⟩
    · obtain ⟨as, s', hs, ws, z, rs, e1, rv, hs', e2, q⟩ := q
      cases ws with
      | nil => unfold fldsSet at e2; cases e2
      | cons v vt =>
        unfold RVs at rv
        obtain ⟨y, yt, rfl, ry, rv⟩ := rv
        unfold fldsSet at e2
        split at e2
        rotate_left
        · cases e2
        rename_i hs1 e4
        cases rr with
        | cons ru rt =>
        rename_i u ut
        show wpAny _ _ (assignInOrder (assign (.Attribute (.Name n p) x p2) X.env :: (assignEach t X.env).map (·.2)) (u :: ut)) _ _ _
        refine PyProof.Rows.assignInOrder_cons ?_
        rw [assign_Attribute]
        obtain ⟨zv, ez, rz⟩ := rs.val o z e1
        refine wpAny_bind (wpAny_holding (thn ((pe_var hN hv hd hcd).run pins s σ H (fun w H1 => w = zv ∧ H1 = H) I ⟨zv, ez, rfl, rfl⟩) fun ov s1 hh => ?_))
        obtain ⟨w, H1, I1, rw1, ew, eH⟩ := hh
        subst ew eH
        unfold fldSet at e4
        split at e4
        · rename_i m
          split at e4
          · rename_i c fs e5
            split at e4
            · rename_i k hk
              split at e4
              · rename_i hlt
                cases e4
                unfold RV at rz
                obtain ⟨d, ed, rfl⟩ := rz
                obtain rfl : ov = .ref d := rw1
                obtain ⟨d', dx, gs, f1, f2, f3⟩ := rs.h.inst e5
                rw [ed] at f1; cases f1
                have ck := C.clsO c k hk
                have hl : fs.length < 100 := Nat.lt_of_succ_le (Nat.le_of_ble_eq_true hlt)
                obtain ⟨k4, r4⟩ := rs.write (o' := .inst c (alistPut fs f v)) (u' := .ins (R.cl c) dx (putF x y gs)) e5 ed f2 trivial ⟨dx, _, rfl, by rw [← C.fldN f x hx]; exact RF.put ry f3⟩
                refine wpAny_bind (wpAny_standAt (wpAny_bind (wpAny_holding (setattr_ok I1 f2 ck.1 (ck.2 x (List.mem_of_getElem? hx)) (by rw [← f3.len]; omega) ru fun s3 I3 => wpAny_release ?_))))
                exact i1.run pins s3 σ _ yt ut Q I3 rt ⟨as, s', _, vt, _, r4, e1, RVs.mono PfxA.refl k4 _ _ rv, hs', e2, fun H5 k5 r5 => q H5 (k4.trans k5) r5⟩
              · cases e4
            · cases e4
          · cases e4
        · cases e4
    · show (List.findIdx? (·.1) ((false, _) :: assignEach t X.env)) = none
      rw [List.findIdx?_cons, i3]
      rfl
theorem fldsSet_len {z : Val} : ∀ {fs : List Nat} {vs : List Val} {h h' : Hs}, fldsSet G z fs vs h = some h' → vs.length = fs.length
  | [], [], _, _, _ => rfl
  | [], _ :: _, _, _, e => by (unfold fldsSet at e; cases e)
  | _ :: _, [], _, _, e => by (unfold fldsSet at e; cases e)
  | f :: r, v :: t, h, h', e => by
    unfold fldsSet at e
    split at e
    · simp [fldsSet_len e]
    · cases e
theorem oks_flds (C : Cok X R W G call nm) (hc : X.calm = true) {o : Nat} {fs : List Nat} {e : E} {n : Str} {es : List Expr} {k : Nat} {tp pos : Pos} {pe : Expr} (hN : X.N[o]? = some n) (hv : Vis X.env.scope n) (hd : (n == ("__debug__" : Str)) = false) (hcd : (n == ("__classdict__" : Str)) = false) (hf : FdNs X nm n fs es)
    (hs : swapsWithSole [.Tuple es k tp] pe pos.line X.env = pure false) (hw : swappedStores [.Tuple es k tp] pe X.env = pure none) (he : OkE X R W G call e pe) : OkS X R W G call (.asg (.flds o fs) e) (.Assign [.Tuple es k tp] pe pos) := fun as s hs' σ H D r h => by
  obtain ⟨i1, i2, i3, i4⟩ := pgs_flds C hN hv hd hcd hf
  unfold exS at h
  refine WpS.of (ps_asg (WpE.pe X pe) (pg_tup hc i1 i2 i3) hs hw rfl) ?_
  refine he as s hs' σ H _ r (h.bind.imp fun v hs1 as1 H1 p1 k1 r1 h x hx => ?_)
  unfold lvSet at h
  simp only at h
  split at h
  · rename_i z vs e1
    cases e2 : fldsSet G z fs vs hs1 with
    | none => rw [e2] at h; exact h.elim
    | some hs2 =>
      rw [e2] at h
      unfold RV at hx
      obtain ⟨a, xs, rfl, h1, h2⟩ := hx
      have hl : vs.length = fs.length := fldsSet_len e2
      exact ⟨a, xs, rfl, by rw [C.hK]; exact h1, by rw [← h2.len, hl], as1, s, hs1, vs, z, r1, e1, h2, hs2, e2, fun H' k' r' => h as1 σ H' PfxA.refl k' r'⟩
  · exact h.elim
end
end Kn
namespace Kn
open PySem L2 KnK PyProof.Rows
theorem txLt_eq : ∀ (a b : Tx), txLt a b = decide (a < b)
  | [], [] => by simp [txLt]
  | [], y :: t => by simp [txLt]
  | x :: r, [] => by simp [txLt]
  | x :: r, y :: t => by
    unfold txLt
    rw [txLt_eq r t]
    by_cases h : x = y
    · subst h
      simp [List.cons_lt_cons_iff]
    · have : Nat.beq x y = false := by
        cases e : Nat.beq x y with
        | false => rfl
        | true => exact absurd (Nat.eq_of_beq_eq_true e) h
      rw [this, if_neg (by decide)]
      rw [Bool.eq_iff_iff, decide_eq_true_iff, List.cons_lt_cons_iff]
      simp only [h, false_and, or_false]
      exact ⟨fun e => Nat.le_of_ble_eq_true e, fun e => Nat.ble_eq_true_of_le e⟩
theorem itLt_eq (a b : Int ⊕ Tx) : itLt a b = itemLt a b := by
  cases a <;> cases b <;> simp only [itLt, itemLt]
  exact txLt_eq _ _
theorem lexK_eq : ∀ (a b : List (Int ⊕ Tx)), lexK a b = lexLt itemOrd a b
  | [], [] => rfl
  | [], _ :: _ => rfl
  | _ :: _, [] => rfl
  | x :: r, y :: t => by
    unfold lexK
    rw [lex_cons, lexK_eq r t, itLt_eq, itLt_eq]
abbrev KO2 := listOrd itemOrd
theorem swoK {α : Type} (k : α → List (Int ⊕ Tx)) : SrtO.Swo fun x y => lexLt itemOrd (k x) (k y) := ⟨fun x y h => by
    cases e : lexLt itemOrd (k y) (k x) with
    | false => rfl
    | true => (have := lex_trans _ _ _ h e; rw [lex_irrefl] at this; cases this), fun x y z h1 h2 => by
    cases e : lexLt itemOrd (k z) (k x) with
    | false => rfl
    | true =>
      rcases lex_negTrans (O := itemOrd) (k z) (k y) (k x) e with q | q
      · rw [q] at h2; cases h2
      · rw [q] at h1; cases h1⟩
theorem ltB_eq (x y : Val) : ltB x y = lexLt itemOrd (kVal x) (kVal y) := lexK_eq _ _
theorem insB_perm (x : Val) : ∀ l : List Val, (insB x l).Perm (x :: l)
  | [] => List.Perm.refl _
  | y :: r => by
    unfold insB
    split
    · exact ((insB_perm x r).cons y).trans (List.Perm.swap x y r)
    · exact List.Perm.refl _
theorem srt_perm : ∀ l : List Val, (srt l).Perm l
  | [] => List.Perm.refl _
  | x :: r => (insB_perm x _).trans ((srt_perm r).cons x)
theorem insB_srtd (x : Val) : ∀ l : List Val, SrtO.Srtd ltB l → SrtO.Srtd ltB (insB x l)
  | [], _ => List.pairwise_singleton _ _
  | y :: r, h => by
    have O := swoK kVal
    obtain ⟨h1, h2⟩ := List.pairwise_cons.mp h
    unfold insB
    split
    · rename_i hy
      refine List.pairwise_cons.mpr ⟨fun z hz => ?_, insB_srtd x r h2⟩
      rcases List.mem_cons.mp ((insB_perm x r).mem_iff.mp hz) with rfl | hz
      · rw [ltB_eq] at hy ⊢; exact O.asym _ _ hy
      · exact h1 z hz
    · rename_i hy
      have hy : ltB y x = false := by simpa using hy
      refine List.pairwise_cons.mpr ⟨fun z hz => ?_, h⟩
      rcases List.mem_cons.mp hz with rfl | hz
      · exact hy
      · have := h1 z hz
        rw [ltB_eq] at this hy ⊢
        exact O.tr x y z hy this
theorem srt_srtd : ∀ l : List Val, SrtO.Srtd ltB (srt l)
  | [] => List.Pairwise.nil
  | x :: r => insB_srtd x _ (srt_srtd r)
/-- sorted lists of the same keys are one -/
theorem keys_uniq : ∀ {l m : List (List (Int ⊕ Tx))}, l.Perm m → l.Pairwise (fun x y => lexLt itemOrd y x = false) → m.Pairwise (fun x y => lexLt itemOrd y x = false) → l = m
  | [], m, p, _, _ => p.nil_eq
  | x :: l, [], p, _, _ => absurd p.length_eq (by simp)
  | x :: l, y :: m, p, h1, h2 => by
    obtain ⟨a1, a2⟩ := List.pairwise_cons.mp h1
    obtain ⟨b1, b2⟩ := List.pairwise_cons.mp h2
    have e : x = y := by
      refine lex_total (O := itemOrd) x y ?_ ?_
      · rcases List.mem_cons.mp (p.mem_iff.mp List.mem_cons_self) with e | hx
        · rw [e]; exact lex_irrefl _
        · exact b1 x hx
      · rcases List.mem_cons.mp (p.mem_iff.mpr List.mem_cons_self) with e | hy
        · rw [e]; exact lex_irrefl _
        · exact a1 y hy
    subst e
    rw [keys_uniq p.cons_inv a2 b2]
theorem srt_keys {l m : List Val} (h : (m.map kVal).Perm (l.map kVal)) (hs : (m.map kVal).Pairwise (fun x y => lexLt itemOrd y x = false)) : m.map kVal = (srt l).map kVal := by
  refine keys_uniq (h.trans ((srt_perm l).map kVal).symm) hs (List.pairwise_map.mpr ((srt_srtd l).imp fun {a b} q => ?_))
  rw [ltB_eq] at q; exact q
inductive Md where
  | s | t (sh : List Bool)
def Cf : Md → Val → Prop
  | .s, v => isStrV v = true
  | .t sh, v => tupSh sh v = true
theorem kIt_inj {b : Bool} {v w : Val} (h1 : shI v = some b) (h2 : shI w = some b) (e : kIt v = kIt w) : v = w := by
  cases v <;> simp [shI] at h1 <;> cases w <;> simp [shI] at h2 <;> subst h1 <;> first | (cases h2; done) | (simp only [kIt, Sum.inl.injEq] at e; rw [e]; done) | (simp only [kIt, Sum.inr.injEq] at e; rw [e]; done)
theorem sameSh_inj : ∀ {sh : List Bool} {us ws : List Val}, sameSh sh us = true → sameSh sh ws = true → us.map kIt = ws.map kIt → us = ws
  | [], [], [], _, _, _ => rfl
  | [], [], _ :: _, _, h, _ => by cases h
  | [], _ :: _, _, h, _, _ => by cases h
  | _ :: _, [], _, h, _, _ => by cases h
  | _ :: _, _ :: _, [], _, h, _ => by cases h
  | b :: r, u :: us, w :: ws, h1, h2, e => by
    unfold sameSh at h1 h2
    rw [Bool.and_eq_true] at h1 h2
    simp only [List.map_cons, List.cons.injEq] at e
    have f : ∀ x : Val, (match shI x with | some c => b == c | none => false) = true → shI x = some b := fun x hx => by
      split at hx
      · rename_i c ec; rw [ec]; simp at hx; rw [hx]
      · cases hx
    rw [kIt_inj (f u h1.1) (f w h2.1) e.1, sameSh_inj h1.2 h2.2 e.2]
theorem kVal_inj {m : Md} {v w : Val} (h1 : Cf m v) (h2 : Cf m w) (e : kVal v = kVal w) : v = w := by
  cases m with
  | s =>
    cases v <;> simp [Cf, isStrV] at h1
    cases w <;> simp [Cf, isStrV] at h2
    simp [kVal] at e
    rw [e]
  | t sh =>
    cases v <;> simp [Cf, tupSh] at h1
    cases w <;> simp [Cf, tupSh] at h2
    simp only [kVal] at e
    rw [sameSh_inj h1 h2 e]
theorem sameSh_self : ∀ {ws : List Val} {sh : List Bool}, mapO shI ws = some sh → sameSh sh ws = true
  | [], _, e => by cases e; rfl
  | w :: r, sh, e => by
    unfold mapO at e
    split at e
    · rename_i b eb
      split at e
      · rename_i t et
        cases e
        unfold sameSh
        rw [eb, sameSh_self et]
        simp
      · cases e
    · cases e
theorem sortOk_md {ws : List Val} (h : sortOk ws = true) : ∃ m : Md, (∀ sh, m = .t sh → sh ≠ []) ∧ ∀ v ∈ ws, Cf m v := by
  unfold sortOk at h
  split at h
  · exact ⟨.s, fun _ z => (by cases z), fun v hv => by cases hv⟩
  · exact ⟨.s, fun _ z => (by cases z), fun v hv => by
      rcases List.mem_cons.mp hv with rfl | hv
      · rfl
      · exact List.all_eq_true.mp h v hv⟩
  · split at h
    · rename_i sh e
      refine ⟨.t sh, fun sh' z => ?_, fun v hv => ?_⟩
      · cases z
        rintro rfl
        unfold mapO at e
        split at e
        · split at e <;> cases e
        · cases e
      · rcases List.mem_cons.mp hv with rfl | hv
        · exact sameSh_self e
        · exact List.all_eq_true.mp h v hv
    · cases h
  · cases h
def shF (sh : List Bool) : Nat → Bool := fun i => sh.getD i false
theorem tupItems_of {R : Rp} {as : List Addr} {H : Hp} : ∀ {sh : List Bool} {us : List Val} {xs : List V} {its : List Value} {f : Nat → Bool} {i : Nat}, sameSh sh us = true → (∀ j, f (i + j) = sh.getD j false) → RVs R as H us xs → Vals xs its → tupItems f i its = some (us.map kIt)
  | [], [], _, _, _, _, _, _, r, v => by
    unfold RVs at r; subst r; cases v; rfl
  | [], _ :: _, _, _, _, _, h, _, _, _ => by cases h
  | _ :: _, [], _, _, _, _, h, _, _, _ => by cases h
  | b :: sh, u :: us, _, _, f, i, h, hf, r, v => by
    unfold RVs at r
    obtain ⟨x, t, rfl, r1, r2⟩ := r
    cases v with
    | cons v1 v2 =>
      unfold sameSh at h
      rw [Bool.and_eq_true] at h
      have ih := tupItems_of (f := f) (i := i + 1) h.2 (fun j => by have := hf (j + 1); rw [List.getD_cons_succ] at this; rw [← this]; congr 1; omega) r2 v2
      have h0 : f i = b := by have := hf 0; simpa using this
      have hc := h.1
      cases u <;> simp [shI] at hc
      · unfold RV at r1; subst r1
        obtain ⟨tk, rfl⟩ := v1
        subst hc
        simp [tupItems, h0, ih, kIt]
      · unfold RV at r1; obtain ⟨rfl, _⟩ := r1
        obtain ⟨tk, rfl⟩ := v1
        subst hc
        simp [tupItems, h0, ih, kIt]
/-- an item's key by its value, in a heap -/
def kvOf (h : Heap) (m : Md) (u : Value) : List (Int ⊕ Tx) := match m with
  | .s => (match u with
    | .str x _ => [.inr x.cps.toList]
    | _ => [])
  | .t sh => (tupKey h (shF sh) u).getD []
/-- what an item is in the heap -/
def ItOk (h : Heap) : Md → Val → Value → Prop
  | .s, v, u => ∃ t tk, v = .str t ∧ u = .str (toS t) tk
  | .t sh, v, u => ∃ us a o its n, v = .tup us ∧ u = .ref a ∧ h.get? a = some o ∧ o.cls = .type "tuple" ∧ o.data = .seq its n ∧ tupItems (shF sh) 0 its.toList = some (us.map kIt) ∧ us ≠ [] ∧ sameSh sh us = true
theorem ItOk.keep {h h' : Heap} {m : Md} {v : Val} {u : Value} (i : ItOk h m v u) (k : ∀ a o, h.get? a = some o → o.cls = .type "tuple" → h'.get? a = some o) : ItOk h' m v u := by
  cases m with
  | s => exact i
  | t sh =>
    obtain ⟨us, a, o, its, n, e1, e2, e3, e4, e⟩ := i
    exact ⟨us, a, o, its, n, e1, e2, k a o e3 e4, e4, e⟩
theorem ItOk.key {h : Heap} {m : Md} {v : Val} {u : Value} (i : ItOk h m v u) : kvOf h m u = kVal v := by
  cases m with
  | s => obtain ⟨t, tk, rfl, rfl⟩ := i; simp [kvOf, kVal]
  | t sh =>
    obtain ⟨us, a, o, its, n, rfl, rfl, e3, e4, e5, e6, e7⟩ := i
    simp [kvOf, tupKey, e3, e5, e6, kVal]
theorem itOk_of {X : Cx} {R : Rp} {as : List Addr} {H : Hp} {pins : List (Addr × PySem.Obj)} {σ : L2.St} {s : Shared} (hK : X.K = R.K) (I : Inv X pins σ H s) {m : Md} (hm : ∀ sh, m = .t sh → sh ≠ []) {v : Val} {x : V} {u : Value} (c : Cf m v) (r : RV R as H v x) (q : RelV x u) : ItOk s.heap m v u := by
  cases m with
  | s =>
    cases v <;> simp [Cf, isStrV] at c
    unfold RV at r
    obtain ⟨rfl, _⟩ := r
    obtain ⟨tk, rfl⟩ := q
    exact ⟨_, tk, rfl, rfl⟩
  | t sh =>
    cases v <;> simp [Cf, tupSh] at c
    rename_i us
    unfold RV at r
    obtain ⟨a, xs, rfl, st, rs⟩ := r
    cases q
    rw [← hK] at st
    obtain ⟨its, rv, ⟨o, e3, e4, n, e5⟩, _⟩ := I.tuple st
    refine ⟨us, a, o, its.toArray, n, rfl, rfl, e3, e4, e5, ?_, ?_, c⟩
    · exact tupItems_of c (fun j => by simp [shF]) rs (by simpa using rv)
    · rintro rfl
      cases sh with
      | nil => exact hm [] rfl rfl
      | cons b r => cases c
inductive ItsOk (h : Heap) (m : Md) : List Val → List Value → Prop
  | nil : ItsOk h m [] []
  | cons {v : Val} {u : Value} {vs : List Val} {us : List Value} : ItOk h m v u → ItsOk h m vs us → ItsOk h m (v :: vs) (u :: us)
theorem ItsOk.keep {h h' : Heap} {m : Md} {vs : List Val} {us : List Value} (i : ItsOk h m vs us) (k : ∀ a o, h.get? a = some o → o.cls = .type "tuple" → h'.get? a = some o) : ItsOk h' m vs us := by
  induction i with
  | nil => exact .nil
  | cons a b ih => exact .cons (a.keep k) ih
theorem ItsOk.keys {h : Heap} {m : Md} {vs : List Val} {us : List Value} (i : ItsOk h m vs us) : us.map (kvOf h m) = vs.map kVal := by
  induction i with
  | nil => rfl
  | cons a b ih => rw [List.map_cons, List.map_cons, a.key, ih]
theorem ItsOk.mem {h : Heap} {m : Md} {vs : List Val} {us : List Value} (i : ItsOk h m vs us) {u : Value} (hu : u ∈ us) : ∃ v ∈ vs, ItOk h m v u := by
  induction i with
  | nil => cases hu
  | cons a b ih =>
    rcases List.mem_cons.mp hu with rfl | hu
    · exact ⟨_, List.mem_cons_self, a⟩
    · obtain ⟨v, h1, h2⟩ := ih hu
      exact ⟨v, List.mem_cons_of_mem _ h1, h2⟩
theorem ItsOk.len {h : Heap} {m : Md} {vs : List Val} {us : List Value} (i : ItsOk h m vs us) : us.length = vs.length := by
  induction i with
  | nil => rfl
  | cons a b ih => simp [ih]
/-- the items compare as their keys -/
theorem its_sortable {P : Program} {w : World} {A : Around} {s : Shared} {h0 : Heap} {a : Addr} {m : Md} {vs : List Val} {us : List Value} (i : ItsOk h0 m vs us) (h2 : 2 ≤ us.length) (ha : ∀ b o, h0.get? b = some o → b ≠ a ∧ s.heap.get? b = some o) :
    SrtO.SortableO P w A s a us (fun v u => lexLt itemOrd (kvOf h0 m v) (kvOf h0 m u)) := by
  intro h' keep
  have kp : ∀ b o, h0.get? b = some o → o.cls = .type "tuple" → h'.get? b = some o := fun b o e c => keep b o (ha b o e).1 (ha b o e).2
  have i' := i.keep kp
  have kk : ∀ u ∈ us, kvOf h' m u = kvOf h0 m u := fun u hu => by
    obtain ⟨v, hv, q⟩ := i.mem hu
    rw [(q.keep kp).key, q.key]
  cases m with
  | s =>
    refine ⟨oneType', fun Q E hq => ?_, fun p q hp hq => ?_⟩
    · have sa : ∃ ss, StrsAre us ss := by
        clear h2 kk i' 
        induction i with
        | nil => exact ⟨[], .nil⟩
        | cons a b ih =>
          obtain ⟨ss, hs⟩ := ih
          obtain ⟨t, tk, _, rfl⟩ := a
          exact ⟨_, .cons _ _ hs⟩
      obtain ⟨ss, hs⟩ := sa
      match us, h2, hs with
      | u1 :: u2 :: us, _, hs =>
        rw [keyKind_strs hs]
        exact wpAny_pure hq
    · obtain ⟨v1, _, t1, k1, _, e1⟩ := i.mem hp
      obtain ⟨v2, _, t2, k2, _, e2⟩ := i.mem hq
      show wpAny (model P w) A (keyLt' oneType' p.1 q.1) (fun r s' => s' = { s with heap := h' } ∧ r = lexLt itemOrd (kvOf h0 .s p.1) (kvOf h0 .s q.1)) (fun _ _ => False) { s with heap := h' }
      rw [e1, e2]
      refine oneLt_str ⟨rfl, ?_⟩
      simp only [kvOf, lex_cons]
      show decide (t1 < t2) = (decide (t1 < t2) || (!decide (t2 < t1) && false))
      simp
  | t sh =>
    have fs : ∃ fs, fs.length = us.length ∧ TupsOf h' (shF sh) us fs := by
      clear h2 kk
      induction i' with
      | nil => exact ⟨[], rfl, .nil⟩
      | cons a b ih =>
        have i2 : ∀ {v u vs us}, ItsOk h0 (.t sh) (v :: vs) (u :: us) → ItsOk h0 (.t sh) vs us := fun z => by cases z; assumption
        obtain ⟨fs, hl, ht⟩ := ih (i2 i)
        obtain ⟨ws, ad, o, its, n, _, rfl, e3, e4, e5, e6, e7, e8⟩ := a
        cases hi : its.toList with
        | nil =>
          rw [hi] at e6
          simp [tupItems] at e6
          exact absurd e6 e7
        | cons f r =>
          rw [hi] at e6
          refine ⟨f :: fs, by simp [hl], .cons ⟨ad, o, its, n, rfl, e3, e4, e5, ?_, fun h0 => ?_, fun h0 => ?_⟩ ht⟩
          · rw [← Array.getElem?_toList, hi]; rfl
          · obtain ⟨k, t, _, e, _⟩ := tupItems_int h0 e6; exact ⟨k, t, e⟩
          · obtain ⟨k, t, _, e, _⟩ := tupItems_str h0 e6; exact ⟨k, t, e⟩
    obtain ⟨fs, hl, ht⟩ := fs
    refine ⟨tuples' true, fun Q E hq => tup_kind (s := { s with heap := h' }) (by omega) ht hq, fun p q hp hq => ?_⟩
    obtain ⟨v1, _, q1⟩ := i'.mem hp
    obtain ⟨v2, _, q2⟩ := i'.mem hq
    have z1 := kk _ hp
    have z2 := kk _ hq
    have key : ∀ {v u}, ItOk h' (.t sh) v u → (tupKind h' (shF sh)).keyOf u = some (kVal v) := fun ⟨ws, ad, o, its, n, e1, e2, e3, e4, e5, e6, e7⟩ => by
      subst e1 e2
      simp [tupKey, e3, e5, e6, kVal]
    refine tup_ltAt (s := { s with heap := h' }) true A _ p.1 q.1 (kVal v1) (kVal v2) (key q1) (key q2) ⟨rfl, ?_⟩
    show lexLt itemOrd (kVal v1) (kVal v2) = lexLt itemOrd (kvOf h0 (.t sh) p.1) (kvOf h0 (.t sh) q.1)
    rw [← z1, ← z2, q1.key, q2.key]
/-- the sorted values stand for the sorted list -/
theorem out_rel {R : Rp} {as : List Addr} {H : Hp} {h : Heap} {m : Md} {ws : List Val} {us : List Value} (i : ItsOk h m ws us) (hc : ∀ v ∈ ws, Cf m v) (hr : ∀ u ∈ us, ∃ v ∈ ws, ∃ x, RelV x u ∧ RV R as H v x ∧ ItOk h m v u)
    {out : List Value} (h1 : SrtO.Srtd (fun v u => lexLt itemOrd (kvOf h m v) (kvOf h m u)) out) (h2 : SrtO.Stb (fun v u => lexLt itemOrd (kvOf h m v) (kvOf h m u)) out us) : ∃ ys, Vals ys out ∧ RVs R as H (srt ws) ys := by
  have e : out.map (kvOf h m) = (srt ws).map kVal := by
    have e0 : ∃ ms : List Val, ms.map kVal = out.map (kvOf h m) := by
      have : ∀ o : List Value, (∀ u ∈ o, u ∈ us) → ∃ ms : List Val, ms.map kVal = o.map (kvOf h m) := fun o => by
        induction o with
        | nil => exact fun _ => ⟨[], rfl⟩
        | cons u r ih =>
          intro ho
          obtain ⟨ms, hm⟩ := ih fun z hz => ho z (List.mem_cons_of_mem _ hz)
          obtain ⟨v, _, q⟩ := i.mem (ho u List.mem_cons_self)
          exact ⟨v :: ms, by rw [List.map_cons, List.map_cons, hm, q.key]⟩
      exact this out fun u hu => h2.perm.mem_iff.mp hu
    obtain ⟨ms, em⟩ := e0
    rw [← em]
    refine srt_keys ?_ ?_
    · rw [em, ← i.keys]
      exact h2.perm.map _
    · rw [em]
      exact List.pairwise_map.mpr h1
  have hm : ∀ v ∈ srt ws, Cf m v := fun v hv => hc v ((srt_perm ws).mem_iff.mp hv)
  have ho : ∀ u ∈ out, ∃ v, Cf m v ∧ ∃ x, RelV x u ∧ RV R as H v x ∧ kvOf h m u = kVal v := fun u hu => by
    obtain ⟨v, hv, x, q1, q2, q3⟩ := hr u (h2.perm.mem_iff.mp hu)
    exact ⟨v, hc v hv, x, q1, q2, q3.key⟩
  clear h1 h2 hr i
  generalize srt ws = zs at e hm
  induction out generalizing zs with
  | nil =>
    cases zs with
    | nil => exact ⟨[], .nil, RVs.nil⟩
    | cons z r => cases e
  | cons u r ih =>
    cases zs with
    | nil => cases e
    | cons z t =>
      simp only [List.map_cons, List.cons.injEq] at e
      obtain ⟨ys, y1, y2⟩ := ih (fun v hv => ho v (List.mem_cons_of_mem _ hv)) t e.2 (fun v hv => hm v (List.mem_cons_of_mem _ hv))
      obtain ⟨v, cv, x, q1, q2, q3⟩ := ho u List.mem_cons_self
      have : v = z := kVal_inj cv (hm z List.mem_cons_self) (by rw [← q3]; exact e.1)
      subst this
      exact ⟨x :: ys, .cons q1 y1, RVs.cons q2 y2⟩
theorem itsOk_of {X : Cx} {R : Rp} {as : List Addr} {H : Hp} {pins : List (Addr × PySem.Obj)} {σ : L2.St} {s : Shared} (hK : X.K = R.K) (I : Inv X pins σ H s) {m : Md} (hm : ∀ sh, m = .t sh → sh ≠ []) : ∀ {vs : List Val} {xs : List V} {us : List Value}, (∀ v ∈ vs, Cf m v) → RVs R as H vs xs → Vals xs us → ItsOk s.heap m vs us ∧ ∀ u ∈ us, ∃ v ∈ vs, ∃ x, RelV x u ∧ RV R as H v x ∧ ItOk s.heap m v u
  | [], _, _, _, r, q => by
    unfold RVs at r; subst r; cases q
    exact ⟨.nil, fun u hu => by cases hu⟩
  | v :: vs, _, _, c, r, q => by
    unfold RVs at r
    obtain ⟨x, t, rfl, r1, r2⟩ := r
    cases q with
    | cons q1 q2 =>
      obtain ⟨h1, h2⟩ := itsOk_of hK I hm (fun z hz => c z (List.mem_cons_of_mem _ hz)) r2 q2
      have h0 := itOk_of hK I hm (c v List.mem_cons_self) r1 q1
      refine ⟨.cons h0 h1, fun u hu => ?_⟩
      rcases List.mem_cons.mp hu with rfl | hu
      · exact ⟨v, List.mem_cons_self, x, q1, r1, h0⟩
      · obtain ⟨v', a, b⟩ := h2 u hu
        exact ⟨v', List.mem_cons_of_mem _ a, b⟩
section
variable {X : Cx} {R : Rp} {W : WX} {as : List Addr} {s : St} {hs : Hs} {σ : L2.St} {H : Hp} {Q : VK}
theorem sorted_list (hK : X.K = R.K) (r : RS R as s hs σ H) {p : Addr} {ws : List Val} {ys : List V} (f2 : SqL R.K H p ys) (f3 : RVs R as H ws ys) (so : sortOk ws = true) (h : Pst R W s σ (KV1 R Q) as H (Kn.new hs (.list (srt ws)))) : WCa X (.builtin "sorted") [.ref p] H Q := by
  intro pins sh σ' us I rs
  obtain ⟨u, rfl, ru⟩ := vals1 rs
  obtain rfl : u = .ref p := ru
  rw [← hK] at f2
  obtain ⟨its, rv, hl, hz⟩ := I.list f2
  obtain ⟨m, hm, hc⟩ := sortOk_md so
  obtain ⟨io, ir⟩ := itsOk_of hK I hm hc f3 rv
  refine SrtO.sorted_ord (swoK (kvOf sh.heap m)) hl.isList (by rw [← rv.length]; exact hz) (fun h2 h₁ a ha kk => its_sortable (s := { sh with heap := h₁ }) io h2 kk) fun out h1 h2 => ?_
  obtain ⟨zs, z1, z2⟩ := out_rel io hc ir h1 h2
  obtain ⟨n, hn⟩ := sortedAll_at sh.heap its out.toArray
  have hd : sh.heap.objs.size ≤ sh.heap.objs.size + 1 := Nat.le_succ _
  refine ⟨.ref (sh.heap.objs.size + 1), upd H (sh.heap.objs.size + 1) (.lst zs), I.laid (t' := sh.toks) (fun b o e => sortedAll_old e) hd ⟨?_, out, n, z1, hn⟩, rfl, Pst.new h r (I.hok.fresh hd) ⟨_, rfl, z2⟩⟩
  rw [z1.length, h2.len, ← rv.length]
  exact hz
theorem sorted_dict (hc : X.calm = true) (hK : X.K = R.K) (hw : X.w = R.w) (r : RS R as s hs σ H) {n : Nat} {kvs : List (Val × Val)} (e : dictAt hs n = some kvs) {p : Addr} (ed : as[n]? = some p) (so : sortOk (kvs.map (·.1)) = true) (h : Pst R W s σ (KV1 R Q) as H (Kn.new hs (.list (srt (kvs.map (·.1)))))) : WCa X (.builtin "sorted") [.ref p] H Q := by
  intro pins sh σ' us I rs
  obtain ⟨u, rfl, ru⟩ := vals1 rs
  obtain rfl : u = .ref p := ru
  obtain ⟨d', l, f1, rd, rk, nd⟩ := r.h.dictAt e
  rw [ed] at f1; cases f1
  have ok := rd.ok I.hok
  obtain ⟨⟨h2, h3, o, es, ep', h4, h5, h6, h7⟩, _⟩ := ok
  have hl : es.size = kvs.length := by
    have e1 := h7.length
    rw [rk.len, e1]; simp
  have hz : kvs.length ≤ sizeLine := by rw [rk.len]; exact h3
  obtain ⟨m, hm, hcf⟩ := sortOk_md so
  have hh : X.A.handled = none := I.ok.hd hc
  -- the keys
  have keys : ∃ xs, RVs R as H (kvs.map (·.1)) xs ∧ Vals xs (es.toList.map (·.key)) := by
    have : ∀ {kvs : List (Val × Val)} {l : List (NestedKey × V × V)} {es : List DictEntry}, RKv R as H kvs l → Paired (DXr R.w) l es → ∃ xs, RVs R as H (kvs.map (·.1)) xs ∧ Vals xs (es.map (·.key)) := by
      intro kvs
      induction kvs with
      | nil =>
        intro l es hk hp
        unfold RKv at hk
        subst hk
        cases hp
        exact ⟨[], RVs.nil, .nil⟩
      | cons kv t ih =>
        intro l es hk hp
        obtain ⟨k, v⟩ := kv
        obtain ⟨q, x, t', rfl, k1, k2, k3, k4⟩ := hk
        cases hp with
        | cons p1 p2 =>
          obtain ⟨xs, x1, x2⟩ := ih k4 p2
          exact ⟨q :: xs, RVs.cons k2 x1, .cons p1.2.1 x2⟩
    exact this rk h7
  obtain ⟨xs, x1, x2⟩ := keys
  refine Calls.call_function_entry kind_sorted plain_sorted entry_sorted (args_sorted1 _) ?_
  unfold Builtin.«sorted»
  refine wpAny_bind (m := checkCount "sorted" 1 1 _) (wpAny_pure ?_)
  refine wpAny_bind (PySem.W.kdu_collect (A := X.A.in1) (PySem.KdlSrc.rawDict h2) hh (⟨o, h4, h5, h6⟩ : sh.heap.DictRaw p es ep') (by rw [hl]; exact hz) fun h' tk acc hk hacc => ?_)
  have hacc' : acc.toList = es.toList.map (·.key) := by
    apply List.ext_getElem?
    intro j
    by_cases hj : j < acc.size
    · have hj2 : j < es.size := by rw [← hacc.1]; exact hj
      obtain ⟨hi, ev⟩ := hacc.2 j acc[j] (by simp [hj])
      rw [Array.getElem?_toList, List.getElem?_map, Array.getElem?_toList]
      simp [hj, hj2, ev]
    · rw [List.getElem?_eq_none (by simpa using hj), List.getElem?_eq_none (by simp; have := hacc.1; omega)]
  rw [hacc']
  have hlk : (es.toList.map (·.key)).length = kvs.length := by simp [hl]
  refine wpAny_bind (wpAny_newList ?_ (by rw [hlk]; exact hz))
  have hoL : (h'.push (seqObj "list" (es.toList.map (·.key)).toArray 0)).get? h'.objs.size = some (seqObj "list" (es.toList.map (·.key)).toArray 0) := Heap.get?_push_size _ rfl
  have I1 : Inv X pins σ' H { sh with heap := h', toks := tk } := I.kept (t' := tk) hk
  obtain ⟨io, ir⟩ := itsOk_of hK I1 hm hcf x1 x2
  have hf : H h'.objs.size = none := I1.hok.fresh (Nat.le_refl _)
  have hg0 : sh.heap.get? h'.objs.size = none := by
    cases q : sh.heap.get? h'.objs.size with
    | none => rfl
    | some o => exact absurd (Heap.lt_size (hk _ _ q)) (Nat.lt_irrefl _)
  refine wpAny_bind (wpAny_holding (wpAny_call_entry slot_list_sort ⟨_, hoL, rfl⟩ entry_list_sort (SrtO.list_sort_ord (swoK (kvOf h' m)) hoL (by rw [hlk]; exact hz) (fun h2 => its_sortable io h2 fun b o e => ⟨Nat.ne_of_lt (Heap.lt_size e), Heap.get?_push_of_some _ e⟩) fun out s1 s2 => ⟨_, rfl, ?_⟩) (args_list_sort _)))
  obtain ⟨zs, z1, z2⟩ := out_rel io hcf ir s1 s2
  obtain ⟨n', hn⟩ := sortedHeap_at (out := out.toArray) hoL
  refine wpAny_pure ⟨_, rfl, ?_⟩
  refine ⟨.ref h'.objs.size, upd H h'.objs.size (.lst zs), I.laidN (t' := tk) (fun b ob q => ?_) hg0 hf ⟨?_, out, n', z1, hn⟩, rfl, Pst.new h r hf ⟨_, rfl, z2⟩⟩
  · have q := hk b ob q
    have hb := Heap.lt_size q
    rw [sortedHeap_old (Nat.ne_of_lt hb) (by rw [size_push']; exact Nat.lt_succ_of_lt hb)]
    exact Heap.get?_push_of_some _ q
  · rw [z1.length, s2.len, hlk]
    exact hz
end
end Kn
namespace Kn
open PySem L2 KnK
section
variable {prog : Program} {w : World} {A : Around} {E : Value → Shared → Prop} {s : Shared}
theorem samePairs0 {nm : String} {a b : Addr} {es : Array DictEntry} {ep ep' : Nat} {Q : Bool → Shared → Prop} (ha : (a == sysModules) = false) (hb : (b == sysModules) = false) (da : s.heap.DictRaw a es ep) (db : s.heap.DictRaw b #[] ep') (h : Q (decide (es.size = 0)) s) :
    wpAny (model prog w) A (Builtin.Dict.samePairs nm a b) Q E s := by
  obtain ⟨oa, hoa, _, hda⟩ := da
  obtain ⟨ob, hob, _, hdb⟩ := db
  unfold Builtin.Dict.samePairs Builtin.Dict.showsAll
  rw [if_neg (show ¬ (a == sysModules) = true by rw [ha]; exact Bool.false_ne_true), if_neg (show ¬ (b == sysModules) = true by rw [hb]; exact Bool.false_ne_true)]
  refine wpAny_bind (wpAny_pure (wpAny_bind (wpAny_pure ?_)))
  refine wpAny_bind (wpAny_dictEntries hoa hda ?_)
  dsimp only
  refine wpAny_bind (wpAny_dictEntries hob hdb ?_)
  by_cases hsz : es.size = 0
  case neg =>
    rw [if_pos (by simpa using hsz)]
    rw [decide_eq_false hsz] at h
    exact wpAny_bind (wpAny_rule (wpAny_pure h))
  case pos =>
    rw [decide_eq_true hsz] at h
    rw [if_neg (by rw [hsz]; simp)]
    refine wpAny_bind (wpAny_dictEpoch hoa hda ?_)
    refine wpAny_bind ?_
    rw [Std.Legacy.Range.forIn_eq_forIn_range']
    simp only [Std.Legacy.Range.size, Nat.sub_zero, Nat.add_sub_cancel, Nat.div_one, hsz]
    exact wpAny_pure (wpAny_pure h)
theorem ne_empty {a b : Addr} {es : Array DictEntry} {ep ep' : Nat} {Q : Value → Shared → Prop} (ha : (a == sysModules) = false) (hb : (b == sysModules) = false) (da : s.heap.DictRaw a es ep) (db : s.heap.DictRaw b #[] ep') (hu : A.units < cLine) (h : Q (.bool (!decide (es.size = 0))) s) :
    wpAny (model prog w) A (compareOp .NotEq (.ref a) (.ref b)) Q E s := by
  refine wpAny_richCompare_same_room (op := .NotEq) da.typeIs db.typeIs PySem.F.slot_dict_ne (wpAny_call_entry PySem.F.slot_dict_ne da.typeIs PySem.F.entry_dict_ne ?_ (PySem.F.args_dict_ne_2 _ _)) hu
  show wpAny _ _ (Builtin.Dict.dictSlotArgs "__ne__" ⟨[.ref a, .ref b], []⟩ >>= _) _ _ s
  refine wpAny_bind ?_
  unfold Builtin.Dict.dictSlotArgs
  refine wpAny_bind (wpAny_notOrdered_dict da.typeIs ?_)
  show wpAny _ _ (pure (Value.ref a, Value.ref b)) _ _ s
  refine wpAny_pure ?_
  refine wpAny_bind (wpAny_isInstance (T := "dict") db.typeIs PySem.F.sub_dict_dict ?_)
  simp only [Bool.not_true, Bool.false_eq_true, if_false]
  refine wpAny_bind (wpAny_pure (wpAny_bind (wpAny_pure ?_)))
  refine wpAny_bind (samePairs0 ha hb da db ?_)
  refine wpAny_pure ⟨_, rfl, ?_, ?_⟩
  · exact fun x => nomatch x
  · simpa using h
end
section
variable {X : Cx} {R : Rp} {W : WX} {G : Glo} {call : CallF} {nm : Nm}
theorem op_nee (hu : X.A.units < cLine) : OpR X (compareOp .NotEq) (fun x y H Q => ∃ a b l, x = .ref a ∧ y = .ref b ∧ Rd H a (DX X.w a l) ∧ H b = some (DX X.w b []) ∧ Q (.bl !l.isEmpty) H) := by
  intro pins s σ H x y v u Q I rx ry h
  obtain ⟨a, b, l, rfl, rfl, ha, hb, q⟩ := h
  cases (show v = Value.ref a from rx)
  cases (show u = Value.ref b from ry)
  obtain ⟨⟨a1, a2, o, es, ep, a3, a4, a5, a6⟩, _⟩ := ha.ok I.hok
  obtain ⟨⟨b1, b2, o', es', ep', b3, b4, b5, b6⟩, _⟩ := I.hok b _ hb
  have hes : es' = #[] := by
    have : es'.toList = [] := by cases h : es'.toList with | nil => rfl | cons e r => rw [h] at b6; cases b6
    exact Array.toList_eq_nil_iff.mp this
  subst hes
  refine ne_empty a1 b1 ⟨o, a3, a4, a5⟩ ⟨o', b3, b4, b5⟩ hu ⟨.bl !l.isEmpty, H, I, ?_, q⟩
  have hl := a6.length
  have : decide (es.size = 0) = l.isEmpty := by
    cases l with
    | nil => simp at hl; simp [hl]
    | cons z r =>
      have : es.size = r.length + 1 := by simpa using hl.symm
      simp [this]
  rw [this]
  rfl
theorem nee_go (C : Cok X R W G call nm) {a : E} {pa : Expr} {p : Pos} (ha : OkE X R W G call a pa) {as s hs σ H Q} (r : RS R as s hs σ H) (h : Pst R W s σ (KV1 R Q) as H (evE G call (.nee a) s hs)) :
    tOp (fun x y H Q => ∃ a b l, x = .ref a ∧ y = .ref b ∧ Rd H a (DX X.w a l) ∧ H b = some (DX X.w b []) ∧ Q (.bl !l.isEmpty) H) (WpE X pa) (WpE X (.Dict [] [] p)) σ H Q := by
  unfold evE at h
  refine ha as s hs σ H _ r (h.bind.imp fun v hs1 as1 H1 p1 k1 r1 h x hx => ?_)
  split at h
  rotate_left
  · exact h.elim
  rename_i k
  split at h
  rotate_left
  · exact h.elim
  rename_i kvs e
  unfold RV at hx
  obtain ⟨d, ed, rfl⟩ := hx
  obtain ⟨d', u, f1, f2, l, rfl, rk, nd⟩ := r1.h.obj k _ e
  rw [ed] at f1; cases f1
  intro pins sh I
  have np : H1 sh.heap.objs.size = none := I.hok.fresh (Nat.le_refl _)
  refine wpAny_Dict_empty ⟨.ref sh.heap.objs.size, upd H1 sh.heap.objs.size (DX X.w sh.heap.objs.size []), I.laid (a := sh.heap.objs.size) (t' := sh.toks) (fun _ _ q => Heap.get?_push_of_some _ q) (Nat.le_refl _) ?_, rfl, ?_⟩
  · have hd : (sh.heap.objs.size == sysModules) = false := by
      have := (dk_empty (P := X.prog) (w := X.w) (H := H1) sh.heap I.big).2.1
      exact this
    exact ⟨⟨hd, Nat.zero_le _, _, #[], 0, Heap.get?_push_size _ rfl, ⟨rfl, rfl, rfl⟩, rfl, .nil⟩, ⟨_, Heap.get?_push_size _ rfl⟩, fun h1 h2 ⟨a, b, o, es, ep, c, r⟩ k => ⟨a, b, o, es, ep, k o c, r⟩⟩
  · obtain ⟨kp, r2⟩ := r1.free (u := DX X.w sh.heap.objs.size []) np
    have hne : d ≠ sh.heap.objs.size := ne_of_none f2 np
    refine ⟨d, _, l, rfl, rfl, .inl (by rw [upd_ne hne, f2, C.hw]), upd_same, ?_⟩
    have : kvs.isEmpty = l.isEmpty := by
      have := rk.len
      cases kvs <;> cases l <;> simp at this ⊢
    rw [this] at h
    exact h as1 _ PfxA.refl kp r2 _ (by unfold RV; rfl)
theorem ok_nee (C : Cok X R W G call nm) {a : E} {pa : Expr} {p pos : Pos} (ha : OkE X R W G call a pa) : OkE X R W G call (.nee a) (.Compare pa [.NotEq] [.Dict [] [] p] pos) := fun as s hs σ H Q r h =>
  WpE.of (pe_cmpR (op_nee (by have := C.hu; omega)) (WpE.pe X pa) (WpE.pe X _) rfl) (nee_go C ha r h)
theorem okT_nee (C : Cok X R W G call nm) {a : E} {pa : Expr} {p pos : Pos} (ha : OkE X R W G call a pa) : OkT X R W G call (.nee a) (.Compare pa [.NotEq] [.Dict [] [] p] pos) := fun as s hs σ H Q r h =>
  WpT.of (pt_cmpR (op_nee (by have := C.hu; omega)) (WpE.pe X pa) (WpE.pe X _) rfl) (nee_go C ha r (KB.kv h))
theorem ok_sorted (C : Cok X R W G call nm) (hc : X.calm = true) {es : Es} {p pos : Pos} {pe : Expr} (hg : L2.Gl X "sorted") (hn : noStar pe = true) (he : OkEs X R W G call es [pe]) :
    OkE X R W G call (.bi .sorted es) (.Call (.Name "sorted" p) [pe] [] pos) := fun as s hs σ H Q r h => by
  unfold evE at h
  refine WpE.of (pe_callB (id := "sorted") (WCa.r X _) hg (C.blt _ (by decide +kernel)) (by decide +kernel) (WpA.pa X _) (by decide +kernel) (by decide +kernel) (star_one hn) (star_any (pes := []) rfl)) ?_
  refine he as s hs σ H _ r (h.bind.imp fun vs hs1 as1 H1 p1 k1 r1 h xs hxs => ?_)
  have hx : (∃ n, vs = [.ref n]) ∨ biV .sorted vs hs1 = .no := by
    cases vs with
    | nil => exact .inr rfl
    | cons a r =>
      cases r with
      | nil => cases a <;> first | exact .inl ⟨_, rfl⟩ | exact .inr rfl
      | cons b c => exact .inr (by cases a <;> rfl)
  rcases hx with ⟨n, rfl⟩ | hx
  rotate_left
  · rw [hx] at h; exact h.elim
  · skip
    unfold RVs at hxs
    obtain ⟨z, t, rfl, q1, q2⟩ := hxs
    unfold RVs at q2
    subst q2
    unfold RV at q1
    obtain ⟨d, ed, rfl⟩ := q1
    have h : Pst R W s σ (KV1 R Q) as1 H1 (match Kn.listAt hs1 n with
      | some vs => if sortOk vs then Kn.new hs1 (.list (srt vs)) else .no
      | none => (match Kn.dictAt hs1 n with
        | some kvs => if sortOk (kvs.map (·.1)) then Kn.new hs1 (.list (srt (kvs.map (·.1)))) else .no
        | none => .no)) := h
    split at h
    · rename_i ws e1
      obtain ⟨d', ys, f1, f2, f3⟩ := r1.h.listAt e1
      rw [ed] at f1; cases f1
      split at h
      · rename_i so
        exact sorted_list C.hK r1 f2 f3 so h
      · exact h.elim
    · split at h
      · rename_i kvs e1
        split at h
        · rename_i so
          exact sorted_dict hc C.hK C.hw r1 e1 ed so h
        · exact h.elim
      · exact h.elim
end
end Kn
namespace Kn
open PySem L2 KnK
section
variable {R : Rp}
theorem spOf_wf {fz : Addr → Option HO} {call : CallF} {n f : Nat} : spOf (R.wf fz) call n f = spOf R call n f := by
  funext xs H Q E
  refine propext ⟨fun h => ?_, fun h => ?_⟩
  · obtain ⟨f2, as, hs, vs, r, rv, hl, h⟩ := h
    refine ⟨f2, as, hs, vs, r, RVs.uf rv, hl, ?_⟩
    cases e : call f vs hs with
    | no => rw [e] at h; exact h
    | ok v h1 => rw [e] at h; exact fun as' H' x p k rh rv => h as' H' x p ⟨k.t, k.z⟩ rh (RV.wf rv)
    | ex c h1 => rw [e] at h; exact fun as' H' p k rh => h as' H' p ⟨k.t, k.z⟩ rh
  · obtain ⟨f2, as, hs, vs, r, rv, hl, h⟩ := h
    refine ⟨f2, as, hs, vs, r, RVs.wf rv, hl, ?_⟩
    cases e : call f vs hs with
    | no => rw [e] at h; exact h
    | ok v h1 => rw [e] at h; exact fun as' H' x p k rh rv => h as' H' x p ⟨k.t, k.z⟩ rh (RV.uf rv)
    | ex c h1 => rw [e] at h; exact fun as' H' p k rh => h as' H' p ⟨k.t, k.z⟩ rh
variable {X : Cx} {W : WX} {G : Glo} {call : CallF} {nm : Nm}
theorem FnW.wf {fz : Addr → Option HO} {f : Nat} {P : Program} {w : World} {K : PySem.W.Frag} {mg : Str → Option Value} {base : Heap} {j : Nat} {fa : Addr} {fd : FuncData} {ps : List Str} (h : FnW R G call f P w K mg base j fa fd ps) : FnW (R.wf fz) G call f P w K mg base j fa fd ps :=
  fun kx l v h' hl hc hp A outer s H args a oe Q E hr hot hpin e0 hb hz hQ => h kx l v h' hl hc hp A outer s H args a oe Q E hr hot hpin e0 hb hz fun H' x q k rv => hQ H' x q ⟨k.t, k.z⟩ (RV.wf rv)
theorem Cok.wf (C : Cok X R W G call nm) (fz : Addr → Option HO) : Cok X (R.wf fz) W G call nm where
  hK := C.hK
  hw := C.hw
  nd := C.nd
  hu := C.hu
  tk := C.tk
  blt := C.blt
  cst := fun g v x hg hx => let ⟨d, u, xv, e1, e2, e3⟩ := C.cst g v x hg hx; ⟨d, u, xv, e1, e2, fun as H => RV.wf (e3 as H)⟩
  fns := fun h f F x a b => by rw [spOf_wf]; exact C.fns h f F x a b
  xo0 := C.xo0
  fldN := C.fldN
  clsO := C.clsO
  mths := fun h c k m f F x a b d e => by rw [spOf_wf]; exact C.mths h c k m f F x a b d e
  brns := fun h c k f F x a b d e => by rw [spOf_wf]; exact C.brns h c k f F x a b d e
  exs := C.exs
  excs := C.excs
  exN := C.exN
  exm := C.exm
  rais := C.rais
  whO := fun h x hx => let ⟨d, fa, fd, ps, j, a1, a2, a3, a4, a5, a6⟩ := C.whO h x hx; ⟨d, fa, fd, ps, j, a1, a2, a3, a4, a5, a6.wf⟩
  news := fun h c k F x a b d => by rw [spOf_wf]; exact C.news h c k F x a b d
/-- u stands at D -/
def Rp.pl (R : Rp) (D : Addr) (u : HO) : Rp := R.wf fun a => if a = D then some u else R.fzn a
theorem RH.pl {as : List Addr} {hs : Hs} {H : Hp} {D : Addr} {u : HO} (r : RH R as hs H) (nD : H D = none) : RH (R.pl D u) as hs (upd H D u) ∧ R.fzn D = none ∧ D ∉ as := by
  have hf : R.fzn D = none := by
    cases q : R.fzn D with
    | none => rfl
    | some w => rw [r.fz D w q] at nD; cases nD
  have hn : D ∉ as := fun hm => by
    obtain ⟨n, hn, e⟩ := List.getElem_of_mem hm
    have h1 : n < hs.length := by rw [← r.len]; exact hn
    obtain ⟨a, u, e1, e2, _⟩ := r.obj n hs[n] (by simp [h1])
    rw [List.getElem?_eq_getElem hn, e] at e1
    cases e1
    rw [nD] at e2; cases e2
  refine ⟨⟨r.len, r.nd, fun a w e => ?_, fun a ha => ?_, fun n o e => ?_⟩, hf, hn⟩
  · have e : (if a = D then some u else R.fzn a) = some w := e
    by_cases z : a = D
    · rw [if_pos z] at e
      rw [z, upd_same]; exact e
    · rw [if_neg z] at e
      rw [upd_ne z]; exact r.fz a w e
  · show (if a = D then some u else R.fzn a) = none
    have z : a ≠ D := fun z => hn (by rw [← z]; exact ha)
    rw [if_neg z]
    exact r.nf a ha
  · obtain ⟨a, u', e1, e2, e3⟩ := r.obj n o e
    exact ⟨a, u', e1, by rw [upd_ne (ne_of_none e2 nD)]; exact e2, (RO.mono PfxA.refl (Kp.new nD) _ _ e3).wf⟩
theorem RH.unpl {as : List Addr} {hs : Hs} {H : Hp} {D : Addr} {u : HO} (r : RH (R.pl D u) as hs H) (hf : R.fzn D = none) : RH R as hs H ∧ H D = some u ∧ D ∉ as := by
  have nf : ∀ a ∈ as, a ≠ D ∧ R.fzn a = none := fun a ha => by
    have e : (if a = D then some u else R.fzn a) = none := r.nf a ha
    split at e
    · cases e
    · rename_i z; exact ⟨z, e⟩
  refine ⟨⟨r.len, r.nd, fun a w e => ?_, fun a ha => (nf a ha).2, fun n o e => ?_⟩, r.fz D u (by show (if D = D then some u else R.fzn D) = some u; rw [if_pos rfl]), fun hm => (nf D hm).1 rfl⟩
  · refine r.fz a w ?_
    show (if a = D then some u else R.fzn a) = some w
    rw [if_neg fun z => by rw [z, hf] at e; cases e]
    exact e
  · obtain ⟨a, u', e1, e2, e3⟩ := r.obj n o e
    exact ⟨a, u', e1, e2, e3.uf⟩
theorem RS.pl {as : List Addr} {s : St} {hs : Hs} {σ : L2.St} {H : Hp} {D : Addr} {u : HO} (r : RS R as s hs σ H) (nD : H D = none) : RS (R.pl D u) as s hs σ (upd H D u) :=
  ⟨(r.h.pl nD).1, r.len, fun i v e => let ⟨x, e1, e2⟩ := r.val i v e; ⟨x, e1, (RV.mono PfxA.refl (Kp.new nD) _ _ e2).wf⟩⟩
theorem RS.unpl {as : List Addr} {s : St} {hs : Hs} {σ : L2.St} {H : Hp} {D : Addr} {u : HO} (r : RS (R.pl D u) as s hs σ H) (hf : R.fzn D = none) : RS R as s hs σ H :=
  ⟨(r.h.unpl hf).1, r.len, fun i v e => let ⟨x, e1, e2⟩ := r.val i v e; ⟨x, e1, e2.uf⟩⟩
/-- as seen with D aside -/
theorem Pst.pl {α : Type} {s : St} {σ : L2.St} {D : Addr} {u : HO} {k : α → Hs → List Addr → Hp → Prop} {as : List Addr} {H : Hp} (hf : R.fzn D = none) : ∀ {x : Out α}, Pst R W s σ k as H x → Pst (R.pl D u) W s σ (fun a hs as' H' => RS R as' s hs σ H' → k a hs as' H') as H x
  | .ok a hs, h => fun as' H' p q r _ => h as' H' p ⟨q.t, q.z⟩ (r.unpl hf)
  | .ex c hs, h => fun as' H' p q r => h as' H' p ⟨q.t, q.z⟩ (r.unpl hf)
  | .no, h => h
/-- D is taken in -/
theorem RH.adopt {as : List Addr} {hs : Hs} {H : Hp} (r : RH R as hs H) {D : Addr} {o : Obj} {u0 u : HO} (hD : H D = some u0) (w0 : Wr u0) (hf : R.fzn D = none) (hn : D ∉ as) (q : RO R (as ++ [D]) (upd H D u) D o u) : RH R (as ++ [D]) (hs ++ [o]) (upd H D u) := by
  have kp : Kp R H (upd H D u) := Kp.write hD w0
  refine ⟨by simp [r.len], ?_, fun a w e => ?_, fun a ha => ?_, fun n ob e => ?_⟩
  · rw [List.nodup_append]
    refine ⟨r.nd, by simp, fun a ha b hb => ?_⟩
    simp at hb; subst hb
    exact fun z => hn (z ▸ ha)
  · rw [upd_ne fun z => by rw [z, hf] at e; cases e]
    exact r.fz a w e
  · rcases List.mem_append.mp ha with z | z
    · exact r.nf a z
    · obtain rfl : a = D := by simpa using z
      exact hf
  · by_cases hl : n < hs.length
    · rw [List.getElem?_append_left hl] at e
      obtain ⟨a, u', e1, e2, e3⟩ := r.obj n ob e
      refine ⟨a, u', PfxA.snoc n a e1, ?_, RO.mono PfxA.snoc kp _ _ e3⟩
      have z : a ≠ D := fun z => hn (by rw [← z]; exact List.mem_of_getElem? e1)
      rw [upd_ne z]; exact e2
    · have hn : n = hs.length := by
        have := (List.getElem?_eq_some_iff.mp e).1
        simp at this; omega
      subst hn
      simp at e
      subst e
      exact ⟨D, u, by rw [← r.len]; simp, upd_same, q⟩
theorem RH.rewr {as : List Addr} {hs : Hs} {H : Hp} (r : RH R as hs H) {D : Addr} {u0 u : HO} (hD : H D = some u0) (w0 : Wr u0) (hf : R.fzn D = none) (hn : D ∉ as) : RH R as hs (upd H D u) := by
  have kp : Kp R H (upd H D u) := Kp.write hD w0
  refine ⟨r.len, r.nd, fun a w e => ?_, r.nf, fun n ob e => ?_⟩
  · rw [upd_ne fun z => by rw [z, hf] at e; cases e]
    exact r.fz a w e
  · obtain ⟨a, u', e1, e2, e3⟩ := r.obj n ob e
    have z : a ≠ D := fun z => hn (by rw [← z]; exact List.mem_of_getElem? e1)
    exact ⟨a, u', e1, by rw [upd_ne z]; exact e2, RO.mono PfxA.refl kp _ _ e3⟩
/-- d[k] = v, d aside -/
theorem dset_ok {as : List Addr} {H : Hp} {D : Addr} {l : List (NestedKey × V × V)} {kvs : List (Val × Val)} {k v : Val} {kx vx : V} {pins : List (Addr × PySem.Obj)} {σ : L2.St} {sh : Shared} {ku vu : Value} {E : Value → Shared → Prop} {Q : Unit → Shared → Prop} (hK : X.K = R.K) (hw : X.w = R.w) (hu : X.A.units + 100 < cLine) (I : Inv X pins σ H sh) (hD : H D = some (DX R.w D l))
    (rk : RKv R as H kvs l) (nd : (l.map (·.1)).Nodup) (hz : kvs.length < sizeLine) (hk : isKey k = true) (r1 : RV R as H k kx) (r2 : RV R as H v vx) (q1 : RelV kx ku) (q2 : RelV vx vu)
    (h : ∀ l' s', RKv R as H (dPut kvs k v) l' → (l'.map (·.1)).Nodup → Inv X pins σ (upd H D (DX R.w D l')) s' → Q () s') : wpAny (model X.prog X.w) X.A (dictSet D ku vu) Q E sh := by
  obtain ⟨l3, dn, p3, hd, hz2⟩ := dx_in hK hw I (I.hok _ _ hD) rk nd
  obtain ⟨l', h1, h2, h3, h4⟩ := put_rel hk r1 r2 q1 q2 rk p3 nd
  have hlen : l.length = kvs.length := rk.len.symm
  refine set_N (by omega) (key_is hK I 6 k kx ku hk r1 q1) (isKey_depth hk) dn (fun h' t dn' sb => ?_) (by rw [← P3.len p3]; exact hz2)
  have he : ∃ u, h'.get? D = some u := by
    obtain ⟨o, _, _, ho, _⟩ := dn'
    exact ⟨o, ho⟩
  refine h l' _ h1 h3 (I.write (e := D) (t' := t) (by rw [hD]; trivial) (.inl rfl) (fun b u hb hu => (sb.2 b hb).trans hu) he ?_)
  rw [← hw]
  exact dx_new dn' h2 hd (by omega)
theorem subDict1 {a b : Sem Value} {prog : Program} {w : World} {A : Around} {E : Value → Shared → Prop} {s : Shared} {Q : Addr → Shared → Prop}
    (h : wpAny (model prog w) A a (fun ku s2 => wpAny (model prog w) A b (fun vu s3 => wpAny (model prog w) A (dictSet s.heap.objs.size ku vu) (fun _ s4 => Q s.heap.objs.size s4) E s3) E s2) E { s with heap := s.heap.push { cls := .type "dict", data := .dict #[] } }) : wpAny (model prog w) A (subDict [(a, b)]) Q E s := by
  unfold subDict
  refine wpAny_bind (wpAny_alloc (wpAny_bind (wpAny_holding ?_)))
  rw [if_pos (show [(a, b)].length ≤ 15 by simp)]
  refine wpAny_bind ?_
  unfold evalPairs evalPairs
  refine wpAny_bind (thn h fun ku s2 h2 => ?_)
  refine wpAny_bind (wpAny_holding (thn h2 fun vu s3 h3 => ?_))
  refine wpAny_bind (wpAny_holding (wpAny_pure (wpAny_pure ?_)))
  refine wpAny_holding ?_
  rw [List.forIn_cons]
  refine wpAny_bind (wpAny_bind (wpAny_bind (thn h3 fun _ s4 h4 => wpAny_pure ?_)))
  exact wpAny_pure (wpAny_pure (wpAny_pure h4))
theorem inv_dict0 {pins : List (Addr × PySem.Obj)} {σ : L2.St} {H : Hp} {sh : Shared} (hw : X.w = R.w) (I : Inv X pins σ H sh) : Inv X pins σ (upd H sh.heap.objs.size (DX R.w sh.heap.objs.size [])) { sh with heap := sh.heap.push { cls := .type "dict", data := .dict #[] } } := by
  have np : H sh.heap.objs.size = none := I.hok.fresh (Nat.le_refl _)
  rw [← hw]
  refine I.laid (a := sh.heap.objs.size) (t' := sh.toks) (fun _ _ q => Heap.get?_push_of_some _ q) (Nat.le_refl _) ?_
  have hd : (sh.heap.objs.size == sysModules) = false := (dk_empty (P := X.prog) (w := X.w) (H := H) sh.heap I.big).2.1
  exact ⟨⟨hd, Nat.zero_le _, _, #[], 0, Heap.get?_push_size _ rfl, ⟨rfl, rfl, rfl⟩, rfl, .nil⟩, ⟨_, Heap.get?_push_size _ rfl⟩, fun h1 h2 ⟨a, b, o, es, ep, c, r⟩ k => ⟨a, b, o, es, ep, k o c, r⟩⟩
theorem inv_dictD {pins : List (Addr × PySem.Obj)} {σ : L2.St} {H : Hp} {sh : Shared} {D : Addr} (hw : X.w = R.w) (I : Inv X pins σ H sh) (hD : sh.heap.objs.size = D) : H D = none ∧ Inv X pins σ (upd H D (DX R.w D [])) { sh with heap := sh.heap.push { cls := .type "dict", data := .dict #[] } } := by
  subst hD
  exact ⟨I.hok.fresh (Nat.le_refl _), inv_dict0 hw I⟩
theorem evE_dct1 {k v : E} {s : St} {hs : Hs} : evE G call (.dct (.cons k (.cons v .nil))) s hs = (evE G call k s hs).bind fun a h1 => (evE G call v s h1).bind fun b h2 => if isKey a then Kn.new h2 (.dict [(a, b)]) else .no := by
  rw [evE.eq_6]
  simp only [evEs]
  cases evE G call k s hs with
  | no => rfl
  | ex c h => rfl
  | ok a h1 =>
    simp only [Out.bind]
    cases evE G call v s h1 with
    | no => rfl
    | ex c h => rfl
    | ok b h2 => rfl
theorem ok_dct1 (C : Cok X R W G call nm) {k v : E} {pk pv : Expr} {pos : Pos} (hk : ∀ fz, OkE X (R.wf fz) W G call k pk) (hv : ∀ fz, OkE X (R.wf fz) W G call v pv) : OkE X R W G call (.dct (.cons k (.cons v .nil))) (.Dict [some pk] [pv] pos) := fun as s hs σ H Q r h => by
  intro pins sh I
  rw [arm_eval_Dict]
  refine wpAny_bind (wpAny_standAt ?_)
  rw [zip_pairTrees [some pk] [pv] X.env pos rfl rfl, dictDisplay_pairs _ (by simp [pairTrees]) (by simp [pairTrees])]
  simp only [pairTrees]
  refine wpAny_bind (subDict1 ?_)
  generalize hD : sh.heap.objs.size = D
  obtain ⟨np, I1⟩ := inv_dictD C.hw I hD
  have hfz := (r.h.pl (u := DX R.w D []) np).2.1
  have r1 := r.pl (u := DX R.w D []) np
  have kp0 : Kp R H (upd H D (DX R.w D [])) := Kp.new np
  rw [evE_dct1] at h
  have h := Pst.from PfxA.refl kp0 h
  let B : V → V → Hp → Prop := fun kx vx H3 => ∃ as3 hs3 kv vv, RS (R.pl D (DX R.w D [])) as3 s hs3 σ H3 ∧ RV R as3 H3 kv kx ∧ RV R as3 H3 vv vx ∧ isKey kv = true ∧ Pst R W s σ (KV1 R Q) as3 H3 (Kn.new hs3 (.dict [(kv, vv)]))
  have w1 : WpE X pk σ (upd H D (DX R.w D [])) fun kx H2 => WpE X pv σ H2 fun vx H3 => B kx vx H3 := by
    refine hk _ as s hs σ _ _ r1 ((Pst.pl hfz h.bind).imp fun kv hs2 as2 H2 p2 k2 r2 q kx hkx => ?_)
    refine hv _ as2 s hs2 σ _ _ r2 ((Pst.pl hfz (q (r2.unpl hfz)).bind).imp fun vv hs3 as3 H3 p3 k3 r3 q vx hvx => ?_)
    have q := q (r3.unpl hfz)
    split at q
    · rename_i ik
      exact ⟨as3, hs3, kv, vv, r3, RV.mono (R := R) p3 ⟨k3.t, k3.z⟩ _ _ hkx.uf, hvx.uf, ik, q⟩
    · exact q.elim
  refine thn (w1 pins _ I1) fun ku s2 ⟨kx, H2, I2, q1, w2⟩ => ?_
  refine wpAny_bind (thn (w2 pins _ I2) fun vu s3 ⟨vx, H3, I3, q2, as3, hs3, kv, vv, r3, rk, rv, ik, q⟩ => ?_)
  refine wpAny_bind (wpAny_standAt (wpAny_pure ?_))
  obtain ⟨r4, hD, hn⟩ := r3.h.unpl hfz
  refine dset_ok C.hK C.hw C.hu I3 hD (kvs := []) rfl List.nodup_nil (by rw [sizeLine_eq]; decide) ik rk rv q1 q2 fun l' s' rk' nd' I' => ?_
  refine wpAny_pure ⟨.ref D, _, I', rfl, ?_⟩
  have kp : Kp R H3 (upd H3 D (DX R.w D l')) := Kp.write hD trivial
  have r5 := r4.adopt (o := .dict [(kv, vv)]) (u := DX R.w D l') hD trivial hfz hn ⟨l', rfl, RKv.mono PfxA.snoc kp _ _ rk', nd'⟩
  refine q _ _ PfxA.snoc kp ((r3.unpl hfz).to PfxA.snoc kp r5) _ ?_
  unfold RV
  exact ⟨D, by rw [← r4.len]; simp, rfl⟩
theorem ok_dictB (C : Cok X R W G call nm) (hc : X.calm = true) {es : Es} {p pos : Pos} {pe : Expr} (hg : L2.Gl X "dict") (hn : noStar pe = true) (he : OkEs X R W G call es [pe]) :
    OkE X R W G call (.bi .dict es) (.Call (.Name "dict" p) [pe] [] pos) := fun as s hs σ H Q r h => by
  unfold evE at h
  have b1 : bootBuiltins "dict" = some (.type "dict") := by decide +kernel
  have b2 : ("dict" : Str) ≠ "__name__" := by decide +kernel
  have b3 : (("dict" : Str) == ("__debug__" : Str)) = false := by decide +kernel
  refine WpE.of (pe_callTy (WCa.r X _) hg (C.blt _ (by decide +kernel)) b1 (WpA.pa X _) b2 b3 (star_one hn) (star_any (pes := []) rfl)) ?_
  refine he as s hs σ H _ r (h.bind.imp fun vs hs1 as1 H1 p1 k1 r1 h xs hxs => ?_)
  have hx : (∃ n, vs = [.ref n]) ∨ biV .dict vs hs1 = .no := by
    cases vs with
    | nil => exact .inr rfl
    | cons a r =>
      cases r with
      | nil => cases a <;> first | exact .inl ⟨_, rfl⟩ | exact .inr rfl
      | cons b c => exact .inr (by cases a <;> rfl)
  rcases hx with ⟨n, rfl⟩ | hx
  rotate_left
  · rw [hx] at h; exact h.elim
  unfold RVs at hxs
  obtain ⟨z, t, rfl, q1, q2⟩ := hxs
  unfold RVs at q2
  subst q2
  unfold RV at q1
  obtain ⟨d, ed, rfl⟩ := q1
  have h : Pst R W s σ (KV1 R Q) as1 H1 (match Kn.listAt hs1 n with
    | some vs => (match Kn.pairs vs with
      | some ps => Kn.new hs1 (.dict (dPuts [] ps))
      | none => .no)
    | none => (match Kn.dictAt hs1 n with
      | some kvs => if Nat.ble kvs.length 8 && kvs.all (fun q => isStrV q.1) then Kn.new hs1 (.dict (dPuts [] kvs)) else .no
      | none => .no)) := h
  split at h
  · rename_i ws e1
    split at h
    · rename_i ps ep
      exact dictP_ok hc C.hK C.hw C.hu r1 e1 ed ep h
    · exact h.elim
  · split at h
    · rename_i kvs e1
      split at h
      · rename_i so
        rw [Bool.and_eq_true] at so
        exact dictD_ok C.hK C.hw C.hu r1 e1 ed (Nat.le_of_ble_eq_true so.1) so.2 h
      · exact h.elim
    · exact h.elim
end
end Kn
namespace Kn
open PySem L2 KnK PyProof.Rows
/-- the turn's end: the dict aside at D gets an entry -/
def EndD (R : Rp) (D : Addr) (Nx : Hp → Prop) (y z : V) (H : Hp) : Prop := ∃ as l kvs k v, H D = some (DX R.w D l) ∧ RKv R as H kvs l ∧ (l.map (·.1)).Nodup ∧ kvs.length < sizeLine ∧ isKey k = true ∧ RV R as H k y ∧ RV R as H v z ∧ ∀ l', RKv R as H (dPut kvs k v) l' → (l'.map (·.1)).Nodup → Nx (upd H D (DX R.w D l'))
def tDN (R : Rp) (wi : TI) (g : TG) (tk tv : TE) (vs : List Nat) : TE := fun σ H Q => wi σ H fun J H1 => ∀ D, H1 D = none → ∃ Wd : Nat → Nat → Hp → Prop, (∃ m, Wd 0 m (upd H1 D (DX R.w D []))) ∧ ∀ i m H, Wd i m H →
  (J.stop i H ∧ Q (.ref D) H) ∨ (J.go i H ∧ ∃ Nx : Hp → Prop, (∀ H', Nx H' → ∃ m', m' < m ∧ Wd (i + 1) m' H') ∧ ∀ x H', J.yld i H x H' → g x (wipe σ vs) H' fun σ2 H2 => wipe σ2 vs = wipe σ vs ∧ tk σ2 H2 fun y H4 => tv σ2 H4 fun z H5 => EndD R D Nx y z H5)
section
variable {X : Cx}
theorem dn_core {R : Rp} {pins : List (Addr × PySem.Obj)} {s0 : Shared} {σ : L2.St} {H : Hp} {Q : VK} {kx vx tg iter : Expr} {scope : Scope} {own : List (Str × Nat)} {pos pos' : Pos} {wi : TI} {g : TG} {tk tv : TE} {use : Option (Value → Sem Unit)} {Qf : Value → Shared → Prop}
    (hK : X.K = R.K) (hw : X.w = R.w) (hu : X.A.units + 100 < cLine) (calm : X.calm = true) (ndN : X.N.Nodup) (I0 : Inv X pins σ H s0) (pi : PI X tg iter wi) (ok : BlkOk X.N X.env.scope scope own)
    (pg : ∀ (s : Shared) (H : Hp) (C : Addr) (cl : List (Str × Addr)) (fp : List Addr), PG (X.blk s H scope (compEnvC scope cl C X.env) fp) tg g)
    (pk : ∀ (s : Shared) (H : Hp) (C : Addr) (cl : List (Str × Addr)) (fp : List Addr), PE (X.blk s H scope (compEnvC scope cl C X.env) fp) kx tk)
    (pv : ∀ (s : Shared) (H : Hp) (C : Addr) (cl : List (Str × Addr)) (fp : List Addr), PE (X.blk s H scope (compEnvC scope cl C X.env) fp) vx tv) (fs : ∀ x, foldedSetIterable iter X.env x = pure x)
    (h : tDN R wi g tk tv (own.map (·.2)) σ H Q)
    (hRR : ∀ D C s' m H', Inv X pins σ H' s' → Q (.ref D) H' → s'.heap.Ns C m → FpOk X pins H' C → compPost (model X.prog X.w) X.A X.xe use Qf (.ref D) C (.ok .next) s') :
    wpAny (model X.prog X.w) X.A (comprehension (.DictComp kx vx [⟨tg, iter, [], 0⟩] scope pos) scope X.env pos' newDict false (eval iter X.env) use) Qf X.xe s0 := by
  have frees : ∀ y ∈ scope.names, y.2 = .free → ∃ c, X.env.cells.lookup y.1 = some c := fun y hy e => by
    rcases ok.free y hy e with z | z
    · exact I0.ok.has _ (.inl z)
    · exact I0.ok.has _ (.inr z)
  refine wpAny_comprehension_free (use := use) rfl fs (closure_ok frees) ok.kind (fun y hy e => by rw [ok.uniq y hy, e])
    (thn (pi.run pins s0 σ H _ I0 h) fun xv s1 hx => thn hx fun itv s2 h2 => ?_)
  obtain ⟨it, fp, tn, J, Hb, e, Ib, T, stb, fb, q⟩ := h2
  subst e
  refine wpAny_newObj_type (newEnv_comp ?_)
  generalize hD : s2.heap.objs.size = D
  obtain ⟨nD, Ic⟩ := inv_dictD hw Ib hD
  obtain ⟨Wd, ⟨m0, w0⟩, turn⟩ := q D nD
  generalize hsc : ({ s2 with heap := s2.heap.push { cls := .type "dict", data := .dict #[] } } : Shared) = sc at Ic
  have hsh : sc.heap = s2.heap.push { cls := .type "dict", data := .dict #[] } := by rw [← hsc]
  have below : ∀ b ∈ fp, b < s2.heap.objs.size := fun b hb => by
    obtain ⟨o, e, _⟩ := T.obj _ _ stb b hb
    exact Heap.lt_size e
  have fc : ∀ b ∈ fp, FpOk X pins (upd Hb D (DX R.w D [])) b ∧ b < sc.heap.objs.size := fun b hb => by
    have hlt := below b hb
    refine ⟨⟨?_, (fb b hb).2⟩, by rw [hsh, Heap.size_push]; exact Nat.lt_succ_of_lt hlt⟩
    rw [upd_ne (by rw [← hD]; exact Nat.ne_of_lt hlt)]
    exact (fb b hb).1
  have stc : tn 0 sc.heap := T.keep _ _ _ stb fun b _ o e => by rw [hsh]; exact Heap.get?_push_of_some _ e
  have Id := block_start Ic ok ndN fc
  have pg1 := pg sc (upd Hb D (DX R.w D [])) sc.heap.objs.size (cellsFrom (sc.heap.objs.size + 1) scope.names (cloFrom X.env.cells scope.names [])) fp
  have pk1 := pk sc (upd Hb D (DX R.w D [])) sc.heap.objs.size (cellsFrom (sc.heap.objs.size + 1) scope.names (cloFrom X.env.cells scope.names [])) fp
  have pv1 := pv sc (upd Hb D (DX R.w D [])) sc.heap.objs.size (cellsFrom (sc.heap.objs.size + 1) scope.names (cloFrom X.env.cells scope.names [])) fp
  show codeAny _ _ (.compStart (.DictComp kx vx [⟨tg, iter, [], 0⟩] scope pos) 0 (.ref it) (.ref D) (compEnvC scope (cellsFrom (sc.heap.objs.size + 1) scope.names (cloFrom X.env.cells scope.names [])) sc.heap.objs.size X.env)) (compPost (model X.prog X.w) X.A X.xe use Qf (.ref D) sc.heap.objs.size) { sc with heap := pushCells (sc.heap.push { cls := .type "dict", data := .dict #[] }) scope.names }
  have nfp : ∀ b ∈ fp, (upd Hb D (DX R.w D [])) b = none := fun b hb => (fc b hb).1.1
  generalize hce : compEnvC scope (cellsFrom (sc.heap.objs.size + 1) scope.names (cloFrom X.env.cells scope.names [])) sc.heap.objs.size X.env = ce at Id pg1 pk1 pv1 ⊢
  have cL : ce.locals = sc.heap.objs.size := by subst hce; rfl
  generalize hHc : upd Hb D (DX R.w D []) = Hc at Ic Id pg1 pk1 pv1 w0 nfp fc
  generalize hsd : ({ sc with heap := pushCells (sc.heap.push { cls := .type "dict", data := .dict #[] }) scope.names } : Shared) = sd at Id ⊢
  have std : tn 0 sd.heap := T.keep _ _ _ stc fun b _ o e => by rw [← hsd]; exact pushCells_keeps _ _ _ _ (Heap.get?_push_of_some _ e)
  have aside : ∀ {σ' : L2.St} {H' : Hp} {s' : Shared}, Inv (X.blk sc Hc scope ce fp) [] σ' H' s' → (∀ b ∈ fp, H' b = none) → ∀ b ∈ fp, FpOk (X.blk sc Hc scope ce fp) [] H' b := fun {σ' H' s'} I' hn b hb =>
    ⟨hn b hb, (I'.ok.exf b hb).1, I'.ok.exfs b hb, .inl hb, fun x c e => (I'.ok.exf b hb).2 x c e, fun p hp => absurd (show p ∈ ([] : List (Addr × PySem.Obj)) ++ [] from hp) (by simp)⟩
  have loop : codeAny (model X.prog X.w) X.A (.compLoop (.DictComp kx vx [⟨tg, iter, [], 0⟩] scope pos) 0 (.ref it) (.ref D) ce) (compPost (model X.prog X.w) X.A X.xe use Qf (.ref D) sc.heap.objs.size) sd := by
    refine compLoop_anyD (fun n s' => ∃ i H', Inv (X.blk sc Hc scope ce fp) [] (wipe σ (own.map (·.2))) H' s' ∧ tn i s'.heap ∧ (∀ b ∈ fp, H' b = none) ∧ Wd i n H') ?_ m0 ⟨0, Hc, Id, std, nfp, w0⟩
    rintro n se ⟨i, He, Ie, ste, ne, we⟩
    rcases turn i n He we with ⟨stop, qq⟩ | ⟨go, Nx, hNx, step⟩
    · have td := T.done (X.blk sc Hc scope ce fp) rfl rfl rfl calm i [] se _ He (fun _ _ => False) Ie (aside Ie ne) ste stop
      refine thnF td fun r sf ⟨hr, If⟩ => ?_
      subst hr
      have Ig : Inv X pins σ He sf := Ic.call' (ch := fp) If.os If.base If.hok If.bare fun b hb => ⟨(fc b hb).1.2.2.2.1, (fc b hb).1.2.1, (fc b hb).1.2.2.2.2.1, (fc b hb).1.2.2.2.2.2⟩
      have nC : He sc.heap.objs.size = none := by
        have z : He ce.locals = none := If.free
        rw [cL] at z
        exact z
      obtain ⟨m, hn, _⟩ := If.loc
      have hn : sf.heap.Ns ce.locals m := hn
      rw [cL] at hn
      exact hRR D sc.heap.objs.size sf m He Ig qq hn (Ic.fpOk (Nat.le_refl _) nC)
    · have ti := T.item (X.blk sc Hc scope ce fp) rfl rfl rfl calm i [] se _ He (fun _ _ => False) Ie (aside Ie ne) ste go
      refine thnF ti fun r sf ⟨u, hr, hf⟩ => ?_
      subst hr
      refine thnF hf fun _ sg ⟨x, Hg, Ig, rg, yg, stg, ng⟩ => ?_
      have Ig' := Ig.pinned (aside Ig ng) (T.obj _ _ stg)
      refine thnF (pg1.run _ sg _ Hg x u _ Ig' rg (step x Hg yg)) fun _ sh ⟨σh, Hh, Ih, hwh, qh⟩ => ?_
      have fin : ∀ {s' : Shared} {H' : Hp}, Inv (X.blk sc Hc scope ce fp) ([] ++ pinsAt fp sg.heap) σh H' s' → Nx H' → ∃ m, m < n ∧ ∃ i H', Inv (X.blk sc Hc scope ce fp) [] (wipe σ (own.map (·.2))) H' s' ∧ tn i s'.heap ∧ (∀ b ∈ fp, H' b = none) ∧ Wd i m H' := fun {s' H'} I' nx => by
        obtain ⟨m', hm, w'⟩ := hNx H' nx
        have pin' : ∀ b ∈ fp, ∀ o, sg.heap.get? b = some o → s'.heap.get? b = some o ∧ H' b = none := fun b hb o e =>
          let z := I'.pin (b, o) (List.mem_append_right _ (List.mem_append_right _ (mem_pinsAt hb e)))
          ⟨z.1, z.2.1⟩
        have hl : (wipe σ (own.map (·.2))).length = σh.length := by rw [← hwh, wipe_length]
        refine ⟨m', hm, i + 1, H', (I'.unpinned (pins := [])).weak hl (fun j v e => ?_), T.keep _ _ _ stg fun b hb o e => (pin' b hb o e).1, fun b hb => ?_, w'⟩
        · rw [← hwh] at e
          exact (wipe_some e).1
        · obtain ⟨o, e, _⟩ := T.obj _ _ stg b hb
          exact (pin' b hb o e).2
      refine wpAny_pure ?_
      simp only [if_true]
      refine thnF (pk1.run _ sh σh Hh _ Ih qh) fun z si ⟨yk, Hi, Ii, ri, qi⟩ => ?_
      refine thnF (pv1.run _ si σh Hi _ Ii qi) fun z2 sj ⟨yv, Hj, Ij, rj, as, l, kvs, k, v, hDj, rk, nd, hz, ik, r1, r2, nx⟩ => ?_
      exact dset_ok (X := X.blk sc Hc scope ce fp) hK hw hu Ij hDj rk nd hz ik r1 r2 ri rj fun l' sk a b Ik => fin Ik (nx l' a b)
  exact codeAny_compStart_dict loop (T.self X.A 0 _ _ _ std loop)
theorem pe_dn {R : Rp} {kx vx tg iter : Expr} {scope : Scope} {own : List (Str × Nat)} {pos : Pos} {wi : TI} {g : TG} {tk tv : TE} (hK : X.K = R.K) (hw : X.w = R.w) (hu : X.A.units + 100 < cLine) (calm : X.calm = true) (ndN : X.N.Nodup) (pi : PI X tg iter wi) (ok : BlkOk X.N X.env.scope scope own)
    (pg : ∀ (s : Shared) (H : Hp) (C : Addr) (cl : List (Str × Addr)) (fp : List Addr), PG (X.blk s H scope (compEnvC scope cl C X.env) fp) tg g)
    (pk : ∀ (s : Shared) (H : Hp) (C : Addr) (cl : List (Str × Addr)) (fp : List Addr), PE (X.blk s H scope (compEnvC scope cl C X.env) fp) kx tk)
    (pv : ∀ (s : Shared) (H : Hp) (C : Addr) (cl : List (Str × Addr)) (fp : List Addr), PE (X.blk s H scope (compEnvC scope cl C X.env) fp) vx tv) (fs : ∀ x, foldedSetIterable iter X.env x = pure x) :
    PE X (.DictComp kx vx [⟨tg, iter, [], 0⟩] scope pos) (tDN R wi g tk tv (own.map (·.2))) := by
  refine ⟨fun pins s σ H Q I h => ?_⟩
  rw [arm_eval_DictComp]
  refine dn_core hK hw hu calm ndN I pi ok pg pk pv fs h fun D C s' m H' I' q hn f => ⟨m, hn, fun h'' sb => ?_⟩
  obtain ⟨f0, f1, f2, f3, f4, f5⟩ := f
  exact ⟨.ref D, H', I'.turned (t' := s'.toks) (fun b o hb e => (sb.2 b hb).trans e) f0 f1 f3 f4 f5, rfl, q⟩
end
section
variable {X : Cx}
theorem ps_setDn {R : Rp} {i : Nat} {y : Str} {py : Pos} {kx vx tg iter : Expr} {scope : Scope} {own : List (Str × Nat)} {pos spos : Pos} {wi : TI} {g : TG} {tk tv : TE} (hK : X.K = R.K) (hw : X.w = R.w) (hu : X.A.units + 100 < cLine) (calm : X.calm = true) (ndN : X.N.Nodup) (hy : X.N[i]? = some y) (hyl : X.env.scope.names.lookup y = some .local)
    (hsw : swapsWith (.DictComp kx vx [⟨tg, iter, [], 0⟩] scope pos) (some (.Name y py)) spos.line X.env = pure true) (pi : PI X tg iter wi) (ok : BlkOk X.N X.env.scope scope own)
    (pg : ∀ (s : Shared) (H : Hp) (C : Addr) (cl : List (Str × Addr)) (fp : List Addr), PG (X.blk s H scope (compEnvC scope cl C X.env) fp) tg g)
    (pk : ∀ (s : Shared) (H : Hp) (C : Addr) (cl : List (Str × Addr)) (fp : List Addr), PE (X.blk s H scope (compEnvC scope cl C X.env) fp) kx tk)
    (pv : ∀ (s : Shared) (H : Hp) (C : Addr) (cl : List (Str × Addr)) (fp : List Addr), PE (X.blk s H scope (compEnvC scope cl C X.env) fp) vx tv) (fs : ∀ x, foldedSetIterable iter X.env x = pure x) :
    PS X (.Assign [.Name y py] (.DictComp kx vx [⟨tg, iter, [], 0⟩] scope pos) spos) (tAsg (tDN R wi g tk tv (own.map (·.2))) (gName i)) := by
  refine ⟨fun pins s σ H D I h => ?_⟩
  rw [exec_Assign_Name_used _ _ _ _ hsw]
  refine wpAny_bind (wpAny_standAt (wpAny_bind ?_))
  show wpAny _ X.A (do let _ ← comprehension (.DictComp kx vx [⟨tg, iter, [], 0⟩] scope pos) scope X.env (firstIterPos [⟨tg, iter, [], 0⟩] pos) newDict false (eval iter X.env) (some (assign (.Name y py) X.env))) _ _ s
  have h : tDN R wi g tk tv (own.map (·.2)) σ H (fun x H1 => gName i x σ H1 D.nx) := h
  refine wpAny_bind (thn (dn_core (Qf := fun _ s' => SP X pins D .next s') hK hw hu calm ndN I pi ok pg pk pv fs h fun L C s' m H' I' q hn f => ?_) fun _ s' hq => wpAny_pure (wpAny_pure hq))
  show wpAny _ _ (assign (.Name y py) X.env (.ref L)) _ _ _
  refine wpAny_assign_Name (store_ok2 (v := V.ref L) I' ndN hy (.inl hyl) rfl (fun s2 I2 ⟨a, sb, ha⟩ => ?_) (.inr hyl))
  obtain ⟨f0, f1, f2, f3, f4, f5⟩ := f
  have haC : C ≠ a := by
    rcases ha with z | z
    · rw [z]; exact f1
    · exact fun e => f4 y a z e.symm
  refine ⟨m, hn.sameBut sb haC, fun h3 sb3 => ?_⟩
  exact ⟨_, H', I2.turned (t' := s2.toks) (fun b o hb e => (sb3.2 b hb).trans e) f0 f1 f3 f4 f5, q⟩
end
section
variable {X : Cx} {R : Rp} {W : WX} {G : Glo} {call : CallF} {nm : Nm}
theorem upd_id {H : Hp} {D : Addr} {u : HO} (h : H D = some u) : upd H D u = H := by
  funext a
  by_cases z : a = D
  · subst z; rw [upd_same, h]
  · rw [upd_ne z]
theorem dPuts_snoc : ∀ (ps : List (Val × Val)) (kvs : List (Val × Val)) (k v : Val), dPuts kvs (ps ++ [(k, v)]) = dPut (dPuts kvs ps) k v
  | [], kvs, k, v => rfl
  | (a, b) :: r, kvs, k, v => dPuts_snoc r (dPut kvs a b) k v
theorem dPut_len (k v : Val) : ∀ kvs : List (Val × Val), (dPut kvs k v).length ≤ kvs.length + 1
  | [] => Nat.le_refl _
  | (a, b) :: r => by
    unfold dPut
    split
    · simp
    · simp only [List.length_cons]
      have := dPut_len k v r
      omega
theorem dPuts_len : ∀ (ps kvs : List (Val × Val)), (dPuts kvs ps).length ≤ kvs.length + ps.length
  | [], kvs => by simp [dPuts]
  | (a, b) :: r, kvs => by
    have h1 := dPuts_len r (dPut kvs a b)
    have h2 := dPut_len a b kvs
    simp only [dPuts, List.length_cons]
    omega
def prV (p : Val × Val) : Val := .tup [p.1, p.2]
theorem pairs_inv : ∀ {vs : List Val} {ps : List (Val × Val)}, Kn.pairs vs = some ps → vs = ps.map prV ∧ ∀ p ∈ ps, isKey p.1 = true
  | [], _, h => by cases h; exact ⟨rfl, fun p hp => by cases hp⟩
  | v :: r, ps, h => by
    unfold Kn.pairs at h
    split at h
    · rename_i heq; cases heq
    · rename_i heq
      cases heq
      split at h
      · rename_i ik
        obtain ⟨t, ht, rfl⟩ := Option.map_eq_some_iff.mp h
        obtain ⟨h1, h2⟩ := pairs_inv ht
        exact ⟨by rw [h1]; rfl, fun p hp => (List.mem_cons.mp hp).elim (fun z => by rw [z]; exact ik) (h2 p)⟩
      · cases h
    · cases h
theorem prV_inj : ∀ {a b : List (Val × Val)}, a.map prV = b.map prV → a = b
  | [], [], _ => rfl
  | [], _ :: _, h => by cases h
  | _ :: _, [], h => by cases h
  | (x, y) :: r, (z, w) :: t, h => by
    simp only [List.map_cons, List.cons.injEq, prV, Val.tup.injEq, List.cons.injEq, and_true] at h
    obtain ⟨⟨h1, h2⟩, h3⟩ := h
    subst h1 h2
    rw [prV_inj h3]
theorem ok_dcompGo (C : Cok X R W G call nm) (hk : ∀ f vs h, KO h (call f vs h)) {k v : E} {tg : Tg} {it : Kn.It} {pk pv ptg piter : Expr} {scope : Scope} {own : List (Str × Nat)}
    (hi : OkI X R W G call it ptg piter) (ok : BlkOk X.N X.env.scope scope own) (hown : own.map (·.2) = tgSlots tg)
    (hg : ∀ s H c cl fp, OkG (BX X scope s H c cl fp) R tg ptg) (he1 : ∀ fz s H c cl fp, OkE (BX X scope s H c cl fp) (R.wf fz) WF G call k pk) (he2 : ∀ fz s H c cl fp, OkE (BX X scope s H c cl fp) (R.wf fz) WF G call v pv)
    (hgf : ∀ fz s H c cl fp, OkG (BX X scope s H c cl fp) (R.wf fz) tg ptg) : ∀ as s hs σ H Q, RS R as s hs σ H → Pst R W s σ (KV1 R Q) as H (evE G call (.dcomp k v tg it) s hs) →
    tDN R (WpI X ptg piter) (gB X scope ptg) (eB X scope pk) (eB X scope pv) (own.map (·.2)) σ H (fun v H2 => ∃ H3, UnH X H2 H3 ∧ Q v H3) := fun as s hs σ H Q r h => by
  unfold evE at h
  refine hi as s hs σ H _ r (h.bind.imp fun src hs1 as1 H1 p1 k1 r1 h J Hl lk sw D nD => ?_)
  rw [hown]
  have tk := dcompTurn_k (ek := fun s h => evE G call k s h) (ev := fun s h => evE G call v s h) (fun s h => evE_k (G := G) hk k s h) (fun s h => evE_k (G := G) hk v s h) tg s
  generalize hf : dcompTurn (fun s h => evE G call k s h) (fun s h => evE G call v s h) tg s = f at h tk
  split at h
  rotate_left
  · exact h.elim
  rename_i vs h2 hgo
  split at h
  rotate_left
  · exact h.elim
  rename_i ps hps
  split at h
  rotate_left
  · exact h.elim
  rename_i hsm
  obtain ⟨hvs, hkeys⟩ := pairs_inv hps
  have hlen : ps.length ≤ sizeLine := by
    have := Nat.le_of_ble_eq_true hsm
    rw [hvs, List.length_map] at this
    rw [sizeLine_eq]; exact this
  have hfz : R.fzn D = none := (lk.rh.pl (u := DX R.w D []) nD).2.1
  let Pv : Nat → Hp → Prop := fun i H => ∃ as' hs' ps1 ps2 l, PfxA as1 as' ∧ Kp R Hl H ∧ RH (R.pl D (DX R.w D l)) as' hs' H ∧ RKv R as' H (dPuts [] ps1) l ∧ (l.map (·.1)).Nodup ∧ Fz (lkd src hs1) hs' ∧ ps = ps1 ++ ps2 ∧ dcompGo f (src.items.drop i) hs' = .ok (ps2.map prV) h2
  refine ⟨fun i m H => m = src.items.length - i ∧ i ≤ src.items.length ∧ Pv i H, ⟨src.items.length, by simp, Nat.zero_le _, ?_⟩, ?_⟩
  · exact ⟨as1, lkd src hs1, [], ps, [], PfxA.refl, Kp.new nD, (lk.rh.pl nD).1, rfl, List.nodup_nil, Fz.refl, rfl, by rw [← hvs]; exact hgo⟩
  · rintro i m H' ⟨rfl, hil, as', hs', ps1, ps2, l, pp, k', rp, rk, nd, fz, eps, go⟩
    obtain ⟨r', hDl, hn⟩ := rp.unpl hfz
    have kps := Kps.of lk.ok fz
    by_cases hlt : i < src.items.length
    rotate_left
    · have ei : i = src.items.length := by omega
      subst ei
      rw [List.drop_length] at go
      unfold dcompGo at go
      have e2 : ps2 = [] := by
        cases ps2 with
        | nil => rfl
        | cons a b => simp at go
      subst e2
      have eh : hs' = h2 := by
        cases go; rfl
      subst eh
      rw [List.append_nil] at eps
      subst eps
      refine .inl ⟨sw.stops as' hs' H' pp k' r' kps, ?_⟩
      obtain ⟨H3, un, kt, kp3, ru, _⟩ := lk.un as' hs' H' pp k' r' fz
      refine ⟨H3, un, ?_⟩
      have hD3 : H3 D = some (DX R.w D l) := by
        rcases un with rfl | ⟨d, od, u, hd, _, rfl⟩
        · exact hDl
        · have z : D ≠ d := fun z => by
            subst z
            rw [hDl] at hd
            cases hd
          rw [upd_ne z]; exact hDl
      have ru2 : RH R (as' ++ [D]) (unlkd src hs1 hs' ++ [.dict (dPuts [] ps)]) H3 := by
        have := ru.adopt (o := .dict (dPuts [] ps)) (u := DX R.w D l) hD3 trivial hfz hn ⟨l, rfl, by rw [upd_id hD3]; exact RKv.monoT PfxA.snoc kt _ _ rk, nd⟩
        rw [upd_id hD3] at this
        exact this
      refine h (as' ++ [D]) H3 (pp.trans PfxA.snoc) kp3 (r1.to (pp.trans PfxA.snoc) kp3 ru2) _ ?_
      unfold RV
      exact ⟨D, by rw [← ru.len]; simp, rfl⟩
    · refine .inr ⟨sw.goes as' hs' H' i pp k' r' kps hlt, Pv (i + 1), fun H'' q => ⟨_, by omega, rfl, by omega, q⟩, fun x H'' y => ?_⟩
      have ev : src.items[i]? = some src.items[i] := by simp [hlt]
      obtain ⟨_, _, vy⟩ := sw.ylds as' hs' H' i _ x H'' pp k' r' kps ev y
      have eH := sw.same _ _ _ _ y
      subst eH
      rw [List.drop_eq_getElem_cons hlt] at go
      unfold dcompGo at go
      generalize hv : src.items[i] = z at go ev vy
      have tkv := tk z hs'
      subst hf
      cases et : dcompTurn (fun s h => evE G call k s h) (fun s h => evE G call v s h) tg s z hs' with
      | no => rw [et] at go; cases go
      | ex c h' => rw [et] at go; cases go
      | ok w h' =>
      rw [et] at go tkv
      unfold dcompTurn at et
      cases es2 : tgSet tg z s hs' with
      | none => rw [es2] at et; cases et
      | some s2 =>
      rw [es2] at et
      obtain ⟨to, tl⟩ := tgSet_eq es2
      intro s0 H0 c0 cl0 fp0
      refine hg s0 H0 c0 cl0 fp0 as' hs' _ H'' z x _ r' vy to (sets_len tl) fun xs hxs => ⟨wipe_sets, fun s0 H0 c0 cl0 fp0 => ?_⟩
      have rs2 : RS R as' s2 hs' (setsL (wipe σ (tgSlots tg)) (tgSlots tg) xs) H'' := RS.turnW (r1.to pp (lk.kp.trans k') r') es2 hxs
      have rs3 : RS (R.pl D (DX R.w D l)) as' s2 hs' (setsL (wipe σ (tgSlots tg)) (tgSlots tg) xs) H'' := ⟨rp, rs2.len, fun i v e => let ⟨x, e1, e2⟩ := rs2.val i v e; ⟨x, e1, e2.wf⟩⟩
      simp only at et
      cases e1 : evE G call k s2 hs' with
      | no => simp only [e1] at et; cases et
      | ex c h' => simp only [e1] at et; cases et
      | ok a hs3 =>
      simp only [e1] at et
      cases e2 : evE G call v s2 hs3 with
      | no => simp only [e2] at et; cases et
      | ex c h' => simp only [e2] at et; cases et
      | ok b hs4 =>
      simp only [e2] at et
      cases et
      refine he1 _ s0 H0 c0 cl0 fp0 as' s2 hs' _ H'' _ rs3 ?_
      rw [e1]
      intro as2 H2 p2 k2 r2 kx hkx s0 H0 c0 cl0 fp0
      refine he2 _ s0 H0 c0 cl0 fp0 as2 s2 hs3 _ H2 _ r2 ?_
      rw [e2]
      intro as3 H3 p3 k3 r3 vx hvx
      obtain ⟨r3', hD3, hn3⟩ := r3.h.unpl hfz
      -- what is left
      simp only at go
      cases e3 : dcompGo (dcompTurn (fun s h => evE G call k s h) (fun s h => evE G call v s h) tg s) (List.drop (i + 1) src.items) h' with
      | no => rw [e3] at go; cases go
      | ex c h' => rw [e3] at go; cases go
      | ok vs3 h3 =>
      rw [e3] at go
      simp only [Out.ok.injEq] at go
      obtain ⟨g1, g2⟩ := go
      subst g2
      cases ps2 with
      | nil => cases g1
      | cons p ps3 =>
      obtain ⟨pa, pb⟩ := p
      simp only [List.map_cons, List.cons.injEq, prV, Val.tup.injEq, and_true] at g1
      obtain ⟨⟨rfl, rfl⟩, g3⟩ := g1
      have ik : isKey a = true := hkeys (a, b) (by rw [eps]; simp)
      have kk : Kp R H'' H3 := Kp.trans (R := R) ⟨k2.t, k2.z⟩ ⟨k3.t, k3.z⟩
      have rk3 : RKv R as3 H3 (dPuts [] ps1) l := RKv.mono (p2.trans p3) kk _ _ rk
      refine ⟨as3, l, dPuts [] ps1, a, b, hD3, rk3, nd, ?_, ik, RV.mono (R := R) p3 ⟨k3.t, k3.z⟩ _ _ hkx.uf, hvx.uf, fun l' rl nl => ?_⟩
      · have e4 := dPuts_len ps1 []
        have e5 : ps.length = ps1.length + (ps3.length + 1) := by rw [eps]; simp
        simp at e4
        omega
      · have kw : Kp R H3 (upd H3 D (DX R.w D l')) := Kp.write hD3 trivial
        have r4 := r3'.rewr (u := DX R.w D l') hD3 trivial hfz hn3
        refine ⟨as3, h', ps1 ++ [(a, b)], ps3, l', pp.trans (p2.trans p3), k'.trans (kk.trans kw), ?_, ?_, nl, fz.trans tkv, by rw [eps]; simp, by rw [e3, g3]⟩
        · refine ⟨r4.len, r4.nd, fun q w e => ?_, fun q hq => ?_, fun n o e => let ⟨a, u', e1, e2, e3⟩ := r4.obj n o e; ⟨a, u', e1, e2, e3.wf⟩⟩
          · have e : (if q = D then some (DX R.w D l') else R.fzn q) = some w := e
            by_cases z : q = D
            · rw [if_pos z] at e
              rw [z, upd_same]; exact e
            · rw [if_neg z] at e
              exact r4.fz q w e
          · show (if q = D then some (DX R.w D l') else R.fzn q) = none
            have z : q ≠ D := fun z => hn3 (by rw [← z]; exact hq)
            rw [if_neg z]
            exact r4.nf q hq
        · rw [dPuts_snoc]
          exact RKv.mono PfxA.refl kw _ _ rl
theorem ok_dc (C : Cok X R W G call nm) (hcl : X.calm = true) (hk : ∀ f vs h, KO h (call f vs h)) {k v : E} {tg : Tg} {it : Kn.It} {pk pv ptg piter : Expr} {scope : Scope} {own : List (Str × Nat)} {pos : Pos}
    (hi : OkI X R W G call it ptg piter) (ok : BlkOk X.N X.env.scope scope own) (hown : own.map (·.2) = tgSlots tg)
    (hg : ∀ fz s H c cl fp, OkG (BX X scope s H c cl fp) (R.wf fz) tg ptg) (hg0 : ∀ s H c cl fp, OkG (BX X scope s H c cl fp) R tg ptg) (he1 : ∀ fz s H c cl fp, OkE (BX X scope s H c cl fp) (R.wf fz) WF G call k pk) (he2 : ∀ fz s H c cl fp, OkE (BX X scope s H c cl fp) (R.wf fz) WF G call v pv)
    (hs : ∀ x, foldedSetIterable piter X.env x = pure x) : OkE X R W G call (.dcomp k v tg it) (.DictComp pk pv [⟨ptg, piter, [], 0⟩] scope pos) := fun as s hs' σ H Q r h => by
  refine WpE.un (WpE.of (pe_dn C.hK C.hw C.hu hcl C.nd (WpI.pi X ptg piter) ok (fun s0 H0 c cl fp => gB_ok) (fun s0 H0 c cl fp => eB_ok) (fun s0 H0 c cl fp => eB_ok) hs) ?_)
  exact ok_dcompGo C hk hi ok hown hg0 he1 he2 hg as s hs' σ H Q r h
theorem oks_setDc (C : Cok X R W G call nm) (hcl : X.calm = true) (hk : ∀ f vs h, KO h (call f vs h)) {i : Nat} {y : Str} {py : Pos} {k v : E} {tg : Tg} {it : Kn.It} {pk pv ptg piter : Expr} {scope : Scope} {own : List (Str × Nat)} {pos spos : Pos}
    (hN : X.N[i]? = some y) (hyl : X.env.scope.names.lookup y = some .local) (hsw : swapsWith (.DictComp pk pv [⟨ptg, piter, [], 0⟩] scope pos) (some (.Name y py)) spos.line X.env = pure true)
    (hi : OkI X R W G call it ptg piter) (ok : BlkOk X.N X.env.scope scope own) (hown : own.map (·.2) = tgSlots tg)
    (hg : ∀ fz s H c cl fp, OkG (BX X scope s H c cl fp) (R.wf fz) tg ptg) (hg0 : ∀ s H c cl fp, OkG (BX X scope s H c cl fp) R tg ptg) (he1 : ∀ fz s H c cl fp, OkE (BX X scope s H c cl fp) (R.wf fz) WF G call k pk) (he2 : ∀ fz s H c cl fp, OkE (BX X scope s H c cl fp) (R.wf fz) WF G call v pv)
    (hs : ∀ x, foldedSetIterable piter X.env x = pure x) : OkS X R W G call (.asg (.name i) (.dcomp k v tg it)) (.Assign [.Name y py] (.DictComp pk pv [⟨ptg, piter, [], 0⟩] scope pos) spos) := fun as s hs' σ H D r h => by
  unfold exS at h
  refine WpS.un (WpS.of (ps_setDn C.hK C.hw C.hu hcl C.nd hN hyl hsw (WpI.pi X ptg piter) ok (fun s0 H0 c cl fp => gB_ok) (fun s0 H0 c cl fp => eB_ok) (fun s0 H0 c cl fp => eB_ok) hs) ?_)
  refine ok_dcompGo C hk hi ok hown hg0 he1 he2 hg as s hs' σ H (fun v H3 => D.nx (σ.set i (some v)) H3) r (h.bind.imp fun v hs1 as1 H1 p1 k1 r1 h x hx => ?_)
  exact h as1 _ H1 PfxA.refl Kp.refl (r1.set hx i)
end
end Kn
namespace Kn
open PySem L2 KnK PyProof.Rows
theorem uniq_mem : ∀ {l : List Val} {v : Val}, v ∈ uniq l ↔ v ∈ l
  | [], v => by simp [uniq]
  | x :: r, v => by
    unfold uniq
    rw [List.mem_cons, List.mem_cons, List.mem_filter, uniq_mem (l := r)]
    constructor
    · rintro (h | h)
      · exact .inl h
      · exact .inr h.1
    · rintro (h | h)
      · exact .inl h
      · by_cases e : vEq x v = true
        · exact .inl (vEq_iff.mp e).symm
        · exact .inr ⟨h, by simpa using e⟩
theorem uniq_nd : ∀ l : List Val, (uniq l).Nodup
  | [] => List.nodup_nil
  | x :: r => by
    unfold uniq
    refine List.nodup_cons.mpr ⟨fun h => ?_, (uniq_nd r).filter _⟩
    have := (List.mem_filter.mp h).2
    rw [vEq_self] at this
    cases this
theorem srt_eq {m : Md} {l k : List Val} (h : l.Perm k) (hc : ∀ v ∈ l, Cf m v) : srt l = srt k := by
  have e : (srt l).map kVal = (srt k).map kVal := srt_keys (((srt_perm l).trans h).map kVal) (List.pairwise_map.mpr ((srt_srtd l).imp fun {a b} q => by rw [ltB_eq] at q; exact q))
  have h1 : ∀ v ∈ srt l, Cf m v := fun v hv => hc v ((srt_perm l).mem_iff.mp hv)
  have h2 : ∀ v ∈ srt k, Cf m v := fun v hv => hc v (h.mem_iff.mpr ((srt_perm k).mem_iff.mp hv))
  generalize srt l = a at e h1
  generalize srt k = b at e h2
  induction a generalizing b with
  | nil =>
    cases b with
    | nil => rfl
    | cons _ _ => cases e
  | cons x r ih =>
    cases b with
    | nil => cases e
    | cons y t =>
      simp only [List.map_cons, List.cons.injEq] at e
      rw [kVal_inj (h1 x (by simp)) (h2 y (by simp)) e.1, ih (fun v hv => h1 v (by simp [hv])) t e.2 (fun v hv => h2 v (by simp [hv]))]
theorem flTup_key {v : Val} (h : flTup v = true) : isKey v = true := by
  cases v <;> simp only [flTup] at h <;> first | (cases h; done) | skip
  rename_i vs
  show vs.all (isKeyD 5) = true
  rw [List.all_eq_true] at h ⊢
  intro x hx
  have := h x hx
  cases x <;> simp only [flIt] at this <;> first | (cases this; done) | rfl
theorem sameSh_fl : ∀ {sh : List Bool} {us : List Val}, sameSh sh us = true → us.all flIt = true
  | [], [], _ => rfl
  | [], _ :: _, h => by cases h
  | _ :: _, [], h => by cases h
  | b :: r, v :: t, h => by
    unfold sameSh at h
    rw [Bool.and_eq_true] at h
    rw [List.all_cons, Bool.and_eq_true]
    refine ⟨?_, sameSh_fl h.2⟩
    cases v <;> simp [shI] at h <;> rfl
theorem Cf.kind {m : Md} {v : Val} (h : Cf m v) : (∃ t, v = .str t ∧ m = .s) ∨ (flTup v = true ∧ ∃ sh, m = .t sh) := by
  cases m with
  | s =>
    have h : isStrV v = true := h
    cases v <;> simp [isStrV] at h
    exact .inl ⟨_, rfl, rfl⟩
  | t sh =>
    have h : tupSh sh v = true := h
    cases v <;> simp [tupSh] at h
    exact .inr ⟨sameSh_fl h, sh, rfl⟩
section
variable {X : Cx} {R : Rp} {W : WX} {G : Glo} {call : CallF} {nm : Nm} {as : List Addr} {s : St} {hs : Hs} {σ : L2.St} {H : Hp} {Q : VK}
theorem RVs.all_sc {as : List Addr} {H : Hp} : ∀ {us : List Val} {xs : List V} {its : List Value}, us.all flIt = true → RVs R as H us xs → Vals xs its → ∀ v ∈ its, v.scannable = true
  | [], _, _, _, r, q, v, hv => by unfold RVs at r; subst r; cases q; cases hv
  | u :: us, _, _, h, r, q, v, hv => by
    unfold RVs at r
    obtain ⟨x, t, rfl, r1, r2⟩ := r
    rw [List.all_cons, Bool.and_eq_true] at h
    cases q with
    | cons q1 q2 =>
      rcases List.mem_cons.mp hv with rfl | hv
      · cases u <;> simp only [flIt] at h <;> first | (cases h.1; done) | skip
        · unfold RV at r1; subst r1; obtain ⟨tk, rfl⟩ := q1; rfl
        · unfold RV at r1; obtain ⟨rfl, _⟩ := r1; obtain ⟨tk, rfl⟩ := q1; rfl
      · exact RVs.all_sc h.2 r2 q2 v hv
theorem key_T {pins : List (Addr × PySem.Obj)} {σ : L2.St} {sh : Shared} (hK : X.K = R.K) (I : Inv X pins σ H sh) {v : Val} {x : V} {u : Value} (h : flTup v = true) (r : RV R as H v x) (q : RelV x u) : KeyT sh.heap (nk v) u := by
  refine ⟨key_is hK I 6 v x u (flTup_key h) r q, isKey_depth (flTup_key h), ?_⟩
  cases v <;> simp only [flTup] at h <;> first | (cases h; done) | skip
  unfold RV at r
  obtain ⟨a, xs, rfl, sq, rs⟩ := r
  rw [← hK] at sq
  obtain ⟨its, rv, ⟨o, ho, hc, n, hd⟩, _⟩ := I.tuple sq
  exact ⟨a, o, its.toArray, n, q, ho, hc, hd, fun v hv => RVs.all_sc h rs rv v (by simpa using hv)⟩
/-- what is known of a set made of a list -/
structure MadeOf (R : Rp) (as : List Addr) (H : Hp) (ws : List Val) (L : List Nat) (us : List Value) : Prop where
  vals : ∃ ys, RVs R as H (L.map fun i => ws.getD i .non) ys ∧ Vals ys us
  perm : (L.map fun i => ws.getD i .non).Perm (uniq ws)
theorem wf_get {ws : List Val} {i : Nat} (h : i < ws.length) : ws.getD i .non = ws[i] := by simp [h]
theorem made_of {ws : List Val} {ys : List V} {its : List Value} {L : List Nat} (rv : RVs R as H ws ys) (vv : Vals ys its) (hk : ∀ v ∈ ws, isKey v = true) (nd : (L.map fun i => nk (ws.getD i .non)).Nodup) (g : Had (fun i => nk (ws.getD i .non)) ws.length L) : MadeOf R as H ws L (L.map fun i => its.getD i .none) := by
  have hlt : ∀ i ∈ L, i < ws.length := g.sub
  have hly : ys.length = ws.length := rv.len.symm
  have hli : its.length = ws.length := by rw [← vv.length, hly]
  refine ⟨⟨L.map fun i => ys.getD i .non, ?_, ?_⟩, ?_⟩
  · clear nd g
    induction L with
    | nil => exact RVs.nil
    | cons i r ih =>
      have hi := hlt i (by simp)
      refine RVs.cons ?_ (ih fun j hj => hlt j (by simp [hj]))
      obtain ⟨x, e1, e2⟩ := rv.get (i := i) (v := ws[i]) (by simp [hi])
      have : ys.getD i .non = x := by simp [List.getD_eq_getElem?_getD, e1]
      show RV R as H (ws.getD i .non) (ys.getD i .non)
      rw [wf_get hi, this]
      exact e2
  · clear nd g
    induction L with
    | nil => exact .nil
    | cons i r ih =>
      have hi := hlt i (by simp)
      refine .cons ?_ (ih fun j hj => hlt j (by simp [hj]))
      obtain ⟨u, e1, e2⟩ := vv.get (i := i) (x := ys[i]'(by omega)) (by simp [show i < ys.length by omega])
      have e3 : ys.getD i .non = ys[i]'(by omega) := by simp [show i < ys.length by omega]
      have e4 : its.getD i .none = u := by simp [List.getD_eq_getElem?_getD, e1]
      show RelV (ys.getD i .non) (its.getD i .none)
      rw [e3, e4]
      exact e2
  · have n1 : (L.map fun i => ws.getD i .non).Nodup := by
      have : (L.map fun i => nk (ws.getD i .non)) = (L.map fun i => ws.getD i .non).map nk := by rw [List.map_map]; rfl
      rw [this] at nd
      exact List.Pairwise.of_map nk (fun _ _ hne e => hne (congrArg nk e)) nd
    refine (List.perm_ext_iff_of_nodup n1 (uniq_nd ws)).mpr fun v => ?_
    rw [uniq_mem]
    constructor
    · intro h
      obtain ⟨i, hi, rfl⟩ := List.mem_map.mp h
      rw [wf_get (hlt i hi)]
      exact List.getElem_mem _
    · intro h
      obtain ⟨j, hj, ej⟩ := List.getElem_of_mem h
      obtain ⟨i, hi, ei⟩ := List.mem_map.mp (g.all j hj)
      have h1 := hk (ws.getD i .non) (by rw [wf_get (hlt i hi)]; exact List.getElem_mem _)
      have h2 := hk (ws.getD j .non) (by rw [wf_get hj]; exact List.getElem_mem _)
      have := nk_inj 6 6 _ _ h1 h2 ei
      refine List.mem_map.mpr ⟨i, hi, ?_⟩
      rw [this, wf_get hj, ej]
/-- set(xs) -/
theorem set_call (hK : X.K = R.K) (hw : X.w = R.w) (hu : X.A.units + 100 < cLine) (hc : X.calm = true) {pins : List (Addr × PySem.Obj)} {σ : L2.St} {sh : Shared} (I : Inv X pins σ H sh) {p : Addr} {ws : List Val} {ys : List V} (f2 : SqL R.K H p ys) (f3 : RVs R as H ws ys) (hn : ws.length < 64)
    (hk : (∀ v ∈ ws, flTup v = true) ∨ (∀ v ∈ ws, ∃ t, v = .str t)) {Q : Value → Shared → Prop}
    (h : ∀ (h' : Heap) (tk : Nat) L us es ep t, (∀ b o, sh.heap.get? b = some o → h'.get? b = some o) → MadeOf R as H ws L us → (∃ o, h'.get? sh.heap.objs.size = some o ∧ o.ExactSet ∧ o.data = .set es ep t) → es.toList.map (·.2) = us → t.fits es.size = true → Ris t.place.toList → (X.w.params.followText "set-order" = true ∨ t.led = true) → es.size < 64 → Q (.ref sh.heap.objs.size) { sh with heap := h', toks := tk }) :
    wpAny (model X.prog X.w) X.A (PySem.call (.type "set") [.ref p]) Q X.xe sh := by
  rw [← hK] at f2
  obtain ⟨its, rv, hl, hz⟩ := I.list f2
  have hly : ys.length = ws.length := f3.len.symm
  have hli : its.length = ws.length := by rw [← rv.length, hly]
  have hkey : ∀ v ∈ ws, isKey v = true := fun v hv => by
    rcases hk with hk | hk
    · exact flTup_key (hk v hv)
    · obtain ⟨t, rfl⟩ := hk v hv; rfl
  have at_ : ∀ i, i < ws.length → ∃ x, RV R as H (ws.getD i .non) x ∧ RelV x (its.getD i .none) := fun i hi => by
    obtain ⟨x, e1, e2⟩ := f3.get (i := i) (v := ws[i]) (by simp [hi])
    obtain ⟨u, e3, e4⟩ := rv.get e1
    exact ⟨x, by rw [wf_get hi]; exact e2, by rw [List.getD_eq_getElem?_getD, e3]; exact e4⟩
  have kk : (∀ i, i < its.toArray.size → KeyT sh.heap (nk (ws.getD i .non)) (its.getD i .none)) ∨ TxtF its.toArray.size (fun i => nk (ws.getD i .non)) (fun i => its.getD i .none) := by
    rcases hk with hk | hk
    · refine .inl fun i hi => ?_
      have hi : i < ws.length := by simpa [hli] using hi
      obtain ⟨x, r1, r2⟩ := at_ i hi
      exact key_T hK I (hk _ (by rw [wf_get hi]; exact List.getElem_mem _)) r1 r2
    · refine .inr fun i hi => ?_
      have hi : i < ws.length := by simpa [hli] using hi
      obtain ⟨x, r1, r2⟩ := at_ i hi
      obtain ⟨t, et⟩ := hk (ws.getD i .non) (by rw [wf_get hi]; exact List.getElem_mem _)
      rw [et] at r1
      unfold RV at r1
      obtain ⟨rfl, _⟩ := r1
      obtain ⟨tk, e⟩ := r2
      exact ⟨toS t, tk, by simp only [et]; rfl, e⟩
  refine call_setG (P := X.prog) (w := X.w) (kf := fun i => nk (ws.getD i .non)) (uf := fun i => its.getD i .none) (I.ok.hd hc) hl.isList (fun i v hv => ?_) (by simpa [hli] using hn) kk (by omega) fun h' tk L es ep t k0 RG g => ?_
  · rw [← Array.getElem?_toList] at hv
    simp only [List.getD_eq_getElem?_getD]
    have hv : its[i]? = some v := by simpa using hv
    rw [hv]; rfl
  · have g : Had (fun i => nk (ws.getD i .non)) ws.length L := by simpa [hli] using g
    refine h h' tk L _ es ep t k0 (made_of f3 rv hkey RG.nd g) RG.ob ?_ RG.fit RG.ris RG.led (by rw [RG.size]; exact RG.few)
    rw [RG.rows]
    unfold rowN
    rw [List.map_map]
    rfl
theorem one_ref {vs : List Val} {hs : Hs} {b : Bi} (hb : b = .lenSet ∨ b = .sortedSet) : (∃ n, vs = [.ref n]) ∨ biV b vs hs = .no := by
  rcases hb with rfl | rfl
  all_goals
    cases vs with
    | nil => exact .inr rfl
    | cons a r =>
      cases r with
      | nil => cases a <;> first | exact .inl ⟨_, rfl⟩ | exact .inr rfl
      | cons b c => exact .inr (by cases a <;> rfl)
/-- len(set(xs)) -/
theorem ok_lenSet (C : Cok X R W G call nm) (hc : X.calm = true) {e : E} {p p2 q2 pos : Pos} {pe : Expr} (hg : L2.Gl X "len") (hg2 : L2.Gl X "set") (hn : noStar pe = true) (he : OkE X R W G call e pe) :
    OkE X R W G call (.bi .lenSet (.cons e .nil)) (.Call (.Name "len" p) [.Call (.Name "set" p2) [pe] [] q2] [] pos) := fun as s hs σ H Q r h => by
  unfold evE at h
  intro pins sh I
  have na := star_one (pe := pe) (pes := []) (env := X.env) hn
  refine PyProof.Rows.Call_ (ld_blt I hg (C.blt _ (by decide +kernel)) PySem.boot_len ?_)
  refine PyProof.Rows.callWith_builtin1 (PyProof.Rows.args_cons ?_ rfl) rfl rfl
  refine PyProof.Rows.Call_ (ld_blt I hg2 (C.blt _ (by decide +kernel)) PyProof.Rows.boot_set ?_)
  refine PyProof.Rows.callWith_type1 (PyProof.Rows.args_cons (thn (he as s hs σ H (fun x H1 => ∃ as1 hs1 n d ws ys, x = .ref d ∧ RS R as1 s hs1 σ H1 ∧ Kn.listAt hs1 n = some ws ∧ SqL R.K H1 d ys ∧ RVs R as1 H1 ws ys ∧ (ws.all flTup && Nat.blt ws.length 64) = true ∧ Q (.int (uniq ws).length) H1) r (?_) pins sh I) fun v s1 ⟨x, H1, I1, r1, q1⟩ => PyProof.Rows.args_nil ?_) na) na rfl
  · have h := h.bind
    unfold evEs at h
    refine h.bind.imp fun v hs1 as1 H1 p1 k1 r1 h x hx => ?_
    unfold evEs at h
    have h : Pst R W s σ (KV1 R Q) as1 H1 (biV .lenSet [v] hs1) := h as1 H1 PfxA.refl Kp.refl r1
    rcases one_ref (vs := [v]) (hs := hs1) (b := .lenSet) (.inl rfl) with ⟨n, e1⟩ | e1
    · cases e1
      unfold RV at hx
      obtain ⟨d, ed, rfl⟩ := hx
      have h : Pst R W s σ (KV1 R Q) as1 H1 (match Kn.listAt hs1 n with
        | some vs => if vs.all flTup && Nat.blt vs.length 64 then .ok (.int (uniq vs).length) hs1 else .no
        | none => .no) := h
      split at h
      · rename_i ws e1
        obtain ⟨d', ys, f1, f2, f3⟩ := r1.h.listAt e1
        rw [ed] at f1; cases f1
        split at h
        · rename_i so
          exact ⟨as1, hs1, n, d, ws, ys, rfl, r1, e1, f2, f3, so, h.here r1 (by unfold RV; rfl)⟩
        · exact h.elim
      · exact h.elim
    · rw [e1] at h; exact h.elim
  · obtain ⟨as1, hs1, n, d, ws, ys, rfl, rs1, e1, f2, f3, so, q⟩ := q1
    obtain rfl : v = .ref d := r1
    rw [Bool.and_eq_true, List.all_eq_true] at so
    have hlt : ws.length < 64 := Nat.lt_of_succ_le (Nat.le_of_ble_eq_true so.2)
    refine set_call C.hK C.hw C.hu hc I1 f2 f3 hlt (.inl so.1) fun h' tk L us es ep t k0 M ⟨o, ho, hex, hd⟩ hes hf hr hl hz => ?_
    refine PyProof.Rows.args_nil ?_
    have I2 : Inv X pins σ H1 { s1 with heap := h', toks := tk } := I1.kept k0
    have hsz : es.size = (uniq ws).length := by
      rw [← M.perm.length_eq, List.length_map]
      obtain ⟨ys', y1, y2⟩ := M.vals
      have a1 := y2.length
      have a2 := y1.len
      have a3 : us.length = es.size := by rw [← hes, List.length_map]; exact Array.length_toList
      rw [List.length_map] at a2
      omega
    exact call_len_set ho hex hd hf (by omega) ⟨.int (uniq ws).length, H1, I2.tok _, ⟨_, by rw [hsz]⟩, q⟩
/-- sorted(set(xs)) -/
theorem ok_sortedSet (C : Cok X R W G call nm) (hc : X.calm = true) {e : E} {p p2 q2 pos : Pos} {pe : Expr} (hg : L2.Gl X "sorted") (hg2 : L2.Gl X "set") (hn : noStar pe = true) (he : OkE X R W G call e pe) :
    OkE X R W G call (.bi .sortedSet (.cons e .nil)) (.Call (.Name "sorted" p) [.Call (.Name "set" p2) [pe] [] q2] [] pos) := fun as s hs σ H Q r h => by
  unfold evE at h
  intro pins sh I
  have na := star_one (pe := pe) (pes := []) (env := X.env) hn
  refine PyProof.Rows.Call_ (ld_blt I hg (C.blt _ (by decide +kernel)) PyProof.Rows.boot_sorted ?_)
  refine PyProof.Rows.callWith_builtin1 (PyProof.Rows.args_cons ?_ rfl) rfl rfl
  refine PyProof.Rows.Call_ (ld_blt I hg2 (C.blt _ (by decide +kernel)) PyProof.Rows.boot_set ?_)
  refine PyProof.Rows.callWith_type1 (PyProof.Rows.args_cons (thn (he as s hs σ H (fun x H1 => ∃ as1 hs1 n d ws ys, x = .ref d ∧ RS R as1 s hs1 σ H1 ∧ Kn.listAt hs1 n = some ws ∧ SqL R.K H1 d ys ∧ RVs R as1 H1 ws ys ∧ (sortOk ws && Nat.blt ws.length 64) = true ∧ Pst R W s σ (KV1 R Q) as1 H1 (Kn.new hs1 (.list (srt (uniq ws))))) r (?_) pins sh I) fun v s1 ⟨x, H1, I1, r1, q1⟩ => PyProof.Rows.args_nil ?_) na) na rfl
  · have h := h.bind
    unfold evEs at h
    refine h.bind.imp fun v hs1 as1 H1 p1 k1 r1 h x hx => ?_
    unfold evEs at h
    have h : Pst R W s σ (KV1 R Q) as1 H1 (biV .sortedSet [v] hs1) := h as1 H1 PfxA.refl Kp.refl r1
    rcases one_ref (vs := [v]) (hs := hs1) (b := .sortedSet) (.inr rfl) with ⟨n, e1⟩ | e1
    · cases e1
      unfold RV at hx
      obtain ⟨d, ed, rfl⟩ := hx
      have h : Pst R W s σ (KV1 R Q) as1 H1 (match Kn.listAt hs1 n with
        | some vs => if sortOk vs && Nat.blt vs.length 64 then Kn.new hs1 (.list (srt (uniq vs))) else .no
        | none => .no) := h
      split at h
      · rename_i ws e1
        obtain ⟨d', ys, f1, f2, f3⟩ := r1.h.listAt e1
        rw [ed] at f1; cases f1
        split at h
        · rename_i so
          exact ⟨as1, hs1, n, d, ws, ys, rfl, r1, e1, f2, f3, so, h⟩
        · exact h.elim
      · exact h.elim
    · rw [e1] at h; exact h.elim
  · obtain ⟨as1, hs1, n, d, ws, ys, rfl, rs1, e1, f2, f3, so, q⟩ := q1
    obtain rfl : v = .ref d := r1
    rw [Bool.and_eq_true] at so
    have hlt : ws.length < 64 := Nat.lt_of_succ_le (Nat.le_of_ble_eq_true so.2)
    obtain ⟨m, hm, hcf⟩ := sortOk_md so.1
    have kinds : (∀ v ∈ ws, flTup v = true) ∨ (∀ v ∈ ws, ∃ t, v = .str t) := by
      cases m with
      | s =>
        refine .inr fun v hv => ?_
        rcases (hcf v hv).kind with ⟨t, e, _⟩ | ⟨_, sh, e⟩
        · exact ⟨t, e⟩
        · cases e
      | t sh =>
        refine .inl fun v hv => ?_
        rcases (hcf v hv).kind with ⟨t, _, e⟩ | ⟨e, _⟩
        · cases e
        · exact e
    refine set_call C.hK C.hw C.hu hc I1 f2 f3 hlt kinds fun h' tk L us es ep t k0 M ⟨o, ho, hex, hd⟩ hes hf hr hl hz => ?_
    refine PyProof.Rows.args_nil ?_
    have I2 : Inv X pins σ H1 { s1 with heap := h', toks := tk } := I1.kept k0
    -- the set's members, sorted
    refine Calls.call_function_entry kind_sorted plain_sorted entry_sorted (args_sorted1 _) ?_
    unfold Builtin.«sorted»
    refine wpAny_bind (m := checkCount "sorted" 1 1 _) (wpAny_pure ?_)
    refine wpAny_bind (collect_set (A := X.A.in1) (I2.ok.hd hc) ⟨o, ho, hex.1, hd⟩ hf (by unfold scanBound; omega) hr hl fun s2 out k1 hsz g1 o1 pm => ?_)
    rw [hes] at pm
    obtain ⟨ys', y1, y2⟩ := M.vals
    -- the members in the order in which they came
    have ord : ∃ (ws2 : List Val) (ys2 : List V), RVs R as1 H1 ws2 ys2 ∧ Vals ys2 out ∧ ws2.Perm (uniq ws) := by
      have : ∀ {us out : List Value}, out.Perm us → ∀ {ws' : List Val} {ys' : List V}, RVs R as1 H1 ws' ys' → Vals ys' us → ∃ (ws2 : List Val) (ys2 : List V), RVs R as1 H1 ws2 ys2 ∧ Vals ys2 out ∧ ws2.Perm ws' := by
        intro us out pp
        induction pp with
        | nil => intro ws' ys' a b; exact ⟨ws', ys', a, b, .refl _⟩
        | cons x _ ih =>
          intro ws' ys' a b
          cases b with
          | cons b1 b2 =>
            cases ws' with
            | nil => unfold RVs at a; cases a
            | cons w' wr =>
              unfold RVs at a
              obtain ⟨x', t', e, a1, a2⟩ := a
              cases e
              obtain ⟨w2, z2, c1, c2, c3⟩ := ih a2 b2
              exact ⟨w' :: w2, _ :: z2, RVs.cons a1 c1, .cons b1 c2, c3.cons _⟩
        | swap x y l =>
          intro ws' ys' a b
          cases b with
          | cons b1 b2 =>
            cases b2 with
            | cons b3 b4 =>
              cases ws' with
              | nil => unfold RVs at a; cases a
              | cons w' wr =>
                unfold RVs at a
                obtain ⟨x', t', e, a1, a2⟩ := a
                cases e
                cases wr with
                | nil => unfold RVs at a2; cases a2
                | cons w'' wr =>
                  unfold RVs at a2
                  obtain ⟨x'', t'', e, a3, a4⟩ := a2
                  cases e
                  exact ⟨w'' :: w' :: wr, _ :: _ :: _, RVs.cons a3 (RVs.cons a1 a4), .cons b3 (.cons b1 b4), .swap ..⟩
        | trans _ _ ih1 ih2 =>
          intro ws' ys' a b
          obtain ⟨w2, z2, c1, c2, c3⟩ := ih2 a b
          obtain ⟨w3, z3, d1, d2, d3⟩ := ih1 c1 c2
          exact ⟨w3, z3, d1, d2, d3.trans c3⟩
      obtain ⟨w2, z2, c1, c2, c3⟩ := this pm y1 y2
      exact ⟨w2, z2, c1, c2, c3.trans M.perm⟩
    obtain ⟨ws2, ys2, z1, z2, zp⟩ := ord
    have cf2 : ∀ v ∈ ws2, Cf m v := fun v hv => hcf v (uniq_mem.mp (zp.mem_iff.mp hv))
    rw [← srt_eq zp cf2] at q
    have hlo : out.length < 64 := by
      rw [pm.length_eq, ← hes, List.length_map, Array.length_toList]; exact hz
    obtain ⟨io0, ir0⟩ := itsOk_of C.hK I2 hm cf2 z1 z2
    have kt : ∀ a ob, h'.get? a = some ob → ob.cls = .type "tuple" → s2.heap.get? a = some ob := fun a ob e _ => k1 a ob e
    have io := io0.keep kt
    have ir : ∀ u ∈ out, ∃ v ∈ ws2, ∃ x, RelV x u ∧ RV R as1 H1 v x ∧ ItOk s2.heap m v u := fun u hu => by
      obtain ⟨v, a1, x, a2, a3, a4⟩ := ir0 u hu
      exact ⟨v, a1, x, a2, a3, a4.keep kt⟩
    refine wpAny_bind (wpAny_newList ?_ (by rw [sizeLine_eq]; omega))
    have hoL : (s2.heap.push (seqObj "list" out.toArray 0)).get? s2.heap.objs.size = some (seqObj "list" out.toArray 0) := Heap.get?_push_size _ rfl
    refine wpAny_bind (wpAny_holding (wpAny_call_entry slot_list_sort ⟨_, hoL, rfl⟩ entry_list_sort (SrtO.list_sort_ord (swoK (kvOf s2.heap m)) hoL (by rw [sizeLine_eq]; omega) (fun h2 => its_sortable io h2 fun b o e => ⟨Nat.ne_of_lt (Heap.lt_size e), Heap.get?_push_of_some _ e⟩) fun out2 w1 w2 => ⟨_, rfl, ?_⟩) (args_list_sort _)))
    obtain ⟨zs, v1, v2⟩ := out_rel io cf2 ir w1 w2
    obtain ⟨n', hn'⟩ := sortedHeap_at (out := out2.toArray) hoL
    refine wpAny_pure ⟨_, rfl, ?_⟩
    have kall : ∀ b ob, s1.heap.get? b = some ob → (sortedHeap (s2.heap.push (seqObj "list" out.toArray 0)) s2.heap.objs.size out out2.toArray).get? b = some ob := fun b ob e => by
      have e2 := k1 b ob (k0 b ob e)
      have hb := Heap.lt_size e2
      rw [sortedHeap_old (Nat.ne_of_lt hb) (by rw [size_push']; exact Nat.lt_succ_of_lt hb)]
      exact Heap.get?_push_of_some _ e2
    have hge : s1.heap.objs.size ≤ s2.heap.objs.size := by
      refine Nat.le_trans ?_ hsz
      show s1.heap.objs.size ≤ h'.objs.size
      exact Nat.le_of_lt (Heap.lt_size ho)
    have hf1 : H1 s2.heap.objs.size = none := I1.hok.fresh hge
    have hlen : zs.length ≤ sizeLine := by rw [v1.length, w2.len, sizeLine_eq]; omega
    have J : Inv X pins σ (upd H1 s2.heap.objs.size (.lst zs)) { s1 with heap := sortedHeap (s2.heap.push (seqObj "list" out.toArray 0)) s2.heap.objs.size out out2.toArray, gens := s2.gens, drawn := s2.drawn, toks := s2.toks } :=
      I1.call (ch := []) (Un.laid kall hge hf1) (I1.hok.laid kall hge ⟨hlen, out2, n', v1, hn'⟩) (by rw [g1]; exact I1.bare) (fun _ z => nomatch z)
    have e9 : ({ s2 with heap := sortedHeap (s2.heap.push (seqObj "list" out.toArray 0)) s2.heap.objs.size out out2.toArray } : Shared) = { s1 with heap := sortedHeap (s2.heap.push (seqObj "list" out.toArray 0)) s2.heap.objs.size out out2.toArray, gens := s2.gens, drawn := s2.drawn, toks := s2.toks } := by
      cases s2
      cases s1
      cases o1
      rfl
    rw [e9]
    exact ⟨.ref s2.heap.objs.size, _, J, rfl, Pst.new q rs1 hf1 ⟨_, rfl, v2⟩⟩
end
end Kn
namespace Kn
open PySem L2 KnK
/-- what is known of the place -/
structure Ck where
  N : List Str
  sc : Scope
  cells : List Str
  calm : Bool
structure Cxt (k : Ck) (X : Cx) : Prop where
  hN : X.N = k.N
  hsc : X.env.scope = k.sc
  hcalm : k.calm = true → X.calm = true
  hcell : ∀ x ∈ k.cells, X.fn x = true
  kind : X.env.scope.kind = .function
def notDbg (x : Str) : Bool := !(x == ("__debug__" : Str)) && !(x == ("__classdict__" : Str))
def visB (k : Ck) (x : Str) : Bool := match k.sc.names.lookup x with
  | some .local => true
  | some .cell => true
  | some .free => true
  | _ => false
def varB (k : Ck) (i : Nat) (x : Str) : Bool := decide (k.N[i]? = some x) && visB k x && notDbg x
def glB (k : Ck) (x : Str) : Bool := match k.sc.names.lookup x with
  | some .globalImplicit => true
  | _ => false
def stoB (k : Ck) (i : Nat) (x : Str) : Bool := decide (k.N[i]? = some x) && (match k.sc.names.lookup x with
  | some .local => true
  | some .cell => k.cells.contains x
  | _ => false)
section
variable {k : Ck} {X : Cx}
theorem visB_ok (c : Cxt k X) {x : Str} (h : visB k x = true) : Vis X.env.scope x := by
  unfold visB at h
  rw [← c.hsc] at h
  unfold Vis
  split at h
  · rename_i e; exact .inl e
  · rename_i e; exact .inr (.inl e)
  · rename_i e; exact .inr (.inr e)
  · cases h
theorem varB_ok (c : Cxt k X) {i : Nat} {x : Str} (h : varB k i x = true) : X.N[i]? = some x ∧ Vis X.env.scope x ∧ (x == ("__debug__" : Str)) = false ∧ (x == ("__classdict__" : Str)) = false := by
  unfold varB notDbg at h
  simp only [Bool.and_eq_true, Bool.not_eq_true', decide_eq_true_eq] at h
  exact ⟨by rw [c.hN]; exact h.1.1, visB_ok c h.1.2, h.2.1, h.2.2⟩
theorem glB_ok (c : Cxt k X) {x : Str} (h : glB k x = true) : Gl X x := by
  unfold glB at h
  rw [← c.hsc] at h
  split at h
  · rename_i e; exact e
  · cases h
theorem stoB_ok (c : Cxt k X) {i : Nat} {x : Str} (h : stoB k i x = true) : X.N[i]? = some x ∧ VarOk X x := by
  unfold stoB at h
  rw [Bool.and_eq_true, decide_eq_true_eq] at h
  refine ⟨by rw [c.hN]; exact h.1, ?_⟩
  have h2 := h.2
  rw [← c.hsc] at h2
  split at h2
  · rename_i e; exact .inl e
  · rename_i e; exact .inr ⟨e, c.hcell x (by simpa using h2)⟩
  · cases h2
end
def litB : Val → PySem.Const → Bool
  | .non, .none => true
  | .bl a, .bool b => a == b
  | .int i, .int j => decide (i = j)
  | .str t, .str x => decide (x = toS t) && decide (t.length ≤ 1000) && t.all (fun c => Nat.blt c 1114112)
  | _, _ => false
def opB : Op → Operator → Bool
  | .add, .Add => true
  | .sub, .Sub => true
  | .mul, .Mult => true
  | .mod, .Mod => true
  | .fdiv, .FloorDiv => true
  | .pow, .Pow => true
  | _, _ => false
theorem opB_ok {o : Op} {p : Operator} (h : opB o p = true) : p = opT o := by
  cases o <;> cases p <;> first | rfl | cases h
def cmB (c : Cm) (p : CmpOp) : Bool := decide (p = cmT c)
def ixB : Expr → Bool
  | .Name .. => true
  | .Constant .. => true
  | .BinOp .. => true
  | .Call .. => true
  | .Subscript .. => true
  | .Tuple .. => true
  | .UnaryOp .. => true
  | .IfExp .. => true
  | .Attribute .. => true
  | _ => false
def tstB : Nat → Expr → Bool
  | _, .Name .. => true
  | _, .Call .. => true
  | _, .Subscript .. => true
  | _, .Attribute .. => true
  | _, .Compare .. => true
  | n + 1, .BoolOp _ l _ => l.all (tstB n)
  | n + 1, .UnaryOp .Not a _ => tstB n a
  | _, _ => false
def fsB : Expr → Bool
  | .Set .. => false
  | _ => true
theorem fsB_ok {e : Expr} {env : Env} (h : fsB e = true) : ∀ x, foldedSetIterable e env x = pure x := by
  intro x
  cases e <;> first | rfl | cases h
def gB1 (k : Ck) : List Nat → List Expr → Bool
  | [], [] => true
  | j :: r, .Name x _ :: t => stoB k j x && gB1 k r t
  | _, _ => false
def tgB (k : Ck) (tg : Tg) (p : Expr) : Bool := match tg, p with
  | .name i, .Name x _ => stoB k i x
  | .tup js, .Tuple es _ _ => k.calm && gB1 k js es
  | _, _ => false
/-- an index: a name, or a name less a number -/
def ijB (k : Ck) (i : E) (p : Expr) : Bool := match i, p with
  | .var i, .Name n _ => varB k i n
  | .bin .sub (.var i) (.lit (.int c)), .BinOp (.Name n _) .Sub (.Constant (.int d) _ _) _ => varB k i n && decide (c = d)
  | _, _ => false
def ownOf (k : Ck) (js : List Nat) : List (Str × Nat) := js.map fun j => (k.N[j]?.getD "", j)
def cellsOf (sc : Scope) : List Str := sc.names.filterMap fun (n, q) => match q with
  | .cell => some n
  | _ => none
def Ck.blk (k : Ck) (scope : Scope) : Ck := ⟨k.N, relS scope k.sc, (cellsOf scope).filter fun x => scope.names.lookup x == some .cell, k.calm⟩
section
variable (G : Glo) (nm : Nm)
def fnNB (k : Ck) (n : Nat) : List Nat → List Expr → Bool
  | [], [] => true
  | f :: r, .Name x _ :: t => decide (nm.fn[f]? = some x) && glB k x && (match G.fns[f]? with
    | some F => Nat.beq n F.pars
    | none => false) && fnNB k n r t
  | _, _ => false
def isN : E → Bool
  | .lit .non => true
  | _ => false
def mthB (m n : Nat) : Bool := G.cls.all fun c => match alist c.meths m with
  | some f => (match G.fns[f]? with
    | some F => Nat.beq F.pars (n + 1)
    | none => false)
  | none => true
mutual
def chkE (k : Ck) : E → Expr → Bool
  | .var i, p => (match p with
    | .Name x _ => varB k i x
    | _ => false)
  | .lit v, p => (match p with
    | .Constant c _ _ => litB v c
    | _ => false)
  | .glob g, p => (G.cst[g]?).isNone || (match p with
    | .Name x _ => decide (nm.cst[g]? = some x) && glB k x
    | _ => false)
  | .tup es, p => (match p with
    | .Tuple pes _ _ => chkEs k es pes && Nat.ble pes.length 1000
    | _ => false)
  | .lst es, p => (match p with
    | .List pes _ => chkEs k es pes && Nat.ble pes.length 1000
    | _ => false)
  | .dct es, p => (match es, p with
    | .nil, .Dict [] [] _ => true
    | .cons a (.cons b .nil), .Dict [some pa] [pb] _ => chkE k a pa && chkE k b pb
    | _, _ => false)
  | .bin o a b, p => (match p with
    | .BinOp pa p pb _ => opB o p && chkE k a pa && chkE k b pb
    | _ => false)
  | .cmp c a b, p => (match p with
    | .Compare pa [p] [pb] _ => cmB c p && !(behindInMarks p pb) && chkE k a pa && chkE k b pb
    | _ => false)
  | .chain c d a b e, p => (match p with
    | .Compare pa [p, q] [pb, pe] _ => cmB c p && cmB d q && !(lastMarks [p, q] [pb, pe]) && chkE k a pa && chkE k b pb && chkE k e pe
    | _ => false)
  | .nee a, p => (match p with
    | .Compare pa [.NotEq] [.Dict [] [] _] _ => chkE k a pa
    | _ => false)
  | .nil n a, p => (match p with
    | .Compare pa [q] [.List [] _] _ => decide (q = nlT n) && chkE k a pa
    | _ => false)
  | .and a b, p => (match p with
    | .BoolOp .And l pos => (match l with
    | [pa, pb] => chkE k a pa && chkE k b pb
    | pa :: pb :: pc :: r => chkE k a pa && chkE k b (.BoolOp .And (pb :: pc :: r) pos)
    | _ => false)
    | _ => false)
  | .or a b, p => (match p with
    | .BoolOp .Or l pos => (match l with
    | [pa, pb] => chkE k a pa && chkE k b pb
    | pa :: pb :: pc :: r => chkE k a pa && chkE k b (.BoolOp .Or (pb :: pc :: r) pos)
    | _ => false)
    | _ => false)
  | .orV a b, p => (match p with
    | .BoolOp .Or [pa, .Constant q j r] _ => chkE k a pa && chkE k b (.Constant q j r)
    | _ => false)
  | .not a, p => (match p with
    | .UnaryOp .Not pa _ => chkE k a pa
    | _ => false)
  | .neg a, p => (match p with
    | .UnaryOp .USub pa _ => chkE k a pa
    | _ => false)
  | .ite c a b, p => (match p with
    | .IfExp pc pa pb _ => tstB 8 pc && chkE k c pc && chkE k a pa && chkE k b pb
    | _ => false)
  | .idx a i, p => (match p with
    | .Subscript pa pi _ => ixB pi && chkE k a pa && chkE k i pi
    | _ => false)
  | .slc a lo hi, p => (match p with
    | .Subscript pa (.Slice pl ph none _) _ => chkE k a pa && chkO k lo pl && chkO k hi ph
    | _ => false)
  | .call f es, p => (match p with
    | .Call (.Name x _) pes [] _ => k.calm && decide (nm.fn[f]? = some x) && glB k x && pes.all noStar && (match G.fns[f]? with
    | some F => Nat.beq es.len F.pars
    | none => false) && chkEs k es pes
    | _ => false)
  | .callOf fs i es, p => (match p with
    | .Call (.Subscript (.List pns _) pi _) (pe :: pes) [] _ => k.calm && fnNB G nm k es.len fs pns && Nat.ble pns.length 1000 && ijB k i pi && (pe :: pes).all noStar && chkEs k es (pe :: pes)
    | _ => false)
  | .bi b es, p => (match p with
    | .Call (.Name x _) (pe :: pes) [] _ => (k.calm && okBi b && decide (x = biN b) && glB k x && (pe :: pes).all noStar && chkEs k es (pe :: pes)) ||
      (match b, pes with
      | .sorted, [] => k.calm && decide (x = "sorted") && glB k x && noStar pe && chkEs k es [pe]
      | .dict, [] => k.calm && decide (x = "dict") && glB k x && noStar pe && chkEs k es [pe]
      | .len, [] => k.calm && decide (x = "len") && glB k x && noStar pe && (match es with
        | .cons (.bin .mul (.lit (.str [97])) (.mth o m .nil)) .nil => decide (nm.mth[m]? = some "__len__") && mthB G m 0 && chkE k o pe
        | _ => false)
      | .sortedSet, [] => k.calm && decide (x = "sorted") && glB k x && glB k "set" && (match es, pe with
        | .cons e .nil, .Call (.Name y _) [pa] [] _ => decide (y = "set") && noStar pa && chkE k e pa
        | _, _ => false)
      | .lenSet, [] => k.calm && decide (x = "len") && glB k x && glB k "set" && (match es, pe with
        | .cons e .nil, .Call (.Name y _) [pa] [] _ => decide (y = "set") && noStar pa && chkE k e pa
        | _, _ => false)
      | _, _ => false)
    | _ => false)
  | .me m o es, p => (match p with
    | .Call (.Attribute po x ap) (pe :: pes) [] cp => decide (x = meN m) && noCall po && (pe :: pes).all noStar && Nat.blt (pe :: pes).length 29 && (ap.endLine == cp.line) && chkE k o po && chkEs k es (pe :: pes)
    | .Call (.Attribute po x ap) [] [] cp => decide (x = meN m) && noCall po && (ap.endLine == cp.line) && chkE k o po && chkEs k es []
    | _ => false)
  | .isi a t, p => (match p with
    | .Call (.Name x _) [pa, .Name y _] [] _ => decide (x = "isinstance") && decide (y = tyN t) && glB k x && glB k y && noStar pa && chkE k a pa
    | _ => false)
  | .isx a c, p => (match p with
    | .Call (.Name x _) [pa, .Name y _] [] _ => decide (x = "isinstance") && decide (nm.exc[c]? = some y) && glB k x && glB k y && noStar pa && chkE k a pa
    | _ => false)
  | .fld o f, p => (match p with
    | .Attribute po x _ => decide (nm.fld[f]? = some x) && noCall po && chkE k o po
    | _ => false)
  | .mth o m es, p => (match p with
    | .Call (.Attribute po x ap) pes [] cp => (k.calm && decide (nm.mth[m]? = some x) && noCall po && pes.all noStar && Nat.blt pes.length 29 && (ap.endLine == cp.line) && mthB G m es.len && chkE k o po && chkEs k es pes) ||
      (k.calm && Nat.beq m nm.brn && decide (nm.mth[m]? = some x) && noCall po && (ap.endLine == cp.line) && mthB G m es.len && chkE k o po && (match es, pes with
      | .cons a (.cons b (.cons e1 (.cons e2 .nil))), [pa, pb] => noStar pa && noStar pb && chkE k a pa && chkE k b pb && isN e1 && isN e2
      | _, _ => false))
    | .Call (.Attribute po x ap) pes [⟨some y, p2, _⟩] cp => k.calm && Nat.beq m nm.brn && decide (nm.mth[m]? = some x) && noCall po && (ap.endLine == cp.line) && mthB G m es.len && chkE k o po && decide (y = "mother") && (match es, pes with
      | .cons a (.cons b (.cons e1 (.cons e2 .nil))), [pa, pb] => noStar pa && noStar pb && chkE k a pa && chkE k b pb && isN e1 && chkE k e2 p2
      | _, _ => false)
    | .Call (.Attribute po x ap) pes [⟨some y, p1, _⟩, ⟨some z, p2, _⟩] cp => k.calm && Nat.beq m nm.brn && decide (nm.mth[m]? = some x) && noCall po && (ap.endLine == cp.line) && mthB G m es.len && chkE k o po && decide (y = "father") && decide (z = "mother") && (match es, pes with
      | .cons a (.cons b (.cons e1 (.cons e2 .nil))), [pa, pb] => noStar pa && noStar pb && chkE k a pa && chkE k b pb && chkE k e1 p1 && chkE k e2 p2
      | _, _ => false)
    | _ => false)
  | .new c es, p => (match p with
    | .Call (.Name x _) (pe :: pes) [] _ => k.calm && decide (nm.cls[c]? = some x) && glB k x && (pe :: pes).all noStar && (match G.cls[c]? with
    | some q => (match G.fns[q.init]? with
      | some F => Nat.beq F.pars (es.len + 1)
      | none => false)
    | none => false) && chkEs k es (pe :: pes)
    | _ => false)
  | .comp elt tg it cond, p => (match p with
    | .ListComp pelt [⟨ptg, piter, pifs, 0⟩] scope _ => k.calm && chkI k it piter && fsB piter && blkC k.N k.sc scope (ownOf k (tgSlots tg)) && tgB (k.blk scope) tg ptg && chkC (k.blk scope) cond pifs && chkE (k.blk scope) elt pelt
    | _ => false)
  | .dcomp a b tg it, p => (match p with
    | .DictComp pa pb [⟨ptg, piter, [], 0⟩] scope _ => k.calm && chkI k it piter && fsB piter && blkC k.N k.sc scope (ownOf k (tgSlots tg)) && tgB (k.blk scope) tg ptg && chkE (k.blk scope) a pa && chkE (k.blk scope) b pb
    | _ => false)
  | _, _ => false
def chkEs (k : Ck) : Es → List Expr → Bool
  | .nil, p => (match p with
    | [] => true
    | _ => false)
  | .cons e r, p => (match p with
    | pe :: pes => noStar pe && chkE k e pe && chkEs k r pes
    | _ => false)
def chkO (k : Ck) : Es → Option Expr → Bool
  | .nil, p => (match p with
    | none => true
    | _ => false)
  | .cons e r, p => (match r, p with
    | .nil, some pe => chkE k e pe
    | _, _ => false)
def chkC (k : Ck) : Es → List Expr → Bool
  | .nil, p => (match p with
    | [] => true
    | _ => false)
  | .cons e r, p => (match r, p with
    | .nil, [pe] => tstB 8 pe && chkE k e pe
    | _, _ => false)
def chkI (k : Ck) : Kn.It → Expr → Bool
  | .ex e, pe => chkE k e pe
  | .rng e, p => (match p with
    | .Call (.Name x _) [pe] [] _ => decide (x = "range") && glB k x && noStar pe && chkE k e pe
    | _ => false)
  | .rng2 a b, p => (match p with
    | .Call (.Name x _) [pa, pb] [] _ => decide (x = "range") && glB k x && noStar pa && noStar pb && chkE k a pa && chkE k b pb
    | _ => false)
  | _, _ => false
end
end
theorem chkEs_nil {G : Glo} {nm : Nm} {k : Ck} {es : Es} (h : chkEs G nm k es [] = true) : es = .nil := by
  cases es with
  | nil => rfl
  | cons a r => unfold chkEs at h; cases h
end Kn
namespace Kn
open PySem L2 KnK
section
variable {X : Cx} {R : Rp} {W : WX} {G : Glo} {call : CallF} {nm : Nm}
theorem Cok.blk (C : Cok X R W G call nm) (hc : X.calm = true) {scope : Scope} {s : Shared} {H : Hp} {c : Addr} {cl : List (Str × Addr)} {fp : List Addr} : Cok (BX X scope s H c cl fp) R WF G call nm where
  hK := C.hK
  hw := C.hw
  nd := C.nd
  hu := C.hu
  tk := fun u s' ⟨_, _, _, _, _, _, _, _, _, _, _, _, _, _, _, _, w⟩ => w.elim
  blt := C.blt
  cst := C.cst
  fns := C.fns
  xo0 := C.xo0
  fldN := C.fldN
  clsO := C.clsO
  mths := C.mths
  brns := C.brns
  exs := fun k a h => absurd h (C.xo0 hc k a)
  excs := C.excs
  exN := C.exN
  exm := C.exm
  rais := fun c h => let ⟨a, b, d⟩ := C.rais c h; ⟨a, b, d⟩
  whO := C.whO
  news := C.news
theorem Cok.tr (C : Cok X R W G call nm) (hc : X.calm = true) {pn : List (Addr × PySem.Obj)} {xe : Value → Shared → Prop} {W' : WX} (tk : L2N.Takes (X.tr pn xe) W') : Cok (X.tr pn xe) R W' G call nm where
  hK := C.hK
  hw := C.hw
  nd := C.nd
  hu := C.hu
  tk := tk
  blt := C.blt
  cst := C.cst
  fns := C.fns
  xo0 := C.xo0
  fldN := C.fldN
  clsO := C.clsO
  mths := C.mths
  brns := C.brns
  exs := fun k a h => absurd h (C.xo0 hc k a)
  excs := C.excs
  exN := C.exN
  exm := C.exm
  rais := fun c h => let ⟨a, b, d⟩ := C.rais c h; ⟨a, b, d⟩
  whO := C.whO
  news := C.news
theorem Cxt.blk {k : Ck} (c : Cxt k X) {scope : Scope} (hk : scope.kind = .function) {s : Shared} {H : Hp} {ca : Addr} {cl : List (Str × Addr)} {fp : List Addr} : Cxt (k.blk scope) (BX X scope s H ca cl fp) where
  hN := c.hN
  hsc := by
    show relS scope X.env.scope = relS scope k.sc
    rw [c.hsc]
  hcalm := c.hcalm
  hcell := fun x hx => by
    have := (List.mem_filter.mp hx).2
    exact this
  kind := hk
theorem Cxt.tr {k : Ck} (c : Cxt k X) {pn : List (Addr × PySem.Obj)} {xe : Value → Shared → Prop} : Cxt k (X.tr pn xe) := ⟨c.hN, c.hsc, c.hcalm, c.hcell, c.kind⟩
def isBo : Expr → Bool
  | .BoolOp .. => true
  | _ => false
def plT : Expr → Bool
  | .Name .. => true
  | .Call .. => true
  | .Subscript .. => true
  | .Attribute .. => true
  | _ => false
theorem okT_plain {e : E} {pe : Expr} (hp : plT pe = true) (he : OkE X R W G call e pe) : OkT X R W G call e pe := fun as s hs σ H Q r h => by
  refine WpT.of (pt_val (WpE.pe X pe) (by intro wh; cases pe <;> first | rfl | cases hp)) ?_
  exact he as s hs σ H _ r (KB.kv h)
structure Snd (X : Cx) (R : Rp) (W : WX) (G : Glo) (call : CallF) (e : E) (pe : Expr) : Prop where
  oe : OkE X R W G call e pe
  ot : ∀ n, tstB n pe = true → OkT X R W G call e pe
  ow : ∀ n, isBo pe = true → tstB n pe = true → OkW X R W G call e pe
theorem Snd.pl {e : E} {pe : Expr} (hp : plT pe = true) (he : OkE X R W G call e pe) : Snd X R W G call e pe := ⟨he, fun _ _ => okT_plain hp he, fun n h => by (cases pe <;> first | (cases h; done) | (cases hp; done))⟩
theorem Snd.no {e : E} {pe : Expr} (hp : ∀ n, tstB n pe = false) (he : OkE X R W G call e pe) : Snd X R W G call e pe := ⟨he, fun n h => by (rw [hp n] at h; cases h), fun n _ h => by (rw [hp n] at h; cases h)⟩
theorem Snd.cm {e : E} {pe : Expr} (hp : isBo pe = false) (he : OkE X R W G call e pe) (ht : ∀ n, tstB n pe = true → OkT X R W G call e pe) : Snd X R W G call e pe := ⟨he, ht, fun n h => by (rw [hp] at h; cases h)⟩
theorem Snd.bo {e : E} {pe : Expr} (he : OkE X R W G call e pe) (hw : ∀ n, tstB n pe = true → OkW X R W G call e pe) : Snd X R W G call e pe := ⟨he, fun n h as s hs σ H Q r q => (hw n h as s hs σ H Q r q).t, fun n _ h => hw n h⟩
/-- what is never come to -/
theorem Snd.dead {e : E} {pe : Expr} (h : ∀ s hs, evE G call e s hs = .no) : Snd X R W G call e pe := ⟨fun as s hs σ H Q r q => by rw [h] at q; exact q.elim, fun n _ as s hs σ H Q r q => by rw [h] at q; exact q.elim, fun n _ _ as s hs σ H Q r q => by rw [h] at q; exact q.elim⟩
theorem ijB_ok {k : Ck} (c : Cxt k X) {i : E} {p : Expr} (h : ijB k i p = true) : OkJ X R G call i p := by
  unfold ijB at h
  split at h
  · obtain ⟨v1, v2, v3, v4⟩ := varB_ok c h
    exact okJ_var v1 v2 v3 v4
  · rw [Bool.and_eq_true, decide_eq_true_eq] at h
    obtain ⟨h, rfl⟩ := h
    obtain ⟨v1, v2, v3, v4⟩ := varB_ok c h
    exact okJ_sub v1 v2 v3 v4
  · cases h
theorem litB_ok {v : Val} {c : PySem.Const} {k : Nat} {pos : Pos} (h : litB v c = true) : OkE X R W G call (.lit v) (.Constant c k pos) := by
  unfold litB at h
  split at h
  · exact ok_non
  · rename_i a b; obtain rfl : a = b := by simpa using h
    exact ok_bl
  · rename_i a b; obtain rfl : a = b := by simpa using h
    exact ok_int
  · rename_i t x
    simp only [Bool.and_eq_true, decide_eq_true_eq] at h
    obtain ⟨⟨rfl, h2⟩, h3⟩ := h
    refine ok_str ⟨by rw [sizeLine_eq]; omega, fun c hc => ?_⟩
    have := List.all_eq_true.mp h3 c hc
    exact Nat.lt_of_succ_le (Nat.le_of_ble_eq_true this)
  · cases h
theorem tst_and {n : Nat} {o : BoolOp} {pa : Expr} {l : List Expr} {pos : Pos} (h : tstB n (.BoolOp o (pa :: l) pos) = true) : ∃ m, tstB m pa = true ∧ tstB n (.BoolOp o l pos) = true ∧ ∀ x ∈ l, tstB m x = true := by
  cases n with
  | zero => cases h
  | succ m =>
    have h : (pa :: l).all (tstB m) = true := h
    rw [List.all_cons, Bool.and_eq_true] at h
    exact ⟨m, h.1, h.2, List.all_eq_true.mp h.2⟩
theorem gB1_ok {k : Ck} (c : Cxt k X) : ∀ {js : List Nat} {es : List Expr}, gB1 k js es = true → NmOk X js es
  | [], [], _ => rfl
  | [], _ :: _, h => by cases h
  | j :: r, [], h => by cases h
  | j :: r, e :: t, h => by
    cases e with
    | Name x p =>
      unfold gB1 at h
      rw [Bool.and_eq_true] at h
      obtain ⟨h1, h2⟩ := stoB_ok c h.1
      exact ⟨x, p, t, rfl, h1, h2, gB1_ok c h.2⟩
    | _ => unfold gB1 at h; cases h
theorem tgB_ok {k : Ck} (C : Cok X R W G call nm) (c : Cxt k X) {tg : Tg} {p : Expr} (h : tgB k tg p = true) : OkG X R tg p := by
  unfold tgB at h
  split at h
  · obtain ⟨h1, h2⟩ := stoB_ok c h
    exact okG_name C.nd h1 h2
  · rw [Bool.and_eq_true] at h
    exact okG_tup C (c.hcalm h.1) (gB1_ok c h.2)
  · cases h
theorem fnNB_ok {k : Ck} (c : Cxt k X) {n : Nat} : ∀ {fs : List Nat} {es : List Expr}, fnNB G nm k n fs es = true → FnNs X G nm n fs es
  | [], [], _ => rfl
  | [], _ :: _, h => by cases h
  | j :: r, [], h => by cases h
  | j :: r, e :: t, h => by
    cases e with
    | Name x p =>
      unfold fnNB at h
      simp only [Bool.and_eq_true, decide_eq_true_eq] at h
      obtain ⟨⟨⟨h1, h2⟩, h3⟩, h4⟩ := h
      split at h3
      · rename_i F hF
        exact ⟨x, p, t, F, rfl, h1, glB_ok c h2, hF, Nat.eq_of_beq_eq_true h3, fnNB_ok c h4⟩
      · cases h3
    | _ => unfold fnNB at h; cases h
theorem isN_ok {e : E} (h : isN e = true) : e = .lit .non := by
  unfold isN at h
  split at h
  · rfl
  · cases h
theorem mthB_ok {m n : Nat} (h : mthB G m n = true) : (∀ (c : Nat) (k : Kn.Cls) (f : Nat) (F : Fn), G.cls[c]? = some k → alist k.meths m = some f → G.fns[f]? = some F → F.pars = n + 1) ∧ (∀ (c : Nat) (k : Kn.Cls) (f : Nat), G.cls[c]? = some k → alist k.meths m = some f → ∃ F, G.fns[f]? = some F) := by
  unfold mthB at h
  rw [List.all_eq_true] at h
  refine ⟨fun c k f F hc hf hF => ?_, fun c k f hc hf => ?_⟩
  · have := h k (List.mem_of_getElem? hc)
    rw [hf] at this
    simp only [hF] at this
    exact Nat.eq_of_beq_eq_true this
  · have := h k (List.mem_of_getElem? hc)
    rw [hf] at this
    cases e : G.fns[f]? with
    | none => simp only [e] at this; cases this
    | some F => exact ⟨F, rfl⟩
theorem chkEs_len {k : Ck} : ∀ {es : Es} {pes : List Expr}, chkEs G nm k es pes = true → es.len = pes.length
  | .nil, [], _ => rfl
  | .nil, _ :: _, h => by (unfold chkEs at h; cases h)
  | .cons _ _, [], h => by (unfold chkEs at h; cases h)
  | .cons e r, pe :: pes, h => by
    unfold chkEs at h
    rw [Bool.and_eq_true] at h
    show r.len + 1 = pes.length + 1
    rw [chkEs_len h.2]
theorem ixB_ok {p : Expr} (h : ixB p = true) : PlainIx p := by
  intro o i
  cases p <;> first | rfl | cases h
/-- a comprehension's parts -/
structure CompOk (X : Cx) (R : Rp) (W : WX) (G : Glo) (call : CallF) (elt : E) (tg : Tg) (it : Kn.It) (cond : Es) (pelt ptg piter : Expr) (pifs : List Expr) (scope : Scope) (own : List (Str × Nat)) : Prop where
  hi : OkI X R W G call it ptg piter
  ok : BlkOk X.N X.env.scope scope own
  hown : own.map (·.2) = tgSlots tg
  hg : ∀ s H c cl fp, OkG (BX X scope s H c cl fp) R tg ptg
  hc : ∀ s H c cl fp, OkC (BX X scope s H c cl fp) R WF G call cond pifs
  he : ∀ s H c cl fp, OkE (BX X scope s H c cl fp) R WF G call elt pelt
  hs : ∀ x, foldedSetIterable piter X.env x = pure x
theorem okI_tg {it : Kn.It} {tg tg' pe : Expr} : True := trivial
end
section
variable {G : Glo} {call : CallF} {nm : Nm} (hk : ∀ f vs h, KO h (call f vs h))
theorem blk_kind {N : List Str} {sc scope : Scope} {own : List (Str × Nat)} (h : blkC N sc scope own = true) : scope.kind = .function := (blkOk_by h).kind
theorem own_slots {k : Ck} : ∀ js : List Nat, (ownOf k js).map (·.2) = js
  | [] => rfl
  | j :: r => by
    show j :: (ownOf k r).map (·.2) = j :: r
    rw [own_slots r]
theorem comp_of {R : Rp} {k : Ck} {X : Cx} {W : WX} (C : Cok X R W G call nm) (c : Cxt k X) {elt : E} {tg : Tg} {it : Kn.It} {cond : Es} {pelt ptg piter : Expr} {pifs : List Expr} {scope : Scope} (hcl : k.calm = true) (h2 : fsB piter = true) (h3 : blkC k.N k.sc scope (ownOf k (tgSlots tg)) = true) (h4 : tgB (k.blk scope) tg ptg = true)
    (hi : OkI X R W G call it ptg piter) (hc : ∀ s H ca cl fp, OkC (BX X scope s H ca cl fp) R WF G call cond pifs) (he : ∀ s H ca cl fp, OkE (BX X scope s H ca cl fp) R WF G call elt pelt) : CompOk X R W G call elt tg it cond pelt ptg piter pifs scope (ownOf k (tgSlots tg)) where
  hi := hi
  ok := by rw [c.hN, c.hsc]; exact blkOk_by h3
  hown := own_slots _
  hg := fun s H ca cl fp => tgB_ok (C.blk (c.hcalm hcl)) (c.blk (blk_kind h3)) h4
  hc := hc
  he := he
  hs := fsB_ok h2
include hk
mutual
theorem sndE : ∀ (e : E) (R : Rp) (k : Ck) (X : Cx) (W : WX) (C : Cok X R W G call nm) (c : Cxt k X) (pe : Expr), chkE G nm k e pe = true → Snd X R W G call e pe
  | .var i, R, k, X, W, C, c, pe, h => by
    unfold chkE at h
    split at h
    · obtain ⟨a, b, d, e⟩ := varB_ok c h
      exact Snd.pl rfl (ok_var a b d e)
    · cases h
  | .lit v, R, k, X, W, C, c, pe, h => by
    unfold chkE at h
    split at h
    · exact Snd.no (fun n => by cases n <;> rfl) (litB_ok h)
    · cases h
  | .glob g, R, k, X, W, C, c, pe, h => by
    unfold chkE at h
    rw [Bool.or_eq_true] at h
    rcases h with h | h
    · exact Snd.dead fun s hs => by
        unfold evE
        cases e : G.cst[g]? with
        | none => rfl
        | some v => rw [e] at h; cases h
    split at h
    · rw [Bool.and_eq_true, decide_eq_true_eq] at h
      exact Snd.pl rfl (ok_glob C h.1 (glB_ok c h.2))
    · cases h
  | .tup es, R, k, X, W, C, c, pe, h => by
    unfold chkE at h
    split at h
    · rw [Bool.and_eq_true] at h
      have hl := chkEs_len h.1
      exact Snd.no (fun n => by cases n <;> rfl) (ok_tup (sndEs es R k X W C c _ h.1) (by have := Nat.le_of_ble_eq_true h.2; rw [sizeLine_eq]; omega) fun s hs vs hs' e => by rw [evEs_len e, hl])
    · cases h
  | .lst es, R, k, X, W, C, c, pe, h => by
    unfold chkE at h
    split at h
    · rw [Bool.and_eq_true] at h
      have hl := chkEs_len h.1
      exact Snd.no (fun n => by cases n <;> rfl) (ok_lst (sndEs es R k X W C c _ h.1) (by have := Nat.le_of_ble_eq_true h.2; rw [sizeLine_eq]; omega) fun s hs vs hs' e => by rw [evEs_len e, hl])
    · cases h
  | .dct es, R, k, X, W, C, c, pe, h => by
    unfold chkE at h
    split at h
    · exact Snd.no (fun n => by cases n <;> rfl) (ok_dct0 C)
    · rename_i a b pa pb _
      rw [Bool.and_eq_true] at h
      exact Snd.no (fun n => by cases n <;> rfl) (ok_dct1 C (fun fz => (sndE a (R.wf fz) k X W (C.wf fz) c _ h.1).oe) fun fz => (sndE b (R.wf fz) k X W (C.wf fz) c _ h.2).oe)
    · cases h
  | .bin o a b, R, k, X, W, C, c, pe, h => by
    unfold chkE at h
    split at h
    · simp only [Bool.and_eq_true] at h
      obtain ⟨⟨h1, h2⟩, h3⟩ := h
      have := opB_ok h1
      subst this
      exact Snd.no (fun n => by cases n <;> rfl) (ok_bin C (sndE a R k X W C c _ h2).oe (sndE b R k X W C c _ h3).oe)
    · cases h
  | .cmp o a b, R, k, X, W, C, c, pe, h => by
    unfold chkE at h
    split at h
    · simp only [Bool.and_eq_true, Bool.not_eq_true'] at h
      obtain ⟨⟨⟨h1, h2⟩, h3⟩, h4⟩ := h
      have := of_decide_eq_true h1
      subst this
      exact Snd.cm rfl (ok_cmp C h2 (sndE a R k X W C c _ h3).oe (sndE b R k X W C c _ h4).oe) fun _ _ => okT_cmp C h2 (sndE a R k X W C c _ h3).oe (sndE b R k X W C c _ h4).oe
    · cases h
  | .chain o o2 a b e, R, k, X, W, C, c, pe, h => by
    unfold chkE at h
    split at h
    · simp only [Bool.and_eq_true, Bool.not_eq_true'] at h
      obtain ⟨⟨⟨⟨⟨h1, h1'⟩, h2⟩, h3⟩, h4⟩, h5⟩ := h
      have := of_decide_eq_true h1
      subst this
      have := of_decide_eq_true h1'
      subst this
      exact Snd.cm rfl (ok_chain C h2 (sndE a R k X W C c _ h3).oe (sndE b R k X W C c _ h4).oe (sndE e R k X W C c _ h5).oe) fun _ _ => okT_chain C h2 (sndE a R k X W C c _ h3).oe (sndE b R k X W C c _ h4).oe (sndE e R k X W C c _ h5).oe
    · cases h
  | .and a b, R, k, X, W, C, c, pe, h => by
    unfold chkE at h
    split at h
    · split at h
      · rw [Bool.and_eq_true] at h
        have ha := sndE a R k X W C c _ h.1
        have hb := sndE b R k X W C c _ h.2
        refine Snd.bo (ok_and ha.oe (ok_one hb.oe)) fun n ht => ?_
        obtain ⟨m, t1, t2, t3⟩ := tst_and ht
        exact okW_and (ha.ot m t1) (okW_and1 (hb.ot m (t3 _ List.mem_cons_self)))
      · rw [Bool.and_eq_true] at h
        have ha := sndE a R k X W C c _ h.1
        have hb := sndE b R k X W C c _ h.2
        refine Snd.bo (ok_and ha.oe hb.oe) fun n ht => ?_
        obtain ⟨m, t1, t2, t3⟩ := tst_and ht
        exact okW_and (ha.ot m t1) (hb.ow n rfl t2)
      · cases h
    · cases h
  | .or a b, R, k, X, W, C, c, pe, h => by
    unfold chkE at h
    split at h
    · split at h
      · rw [Bool.and_eq_true] at h
        have ha := sndE a R k X W C c _ h.1
        have hb := sndE b R k X W C c _ h.2
        refine Snd.bo (ok_or ha.oe (ok_one hb.oe)) fun n ht => ?_
        obtain ⟨m, t1, t2, t3⟩ := tst_and ht
        exact okW_or (ha.ot m t1) (okW_or1 (hb.ot m (t3 _ List.mem_cons_self)))
      · rw [Bool.and_eq_true] at h
        have ha := sndE a R k X W C c _ h.1
        have hb := sndE b R k X W C c _ h.2
        refine Snd.bo (ok_or ha.oe hb.oe) fun n ht => ?_
        obtain ⟨m, t1, t2, t3⟩ := tst_and ht
        exact okW_or (ha.ot m t1) (hb.ow n rfl t2)
      · cases h
    · cases h
  | .orV a b, R, k, X, W, C, c, pe, h => by
    unfold chkE at h
    split at h
    · rw [Bool.and_eq_true] at h
      refine Snd.no (fun n => ?_) (ok_orV C (sndE a R k X W C c _ h.1).oe (ok_one (sndE b R k X W C c _ h.2).oe))
      cases n with
      | zero => rfl
      | succ n =>
        show (tstB n _ && (tstB n (.Constant _ _ _) && true)) = false
        cases n <;> exact Bool.and_false _
    · cases h
  | .not a, R, k, X, W, C, c, pe, h => by
    unfold chkE at h
    split at h
    · have ha := sndE a R k X W C c _ h
      refine Snd.cm rfl (ok_not ha.oe) fun n ht => ?_
      cases n with
      | zero => cases ht
      | succ n => exact okT_not (ha.ot n ht)
    · cases h
  | .neg a, R, k, X, W, C, c, pe, h => by
    unfold chkE at h
    split at h
    · exact Snd.no (fun n => by cases n <;> rfl) (ok_neg (sndE a R k X W C c _ h).oe)
    · cases h
  | .ite q a b, R, k, X, W, C, c, pe, h => by
    unfold chkE at h
    split at h
    · simp only [Bool.and_eq_true] at h
      obtain ⟨⟨⟨h1, h2⟩, h3⟩, h4⟩ := h
      exact Snd.no (fun n => by cases n <;> rfl) (ok_ite ((sndE q R k X W C c _ h2).ot 8 h1) (sndE a R k X W C c _ h3).oe (sndE b R k X W C c _ h4).oe)
    · cases h
  | .idx a i, R, k, X, W, C, c, pe, h => by
    unfold chkE at h
    split at h
    · simp only [Bool.and_eq_true] at h
      obtain ⟨⟨h1, h2⟩, h3⟩ := h
      exact Snd.pl rfl (ok_idx C (ixB_ok h1) (sndE a R k X W C c _ h2).oe (sndE i R k X W C c _ h3).oe)
    · cases h
  | .slc a lo hi, R, k, X, W, C, c, pe, h => by
    unfold chkE at h
    split at h
    · simp only [Bool.and_eq_true] at h
      obtain ⟨⟨h1, h2⟩, h3⟩ := h
      exact Snd.pl rfl (ok_slc C (sndE a R k X W C c _ h1).oe (sndO lo R k X W C c _ h2) (sndO hi R k X W C c _ h3))
    · cases h
  | .call f es, R, k, X, W, C, c, pe, h => by
    unfold chkE at h
    split at h
    · rename_i pes _
      simp only [Bool.and_eq_true, decide_eq_true_eq] at h
      obtain ⟨⟨⟨⟨⟨h1, h2⟩, h3⟩, h4⟩, h5⟩, h6⟩ := h
      split at h5
      rotate_left
      · cases h5
      rename_i F hF
      have hl := Nat.eq_of_beq_eq_true h5
      have hlen := chkEs_len h6
      cases pes with
      | nil =>
        cases es with
        | nil => exact Snd.pl rfl (ok_call0 C (c.hcalm h1) hF h2 (glB_ok c h3) hl)
        | cons e r => cases hlen
      | cons q qs => exact Snd.pl rfl (ok_call C (c.hcalm h1) hF h2 (glB_ok c h3) h4 hl (sndEs es R k X W C c _ h6))
    · cases h
  | .callOf fs i es, R, k, X, W, C, c, pe, h => by
    unfold chkE at h
    split at h
    · simp only [Bool.and_eq_true] at h
      obtain ⟨⟨⟨⟨⟨h1, h2⟩, h3⟩, h4⟩, h5⟩, h6⟩ := h
      exact Snd.pl rfl (ok_callOf C (c.hcalm h1) (fnNB_ok c h2) (by have := Nat.le_of_ble_eq_true h3; rw [sizeLine_eq]; omega) (ijB_ok c h4) (by rw [List.all_cons, Bool.and_eq_true]; simpa using h5) (sndEs es R k X W C c _ h6))
    · cases h
  | .bi b es, R, k, X, W, C, c, pe, h => by
    unfold chkE at h
    split at h
    · rw [Bool.or_eq_true] at h
      rcases h with h | h
      rotate_left
      · split at h
        · simp only [Bool.and_eq_true, decide_eq_true_eq] at h
          obtain ⟨⟨⟨⟨h1, h2⟩, h3⟩, h4⟩, h5⟩ := h
          have hes := sndEs es R k X W C c _ h5
          subst h2
          exact Snd.pl rfl (ok_sorted C (c.hcalm h1) (glB_ok c h3) h4 hes)
        · simp only [Bool.and_eq_true, decide_eq_true_eq] at h
          obtain ⟨⟨⟨⟨h1, h2⟩, h3⟩, h4⟩, h5⟩ := h
          have hes := sndEs es R k X W C c _ h5
          subst h2
          exact Snd.pl rfl (ok_dictB C (c.hcalm h1) (glB_ok c h3) h4 hes)
        · simp only [Bool.and_eq_true, decide_eq_true_eq] at h
          obtain ⟨⟨⟨⟨h1, h2⟩, h3⟩, h4⟩, h5⟩ := h
          subst h2
          match he : es, h5 with
          | .cons (.bin .mul (.lit (.str [97])) (.mth o m .nil)) .nil, h5 =>
            simp only [Bool.and_eq_true, decide_eq_true_eq] at h5
            obtain ⟨⟨h5, h6⟩, h7⟩ := h5
            obtain ⟨m1, m2⟩ := mthB_ok h6
            exact Snd.pl rfl (ok_lenI C (c.hcalm h1) h5 (glB_ok c h3) h4 m1 m2 (sndE o R k X W C c _ h7).oe)
        · simp only [Bool.and_eq_true, decide_eq_true_eq] at h
          obtain ⟨⟨⟨⟨h1, h2⟩, h3⟩, h4⟩, h5⟩ := h
          subst h2
          match he : es, h5 with
          | .nil, h5 => cases h5
          | .cons e (.cons _ _), h5 => cases h5
          | .cons e .nil, h5 =>
            split at h5
            · rename_i q1 q2
              injection q1 with q1 _
              subst q1
              simp only [Bool.and_eq_true, decide_eq_true_eq] at h5
              obtain ⟨⟨h5, h6⟩, h7⟩ := h5
              subst h5
              exact Snd.pl rfl (ok_sortedSet C (c.hcalm h1) (glB_ok c h3) (glB_ok c h4) h6 (sndE _ R k X W C c _ h7).oe)
            · cases h5
        · simp only [Bool.and_eq_true, decide_eq_true_eq] at h
          obtain ⟨⟨⟨⟨h1, h2⟩, h3⟩, h4⟩, h5⟩ := h
          subst h2
          match he : es, h5 with
          | .nil, h5 => cases h5
          | .cons e (.cons _ _), h5 => cases h5
          | .cons e .nil, h5 =>
            split at h5
            · rename_i q1 q2
              injection q1 with q1 _
              subst q1
              simp only [Bool.and_eq_true, decide_eq_true_eq] at h5
              obtain ⟨⟨h5, h6⟩, h7⟩ := h5
              subst h5
              exact Snd.pl rfl (ok_lenSet C (c.hcalm h1) (glB_ok c h3) (glB_ok c h4) h6 (sndE _ R k X W C c _ h7).oe)
            · cases h5
        · cases h
      simp only [Bool.and_eq_true, decide_eq_true_eq] at h
      obtain ⟨⟨⟨⟨⟨h1, h2⟩, h3⟩, h4⟩, h5⟩, h6⟩ := h
      subst h3
      exact Snd.pl rfl (ok_bi C (c.hcalm h1) h2 (glB_ok c h4) h5 (sndEs es R k X W C c _ h6))
    · cases h
  | .me m o es, R, k, X, W, C, c, pe, h => by
    unfold chkE at h
    split at h
    · simp only [Bool.and_eq_true, decide_eq_true_eq] at h
      obtain ⟨⟨⟨⟨⟨⟨h1, h2⟩, h3⟩, h4⟩, h5⟩, h6⟩, h7⟩ := h
      subst h1
      exact Snd.pl rfl (ok_me C (base_plain h2) h3 (Nat.lt_of_succ_le (Nat.le_of_ble_eq_true h4)) h5 (sndE o R k X W C c _ h6).oe (sndEs es R k X W C c _ h7))
    · simp only [Bool.and_eq_true, decide_eq_true_eq] at h
      obtain ⟨⟨⟨⟨h1, h2⟩, h3⟩, h4⟩, h5⟩ := h
      subst h1
      have he : es = .nil := chkEs_nil h5
      rw [he]
      exact Snd.pl rfl (ok_me0 C (base_plain h2) h3 (sndE o R k X W C c _ h4).oe)
    · cases h
  | .isi a t, R, k, X, W, C, c, pe, h => by
    unfold chkE at h
    split at h
    · simp only [Bool.and_eq_true, decide_eq_true_eq] at h
      obtain ⟨⟨⟨⟨⟨h1, h2⟩, h3⟩, h4⟩, h5⟩, h6⟩ := h
      subst h1 h2
      exact Snd.pl rfl (ok_isi C (glB_ok c h3) (glB_ok c h4) h5 (sndE a R k X W C c _ h6).oe)
    · cases h
  | .isx a t, R, k, X, W, C, c, pe, h => by
    unfold chkE at h
    split at h
    · simp only [Bool.and_eq_true, decide_eq_true_eq] at h
      obtain ⟨⟨⟨⟨⟨h1, h2⟩, h3⟩, h4⟩, h5⟩, h6⟩ := h
      subst h1
      exact Snd.pl rfl (ok_isx C (glB_ok c h3) h2 (glB_ok c h4) h5 (sndE a R k X W C c _ h6).oe)
    · cases h
  | .fld o f, R, k, X, W, C, c, pe, h => by
    unfold chkE at h
    split at h
    · simp only [Bool.and_eq_true, decide_eq_true_eq] at h
      obtain ⟨⟨h1, h2⟩, h3⟩ := h
      exact Snd.pl rfl (ok_fld C h1 (base_plain h2) (sndE o R k X W C c _ h3).oe)
    · cases h
  | .mth o m es, R, k, X, W, C, c, pe, h => by
    unfold chkE at h
    split at h
    · rename_i pes _
      rw [Bool.or_eq_true] at h
      rcases h with h | h
      rotate_left
      · simp only [Bool.and_eq_true, decide_eq_true_eq] at h
        obtain ⟨⟨⟨⟨⟨⟨⟨h1, hm⟩, h2⟩, h3⟩, h6⟩, h7⟩, h8⟩, h9⟩ := h
        obtain ⟨m1, m2⟩ := mthB_ok h7
        have hm := Nat.eq_of_beq_eq_true hm
        subst hm
        match he : es, pes, h9, m1 with
        | .cons a (.cons b (.cons e1 (.cons e2 .nil))), [pa, pb], h9, m1 =>
          simp only [Bool.and_eq_true] at h9
          obtain ⟨⟨⟨⟨⟨g1, g2⟩, g3⟩, g4⟩, g5⟩, g6⟩ := h9
          have e5 := isN_ok g5
          have e6 := isN_ok g6
          have oa := (sndE a R k X W C c _ g3).oe
          have ob := (sndE b R k X W C c _ g4).oe
          rw [e5, e6]
          exact Snd.pl rfl (ok_brn C (c.hcalm h1) (run0 (X := X)) h2 (base_plain h3) (by simp [g1, g2]) h6 rfl rfl rfl (by decide) (fun c k f F u v w => (m1 c k f F u v w).trans rfl) m2 (sndE o R k X W C c _ h8).oe (ok_cons oa (ok_cons ob ok_nil (star_one g2)) (star_one g1)) okK0)
      simp only [Bool.and_eq_true, decide_eq_true_eq] at h
      obtain ⟨⟨⟨⟨⟨⟨⟨⟨h1, h2⟩, h3⟩, h4⟩, h5⟩, h6⟩, h7⟩, h8⟩, h9⟩ := h
      have hlen := chkEs_len h9
      obtain ⟨m1, m2⟩ := mthB_ok h7
      cases pes with
      | nil =>
        cases es with
        | nil => exact Snd.pl rfl (ok_mth0 C (c.hcalm h1) h2 (base_plain h3) h6 m1 m2 (sndE o R k X W C c _ h8).oe)
        | cons e r => cases hlen
      | cons q qs => exact Snd.pl rfl (ok_mth C (c.hcalm h1) h2 (base_plain h3) h4 (Nat.lt_of_succ_le (Nat.le_of_ble_eq_true h5)) h6 m1 m2 (sndE o R k X W C c _ h8).oe (sndEs es R k X W C c _ h9))
    · rename_i pes y p2 kp cp
      simp only [Bool.and_eq_true, decide_eq_true_eq] at h
      obtain ⟨⟨⟨⟨⟨⟨⟨⟨h1, hm⟩, h2⟩, h3⟩, h6⟩, h7⟩, h8⟩, hy⟩, h9⟩ := h
      obtain ⟨m1, m2⟩ := mthB_ok h7
      have hm := Nat.eq_of_beq_eq_true hm
      subst hm
      subst hy
      match he : es, pes, h9, m1 with
      | .cons a (.cons b (.cons e1 (.cons e2 .nil))), [pa, pb], h9, m1 =>
        simp only [Bool.and_eq_true] at h9
        obtain ⟨⟨⟨⟨⟨g1, g2⟩, g3⟩, g4⟩, g5⟩, g6⟩ := h9
        have oa := (sndE a R k X W C c _ g3).oe
        have ob := (sndE b R k X W C c _ g4).oe
        have e5 := isN_ok g5
        rw [e5]
        exact Snd.pl rfl (ok_brn C (c.hcalm h1) (run1 (X := X)) h2 (base_plain h3) (by simp [g1, g2]) h6 rfl rfl rfl (by simp) (fun c k f F u v w => (m1 c k f F u v w).trans rfl) m2 (sndE o R k X W C c _ h8).oe (ok_cons oa (ok_cons ob ok_nil (star_one g2)) (star_one g1)) (okK1 (sndE e2 R k X W C c _ g6).oe))
    · rename_i pes y p1 kp z p2 kq cp
      simp only [Bool.and_eq_true, decide_eq_true_eq] at h
      obtain ⟨⟨⟨⟨⟨⟨⟨⟨⟨h1, hm⟩, h2⟩, h3⟩, h6⟩, h7⟩, h8⟩, hy⟩, hz⟩, h9⟩ := h
      obtain ⟨m1, m2⟩ := mthB_ok h7
      have hm := Nat.eq_of_beq_eq_true hm
      subst hm
      subst hy hz
      match he : es, pes, h9, m1 with
      | .cons a (.cons b (.cons e1 (.cons e2 .nil))), [pa, pb], h9, m1 =>
        simp only [Bool.and_eq_true] at h9
        obtain ⟨⟨⟨⟨⟨g1, g2⟩, g3⟩, g4⟩, g5⟩, g6⟩ := h9
        have oa := (sndE a R k X W C c _ g3).oe
        have ob := (sndE b R k X W C c _ g4).oe
        exact Snd.pl rfl (ok_brn C (c.hcalm h1) (run2 (X := X)) h2 (base_plain h3) (by simp [g1, g2]) h6 rfl rfl rfl (by simp) (fun c k f F u v w => (m1 c k f F u v w).trans rfl) m2 (sndE o R k X W C c _ h8).oe (ok_cons oa (ok_cons ob ok_nil (star_one g2)) (star_one g1)) (okK2 (sndE e1 R k X W C c _ g5).oe (sndE e2 R k X W C c _ g6).oe))
    · cases h
  | .new q es, R, k, X, W, C, c, pe, h => by
    unfold chkE at h
    split at h
    · simp only [Bool.and_eq_true, decide_eq_true_eq] at h
      obtain ⟨⟨⟨⟨⟨h1, h2⟩, h3⟩, h4⟩, h5⟩, h6⟩ := h
      split at h5
      rotate_left
      · cases h5
      rename_i cl hcl
      split at h5
      rotate_left
      · cases h5
      rename_i F hF
      exact Snd.pl rfl (ok_new C (c.hcalm h1) hcl hF h2 (glB_ok c h3) (by rw [List.all_cons, Bool.and_eq_true]; simpa using h4) (Nat.eq_of_beq_eq_true h5) (sndEs es R k X W C c _ h6))
    · cases h
  | .comp elt tg it cond, R, k, X, W, C, c, pe, h => by
    unfold chkE at h
    split at h
    · simp only [Bool.and_eq_true] at h
      obtain ⟨⟨⟨⟨⟨⟨h1, h2⟩, h3⟩, h4⟩, h5⟩, h6⟩, h7⟩ := h
      have hcl := c.hcalm h1
      have K := comp_of C c h1 h3 h4 h5 (sndI it R k X W C c _ _ h2) (fun s H ca cl fp => sndC cond R _ _ WF (C.blk hcl) (c.blk (blk_kind h4)) _ h6) (fun s H ca cl fp => (sndE elt R _ _ WF (C.blk hcl) (c.blk (blk_kind h4)) _ h7).oe)
      exact Snd.no (fun n => by cases n <;> rfl) (ok_lc C hcl hk K.hi K.ok K.hown K.hg K.hc K.he K.hs)
    · cases h
  | .nil n a, R, k, X, W, C, c, pe, h => by
    unfold chkE at h
    split at h
    · simp only [Bool.and_eq_true, decide_eq_true_eq] at h
      obtain ⟨h1, h2⟩ := h
      subst h1
      exact Snd.cm rfl (ok_nilE C (sndE a R k X W C c _ h2).oe) fun _ _ => okT_nilE C (sndE a R k X W C c _ h2).oe
    · cases h
  | .nee a, R, k, X, W, C, c, pe, h => by
    unfold chkE at h
    split at h
    · exact Snd.cm rfl (ok_nee C (sndE a R k X W C c _ h).oe) fun _ _ => okT_nee C (sndE a R k X W C c _ h).oe
    · cases h
  | .rev a, R, k, X, W, C, c, pe, h => by (unfold chkE at h; cases h)
  | .dcomp a b tg it, R, k, X, W, C, c, pe, h => by
    unfold chkE at h
    split at h
    · simp only [Bool.and_eq_true] at h
      obtain ⟨⟨⟨⟨⟨⟨h1, h2⟩, h3⟩, h4⟩, h5⟩, h6⟩, h7⟩ := h
      have hcl := c.hcalm h1
      exact Snd.no (fun n => by cases n <;> rfl) (ok_dc C hcl hk (sndI it R k X W C c _ _ h2) (by rw [c.hN, c.hsc]; exact blkOk_by h4) (own_slots _) (fun fz s H ca cl fp => tgB_ok ((C.wf fz).blk hcl) (c.blk (blk_kind h4)) h5) (fun s H ca cl fp => tgB_ok (C.blk hcl) (c.blk (blk_kind h4)) h5)
        (fun fz s H ca cl fp => (sndE a (R.wf fz) _ _ WF ((C.wf fz).blk hcl) (c.blk (blk_kind h4)) _ h6).oe) (fun fz s H ca cl fp => (sndE b (R.wf fz) _ _ WF ((C.wf fz).blk hcl) (c.blk (blk_kind h4)) _ h7).oe) (fsB_ok h3))
    · cases h
theorem sndEs : ∀ (es : Es) (R : Rp) (k : Ck) (X : Cx) (W : WX) (C : Cok X R W G call nm) (c : Cxt k X) (pes : List Expr), chkEs G nm k es pes = true → OkEs X R W G call es pes
  | .nil, R, k, X, W, C, c, pes, h => by
    unfold chkEs at h
    split at h
    · exact ok_nil
    · cases h
  | .cons e r, R, k, X, W, C, c, pes, h => by
    unfold chkEs at h
    split at h
    · simp only [Bool.and_eq_true] at h
      exact ok_cons (sndE e R k X W C c _ h.1.2).oe (sndEs r R k X W C c _ h.2) (star_one h.1.1)
    · cases h
theorem sndO : ∀ (es : Es) (R : Rp) (k : Ck) (X : Cx) (W : WX) (C : Cok X R W G call nm) (c : Cxt k X) (pe : Option Expr), chkO G nm k es pe = true → OkO X R W G call es pe
  | .nil, R, k, X, W, C, c, pe, h => by
    unfold chkO at h
    split at h
    · exact okO_none
    · cases h
  | .cons e r, R, k, X, W, C, c, pe, h => by
    unfold chkO at h
    split at h
    · exact okO_some (sndE e R k X W C c _ h).oe
    · cases h
theorem sndC : ∀ (es : Es) (R : Rp) (k : Ck) (X : Cx) (W : WX) (C : Cok X R W G call nm) (c : Cxt k X) (pes : List Expr), chkC G nm k es pes = true → OkC X R W G call es pes
  | .nil, R, k, X, W, C, c, pes, h => by
    unfold chkC at h
    split at h
    · exact okC_nil
    · cases h
  | .cons e r, R, k, X, W, C, c, pes, h => by
    unfold chkC at h
    split at h
    · rw [Bool.and_eq_true] at h
      exact okC_one ((sndE e R k X W C c _ h.2).ot 8 h.1)
    · cases h
theorem sndI : ∀ (it : Kn.It) (R : Rp) (k : Ck) (X : Cx) (W : WX) (C : Cok X R W G call nm) (c : Cxt k X) (tg pe : Expr), chkI G nm k it pe = true → OkI X R W G call it tg pe
  | .ex e, R, k, X, W, C, c, tg, pe, h => by
    unfold chkI at h
    exact okI_ex C (sndE e R k X W C c _ h).oe
  | .rng e, R, k, X, W, C, c, tg, pe, h => by
    unfold chkI at h
    split at h
    · simp only [Bool.and_eq_true, decide_eq_true_eq] at h
      obtain ⟨⟨⟨h1, h2⟩, h3⟩, h4⟩ := h
      subst h1
      exact okI_rng C (glB_ok c h2) h3 (sndE e R k X W C c _ h4).oe
    · cases h
  | .rng2 a b, R, k, X, W, C, c, tg, pe, h => by
    unfold chkI at h
    split at h
    · simp only [Bool.and_eq_true, decide_eq_true_eq] at h
      obtain ⟨⟨⟨⟨⟨h1, h2⟩, h3⟩, h4⟩, h5⟩, h6⟩ := h
      subst h1
      exact okI_rng2 C (glB_ok c h2) h3 h4 (sndE a R k X W C c _ h5).oe (sndE b R k X W C c _ h6).oe
    · cases h
  | .enum e, R, k, X, W, C, c, tg, pe, h => by (unfold chkI at h; cases h)
end
end
end Kn
namespace Kn
open PySem L2 KnK
def locB (k : Ck) (x : Str) : Bool := match k.sc.names.lookup x with
  | some .local => true
  | _ => false
/-- does the list of a comprehension go right into the name -/
def swB (k : Ck) (pe : Expr) (x : Str) (p : Pos) : Bool := match pe with
  | .ListComp _ _ s q => locB k x && (p.line == q.line) && !(s.names.any fun (n, k) => n == x && (k == .local || k == .cell))
  | .DictComp _ _ _ s q => locB k x && (p.line == q.line) && !(s.names.any fun (n, k) => n == x && (k == .local || k == .cell))
  | _ => false
def noDS : Expr → Bool
  | .SetComp .. => false
  | _ => true
def isTupE : Expr → Bool
  | .Tuple .. => true
  | _ => false
def fdB (nm : Nm) (n : Str) : List Nat → List Expr → Bool
  | [], [] => true
  | f :: r, .Attribute (.Name m _) x _ :: t => decide (m = n) && decide (nm.fld[f]? = some x) && fdB nm n r t
  | _, _ => false
def parB (k : Ck) (x y : Str) (px py : Pos) (i j : Nat) (a b : Expr) : Bool := decide (k.N[i]? = some x) && decide (k.N[j]? = some y) && locB k x && locB k y && !(Nat.beq i j) && !(x == y) && (px.line == py.line) && noStar a && noStar b && !(foldedForSure 8 a && foldedForSure 8 b) && !(constantsAlone 8 a && constantsAlone 8 b)
def par3B (k : Ck) (x y z : Str) (px py pz : Pos) (i j l : Nat) (a b c : Expr) : Bool := decide (k.N[i]? = some x) && decide (k.N[j]? = some y) && decide (k.N[l]? = some z) && locB k x && locB k y && locB k z && !(Nat.beq i j) && !(Nat.beq i l) && !(Nat.beq j l) && !(x == y) && !(x == z) && !(y == z) && (px.line == py.line) && (px.line == pz.line) && noStar a && noStar b && noStar c &&
  !(foldedForSure 8 a && foldedForSure 8 b && foldedForSure 8 c) && !(constantsAlone 8 a && constantsAlone 8 b && constantsAlone 8 c)
/-- a statement that is never come to -/
def deadS (G : Glo) : S → Bool
  | .expr (.glob g) => (G.cst[g]?).isNone
  | _ => false
section
variable (G : Glo) (nm : Nm)
mutual
def chkS (k : Ck) : S → Stmt → Bool
  | .ret e, p => (match p with
    | .Return (some pe) _ => chkE G nm k e pe
    | .Return none _ => (match e with
      | .lit .non => true
      | _ => false)
    | _ => false)
  | .expr e, p => (match p with
    | .Expr pe _ => noComp pe && chkE G nm k e pe
    | _ => false)
  | .asg l e, p => (match l, p with
    | .name i, .Assign [.Name x q] pe _ => stoB k i x && noDS pe && chkE G nm k e pe && (!(swB k pe x q) || (match e with
      | .comp .. => true
      | .dcomp .. => true
      | _ => false))
    | .tup js, .Assign [.Tuple ts _ _] pe _ => (match js, ts, e, pe with
      | [i, j], [.Name x px, .Name y py], .tup es, .Tuple [a, b] q1 q2 => k.calm && ((parB k x y px py i j a b && chkEs G nm k es [a, b]) || (((!(locB k x) || !(locB k y)) || (foldedForSure 8 a && foldedForSure 8 b)) && gB1 k [i, j] [.Name x px, .Name y py] && chkE G nm k (.tup es) (.Tuple [a, b] q1 q2)))
      | [i, j, l], [.Name x px, .Name y py, .Name z pz], .tup es, .Tuple [a, b, c] _ _ => k.calm && par3B k x y z px py pz i j l a b c && chkEs G nm k es [a, b, c]
      | js, ts, e, pe => k.calm && !(isTupE pe) && gB1 k js ts && chkE G nm k e pe)
    | .sub o i, .Assign [.Subscript po pi _] pe _ => noSlice pi && chkE G nm k o po && chkE G nm k i pi && chkE G nm k e pe
    | .fld o f, .Assign [.Attribute po x _] pe _ => decide (nm.fld[f]? = some x) && chkE G nm k o po && chkE G nm k e pe
    | .flds o fs, .Assign [.Tuple (.Attribute (.Name n q) x q2 :: t) _ _] pe _ => k.calm && varB k o n && fdB nm n fs (.Attribute (.Name n q) x q2 :: t) && chkE G nm k e pe
    | _, _ => false)
  | .augN i o e, p => (match o, p with
    | .add, .AugAssign (.Name x _) .Add pe _ => stoB k i x && chkE G nm k e pe
    | _, _ => false)
  | .augS o i q e, p => (match q, p with
    | .add, .AugAssign (.Subscript po pi _) .Add pe _ => noSlice pi && chkE G nm k o po && chkE G nm k i pi && chkE G nm k e pe
    | _, _ => false)
  | .ite c a b, p => (match p with
    | .If pc pa pb _ => tstB 8 pc && chkE G nm k c pc && chkSs k a pa && chkSs k b pb
    | _ => false)
  | .forr tg it b, p => (match p with
    | .For ptg piter pb [] _ => k.calm && chkI G nm k it piter && fsB piter && tgB k tg ptg && chkSs k b pb
    | _ => false)
  | .whil c b, p => (match p with
    | .While pc pb [] _ => tstB 8 pc && chkE G nm k c pc && chkSs k b pb
    | _ => false)
  | .pass, p => (match p with
    | .Pass _ => true
    | _ => false)
  | .cont, p => (match p with
    | .Continue _ => true
    | _ => false)
  | .raise c, p => (match p with
    | .Raise (some (.Call (.Name x _) [] [] _)) none _ => k.calm && decide (nm.exc[c]? = some x) && (G.exc[c]?).isSome && glB k x
    | _ => false)
  | .tryW b c i f, p => (match p with
    | .Try pb [.ExceptHandler (some (.Name x _)) (some n) [.Return (some (.Call (.Name y _) [.Name n' _] [] _)) _] _] [] [] _ => k.calm && decide (f = nm.wh) && decide (n' = n) && decide (nm.exc[c]? = some x) && (G.exc[c]?).isSome && glB k x && decide (k.N[i]? = some n) && locB k n && notDbg n && decide (nm.fn[nm.wh]? = some y) && glB k y && chkSs k b pb
    | _ => false)
  | .tryN _ _, _ => false
def chkSs (k : Ck) : Ss → List Stmt → Bool
  | .nil, p => (match p with
    | [] => true
    | _ => false)
  | .cons s r, p => deadS G s || (match p with
    | q :: t => chkS k s q && chkSs k r t
    | _ => false)
end
end
section
variable {k : Ck} {X : Cx} {R : Rp} {W : WX} {G : Glo} {call : CallF} {nm : Nm}
theorem locB_ok (c : Cxt k X) {x : Str} (h : locB k x = true) : X.env.scope.names.lookup x = some .local := by
  unfold locB at h
  rw [← c.hsc] at h
  split at h
  · rename_i e; exact e
  · cases h
theorem blk_fn {env : Env} (h : env.scope.kind = .function) : env.blockKind = .function := by unfold Env.blockKind; rw [h]; rfl
theorem swB_ok (c : Cxt k X) {pe : Expr} {x : Str} {p : Pos} {l : Nat} (h : noDS pe = true) : swapsWith pe (some (.Name x p)) l X.env = pure (swB k pe x p) := by
  cases pe with
  | ListComp a b s q =>
    unfold swapsWith swB locB
    simp only [blk_fn c.kind, Env.kindOf, c.hsc, Expr.pos]
    rcases hl : k.sc.names.lookup x with _ | kd
    · rfl
    · cases kd <;> rfl
  | SetComp => cases h
  | DictComp a b d s q =>
    unfold swapsWith swB locB
    simp only [blk_fn c.kind, Env.kindOf, c.hsc, Expr.pos]
    rcases hl : k.sc.names.lookup x with _ | kd
    · rfl
    · cases kd <;> rfl
  | _ => rfl
theorem sw_sub {pe a b : Expr} {p : Pos} {l : Nat} {env : Env} : swapsWith pe (some (.Subscript a b p)) l env = pure false := by
  cases pe <;> rfl
theorem sw_att {pe a : Expr} {x : Str} {p : Pos} {l : Nat} {env : Env} : swapsWith pe (some (.Attribute a x p)) l env = pure false := by
  cases pe <;> rfl
theorem sw_tup {pe : Expr} {es : List Expr} {q : Nat} {p : Pos} {l : Nat} {env : Env} : swapsWith pe (some (.Tuple es q p)) l env = pure false := by
  cases pe <;> rfl
theorem so_tup {pe : Expr} {es : List Expr} {q : Nat} {p : Pos} {l : Nat} {env : Env} : swapsWithSole [.Tuple es q p] pe l env = pure false := by cases pe <;> rfl
theorem so_sub {pe a b : Expr} {p : Pos} {l : Nat} {env : Env} : swapsWithSole [.Subscript a b p] pe l env = pure false := by cases pe <;> rfl
theorem sws_none {pe tg : Expr} {env : Env} (h : isTupE pe = false) : swappedStores [tg] pe env = pure none := by
  cases pe <;> cases tg <;> first | rfl | cases h
theorem sws_att {pe a : Expr} {x : Str} {p : Pos} {t : List Expr} {q : Nat} {tp : Pos} {env : Env} : swappedStores [.Tuple (.Attribute a x p :: t) q tp] pe env = pure none := by
  cases pe with
  | Tuple vs k2 p2 =>
    unfold swappedStores
    simp only
    split
    · rfl
    split
    · rfl
    split
    · rfl
    · rename_i hc
      exfalso
      apply hc
      rw [Bool.or_eq_true]
      left
      rw [List.filterMap_cons]
      simp only [bne_iff_ne, ne_eq, List.length_cons]
      intro e
      have l2 : ∀ (f : Expr → Option Str), (List.filterMap f t).length = t.length + 1 → False := fun f e => by
        have := List.length_filterMap_le f t
        omega
      exact l2 _ e
  | _ => rfl
theorem sws_two (c : Cxt k X) {x y : Str} {px py pt pt2 : Pos} {i j kt k2 : Nat} {a b : Expr} (h : parB k x y px py i j a b = true) : swappedStores [.Tuple [.Name x px, .Name y py] kt pt] (.Tuple [a, b] k2 pt2) X.env = pure (some [x, y]) := by
  unfold parB at h
  simp only [Bool.and_eq_true, Bool.not_eq_true', decide_eq_true_eq] at h
  obtain ⟨⟨⟨⟨⟨⟨⟨⟨⟨⟨h1, h2⟩, h3⟩, h4⟩, h5⟩, h6⟩, h7⟩, h8⟩, h9⟩, h10⟩, h11⟩ := h
  have hx := locB_ok c h3
  have hy := locB_ok c h4
  have key : ∀ f : Expr → Bool, f a = false → f b = false → [a, b].any f = false := fun f p q => by simp [p, q]
  have key2 : ∀ f : Expr → Bool, (f a && f b) = false → [a, b].all f = false := fun f p => by simpa using p
  have h7' : (py.line == px.line) = true := by rw [beq_iff_eq] at h7 ⊢; exact h7.symm
  have kx : X.env.kindOf x = some .local := hx
  have ky : X.env.kindOf y = some .local := hy
  unfold swappedStores
  simp only
  rw [if_neg (by rw [blk_fn c.kind]; simp), key _ (by cases a <;> first | rfl | cases h8) (by cases b <;> first | rfl | cases h9), if_neg (by decide)]
  simp only [List.filterMap_cons, List.filterMap_nil, kx, ky, List.head?_cons, Option.map_some, Option.getD_some, Expr.pos, h7', beq_self_eq_true, Bool.and_true, Bool.true_and, if_true]
  have h6' : (y == x) = false := by rw [beq_eq_false_iff_ne] at h6 ⊢; exact h6.symm
  have ed : [x, y].eraseDups = [x, y] := by simp [List.eraseDups_cons, h6']
  rw [ed, if_neg (by simp), key2 _ h10, if_neg (by decide), key2 _ h11, if_neg (by decide)]
theorem sws_nl2 (c : Cxt k X) {x y : Str} {px py pt pt2 : Pos} {kt k2 : Nat} {a b : Expr} (h : (!(locB k x) || !(locB k y)) = true) : swappedStores [.Tuple [.Name x px, .Name y py] kt pt] (.Tuple [a, b] k2 pt2) X.env = pure none := by
  have nl : ∀ z, locB k z = false → (X.env.kindOf z == some NameKind.local) = false := fun z hz => by
    show (X.env.scope.names.lookup z == some NameKind.local) = false
    rw [c.hsc]
    unfold locB at hz
    split at hz
    · cases hz
    · rename_i hn
      rw [beq_eq_false_iff_ne]
      exact hn
  have key : ∀ f : Expr → Option Str, (f (.Name x px) = none ∨ f (.Name y py) = none) → (List.filterMap f [.Name x px, .Name y py]).length ≠ 2 := fun f hh => by
    rcases hh with hh | hh
    · rw [List.filterMap_cons, hh, List.filterMap_cons]
      cases f (.Name y py) <;> simp
    · rw [List.filterMap_cons, List.filterMap_cons, hh]
      cases f (.Name x px) <;> simp
  unfold swappedStores
  simp only
  split
  · rfl
  split
  · rfl
  split
  · rfl
  · rename_i hc
    exfalso
    apply hc
    rw [Bool.or_eq_true]
    left
    rw [bne_iff_ne]
    refine key _ ?_
    rw [Bool.or_eq_true, Bool.not_eq_true', Bool.not_eq_true'] at h
    rcases h with h | h
    · left
      simp only [nl x h, Bool.false_and]
      rfl
    · right
      simp only [nl y h, Bool.false_and]
      rfl
theorem sws_fold {x y : Expr} {pt pt2 : Pos} {kt k2 : Nat} {a b : Expr} (h : (foldedForSure 8 a && foldedForSure 8 b) = true) : swappedStores [.Tuple [x, y] kt pt] (.Tuple [a, b] k2 pt2) X.env = pure none := by
  have h2 : [a, b].all (foldedForSure 8) = true := by simpa using h
  unfold swappedStores
  simp only
  split
  · rfl
  split
  · rfl
  split
  · rfl
  all_goals first | rfl | (rw [if_pos h2]; rfl) | (rw [if_pos h2])
theorem sws_three (c : Cxt k X) {x y z : Str} {px py pz pt pt2 : Pos} {i j l kt k2 : Nat} {a b d : Expr} (h : par3B k x y z px py pz i j l a b d = true) : swappedStores [.Tuple [.Name x px, .Name y py, .Name z pz] kt pt] (.Tuple [a, b, d] k2 pt2) X.env = pure (some [x, y, z]) := by
  unfold par3B at h
  simp only [Bool.and_eq_true, Bool.not_eq_true', decide_eq_true_eq] at h
  obtain ⟨⟨⟨⟨⟨⟨⟨⟨⟨⟨⟨⟨⟨⟨⟨⟨⟨⟨h1, h2⟩, h3⟩, l1⟩, l2⟩, l3⟩, n1⟩, n2⟩, n3⟩, e1⟩, e2⟩, e3⟩, p1⟩, p2⟩, s1⟩, s2⟩, s3⟩, h10⟩, h11⟩ := h
  have key : ∀ f : Expr → Bool, f a = false → f b = false → f d = false → [a, b, d].any f = false := fun f p q r => by simp [p, q, r]
  have key2 : ∀ f : Expr → Bool, (f a && f b && f d) = false → [a, b, d].all f = false := fun f p => by simpa [Bool.and_assoc] using p
  have p1' : (py.line == px.line) = true := by rw [beq_iff_eq] at p1 ⊢; exact p1.symm
  have p2' : (pz.line == px.line) = true := by rw [beq_iff_eq] at p2 ⊢; exact p2.symm
  have kx : X.env.kindOf x = some .local := locB_ok c l1
  have ky : X.env.kindOf y = some .local := locB_ok c l2
  have kz : X.env.kindOf z = some .local := locB_ok c l3
  unfold swappedStores
  simp only
  rw [if_neg (by rw [blk_fn c.kind]; simp), key _ (by cases a <;> first | rfl | cases s1) (by cases b <;> first | rfl | cases s2) (by cases d <;> first | rfl | cases s3), if_neg (by decide)]
  simp only [List.filterMap_cons, List.filterMap_nil, kx, ky, kz, List.head?_cons, Option.map_some, Option.getD_some, Expr.pos, p1', p2', beq_self_eq_true, Bool.and_true, Bool.true_and, if_true]
  have e1' : (y == x) = false := by rw [beq_eq_false_iff_ne] at e1 ⊢; exact e1.symm
  have e2' : (z == x) = false := by rw [beq_eq_false_iff_ne] at e2 ⊢; exact e2.symm
  have e3' : (z == y) = false := by rw [beq_eq_false_iff_ne] at e3 ⊢; exact e3.symm
  have ed : [x, y, z].eraseDups = [x, y, z] := by simp [List.eraseDups_cons, e1', e2', e3']
  rw [ed, if_neg (by simp), key2 _ h10, if_neg (by decide), key2 _ h11, if_neg (by decide)]
theorem fdB_ok {n : Str} : ∀ {fs : List Nat} {es : List Expr}, fdB nm n fs es = true → FdNs X nm n fs es
  | [], [], _ => rfl
  | [], _ :: _, h => by cases h
  | j :: r, [], h => by cases h
  | j :: r, e :: t, h => by
    unfold fdB at h
    split at h
    · rename_i heq _; cases heq
    · rename_i f r' m p x p2 t' q1 q2
      cases q1; cases q2
      simp only [Bool.and_eq_true, decide_eq_true_eq] at h
      obtain ⟨⟨h1, h2⟩, h3⟩ := h
      subst h1
      exact ⟨x, p, p2, t, rfl, h2, fdB_ok h3⟩
    · cases h
end
section
variable {G : Glo} {call : CallF} {nm : Nm} (hk : ∀ f vs h, KO h (call f vs h)) {R : Rp}
include hk
theorem comp_inv {k : Ck} {X : Cx} {W : WX} (C : Cok X R W G call nm) (c : Cxt k X) {elt : E} {tg : Tg} {it : Kn.It} {cond : Es} {pe : Expr} (h : chkE G nm k (.comp elt tg it cond) pe = true) : ∃ pelt ptg piter pifs scope pos, pe = .ListComp pelt [⟨ptg, piter, pifs, 0⟩] scope pos ∧ k.calm = true ∧ CompOk X R W G call elt tg it cond pelt ptg piter pifs scope (ownOf k (tgSlots tg)) := by
  unfold chkE at h
  split at h
  · simp only [Bool.and_eq_true] at h
    obtain ⟨⟨⟨⟨⟨⟨h1, h2⟩, h3⟩, h4⟩, h5⟩, h6⟩, h7⟩ := h
    have hcl := c.hcalm h1
    exact ⟨_, _, _, _, _, _, rfl, h1, comp_of C c h1 h3 h4 h5 (sndI hk it _ k X W C c _ _ h2) (fun s H ca cl fp => sndC hk cond _ _ _ WF (C.blk hcl) (c.blk (blk_kind h4)) _ h6) (fun s H ca cl fp => (sndE hk elt _ _ _ WF (C.blk hcl) (c.blk (blk_kind h4)) _ h7).oe)⟩
  · cases h
theorem dcomp_inv {k : Ck} {X : Cx} {W : WX} (C : Cok X R W G call nm) (c : Cxt k X) {a b : E} {tg : Tg} {it : Kn.It} {x : Str} {px : Pos} {i : Nat} {spos : Pos} {pe : Expr} (h : chkE G nm k (.dcomp a b tg it) pe = true) (hN : X.N[i]? = some x) (hl : X.env.scope.names.lookup x = some .local) (hsw : swapsWith pe (some (.Name x px)) spos.line X.env = pure true) : OkS X R W G call (.asg (.name i) (.dcomp a b tg it)) (.Assign [.Name x px] pe spos) := by
  unfold chkE at h
  split at h
  · simp only [Bool.and_eq_true] at h
    obtain ⟨⟨⟨⟨⟨⟨h1, h2⟩, h3⟩, h4⟩, h5⟩, h6⟩, h7⟩ := h
    have hcl := c.hcalm h1
    exact oks_setDc C hcl hk hN hl hsw (sndI hk it _ k X W C c _ _ h2) (by rw [c.hN, c.hsc]; exact blkOk_by h4) (own_slots _) (fun fz s H ca cl fp => tgB_ok ((C.wf fz).blk hcl) (c.blk (blk_kind h4)) h5) (fun s H ca cl fp => tgB_ok (C.blk hcl) (c.blk (blk_kind h4)) h5)
      (fun fz s H ca cl fp => (sndE hk a (R.wf fz) _ _ WF ((C.wf fz).blk hcl) (c.blk (blk_kind h4)) _ h6).oe) (fun fz s H ca cl fp => (sndE hk b (R.wf fz) _ _ WF ((C.wf fz).blk hcl) (c.blk (blk_kind h4)) _ h7).oe) (fsB_ok h3)
  · cases h
theorem snd_name {k : Ck} {X : Cx} {W : WX} (C : Cok X R W G call nm) (c : Cxt k X) {i : Nat} {e : E} {x : Str} {q pos : Pos} {pe : Expr} (h : (stoB k i x && noDS pe && chkE G nm k e pe && (!(swB k pe x q) || (match e with
      | .comp .. => true
      | .dcomp .. => true
      | _ => false))) = true) : OkS X R W G call (.asg (.name i) e) (.Assign [.Name x q] pe pos) := by
  simp only [Bool.and_eq_true] at h
  obtain ⟨⟨⟨h1, h2⟩, h3⟩, h4⟩ := h
  obtain ⟨s1, s2⟩ := stoB_ok c h1
  have hsw := swB_ok (x := x) (p := q) (l := pos.line) c h2
  cases hs : swB k pe x q with
  | false =>
    rw [hs] at hsw
    exact oks_set C s1 s2 hsw (sndE hk e _ k X W C c _ h3).oe
  | true =>
    rw [hs] at hsw h4
    cases e with
    | comp elt tg it cond =>
      obtain ⟨pelt, ptg, piter, pifs, scope, cpos, rfl, hcl, K⟩ := comp_inv hk C c h3
      have hl : locB k x = true := by
        unfold swB at hs
        simp only [Bool.and_eq_true] at hs
        exact hs.1.1
      exact oks_setLc C (c.hcalm hcl) hk s1 (locB_ok c hl) hsw K.hi K.ok K.hown K.hg K.hc K.he K.hs
    | dcomp a b tg it =>
      have hl : locB k x = true := by
        unfold swB at hs
        split at hs
        · simp only [Bool.and_eq_true] at hs; exact hs.1.1
        · simp only [Bool.and_eq_true] at hs; exact hs.1.1
        · cases hs
      exact dcomp_inv hk C c h3 s1 (locB_ok c hl) hsw
    | _ => simp at h4
mutual
theorem sndS : ∀ (st : S) (k : Ck) (X : Cx) (W : WX) (C : Cok X R W G call nm) (c : Cxt k X) (so : Sok X) (tk : Kn.Tok X) (p : Stmt), chkS G nm k st p = true → OkS X R W G call st p
  | .ret e, k, X, W, C, c, so, tk, p, h => by
    unfold chkS at h
    split at h
    · exact oks_ret (sndE hk e _ k X W C c _ h).oe
    · split at h
      · exact oks_retN
      · cases h
    · cases h
  | .expr e, k, X, W, C, c, so, tk, p, h => by
    unfold chkS at h
    split at h
    · rw [Bool.and_eq_true] at h
      exact oks_expr h.1 (sndE hk e _ k X W C c _ h.2).oe
    · cases h
  | .asg l e, k, X, W, C, c, so, tk, p, h => by
    unfold chkS at h
    split at h
    · exact snd_name hk C c h
    · split at h
      · rw [Bool.and_eq_true, Bool.or_eq_true] at h
        obtain ⟨h1, h⟩ := h
        rcases h with h | h
        rotate_left
        · simp only [Bool.and_eq_true] at h
          obtain ⟨⟨h2, h3⟩, h4⟩ := h
          rw [Bool.or_eq_true] at h2
          rcases h2 with h2 | h2
          · exact oks_asgT C (okG_tup C (c.hcalm h1) (gB1_ok c h3)) so_tup (sws_nl2 c h2) rfl (sndE hk _ _ k X W C c _ h4).oe
          · exact oks_asgT C (okG_tup C (c.hcalm h1) (gB1_ok c h3)) so_tup (sws_fold h2) rfl (sndE hk _ _ k X W C c _ h4).oe
        rw [Bool.and_eq_true] at h
        obtain ⟨h2, h3⟩ := h
        have hw := fun kt pt k2 pt2 => sws_two (kt := kt) (k2 := k2) (pt := pt) (pt2 := pt2) c h2
        have h2' := h2
        unfold parB at h2'
        simp only [Bool.and_eq_true, Bool.not_eq_true', decide_eq_true_eq] at h2'
        obtain ⟨⟨⟨⟨⟨⟨⟨⟨⟨⟨a1, a2⟩, a3⟩, a4⟩, a5⟩, _⟩, _⟩, _⟩, _⟩, _⟩, _⟩ := h2'
        exact oks_par C (c.hcalm h1) (by rw [c.hN]; exact a1) (by rw [c.hN]; exact a2) (Nat.ne_of_beq_eq_false a5) (locB_ok c a3) (locB_ok c a4) (hw _ _ _ _) (sndEs hk _ _ k X W C c _ h3)
      · simp only [Bool.and_eq_true] at h
        obtain ⟨⟨h1, h2⟩, h3⟩ := h
        have hw := fun kt pt k2 pt2 => sws_three (kt := kt) (k2 := k2) (pt := pt) (pt2 := pt2) c h2
        have h2' := h2
        unfold par3B at h2'
        simp only [Bool.and_eq_true, Bool.not_eq_true', decide_eq_true_eq] at h2'
        obtain ⟨⟨⟨⟨⟨⟨⟨⟨⟨⟨⟨⟨⟨⟨⟨⟨⟨⟨a1, a2⟩, a3⟩, l1⟩, l2⟩, l3⟩, n1⟩, n2⟩, n3⟩, _⟩, _⟩, _⟩, _⟩, _⟩, _⟩, _⟩, _⟩, _⟩, _⟩ := h2'
        exact oks_par3 C (c.hcalm h1) (by rw [c.hN]; exact a1) (by rw [c.hN]; exact a2) (by rw [c.hN]; exact a3) (Nat.ne_of_beq_eq_false n1) (Nat.ne_of_beq_eq_false n2) (Nat.ne_of_beq_eq_false n3) (locB_ok c l1) (locB_ok c l2) (locB_ok c l3) (hw _ _ _ _) (sndEs hk _ _ k X W C c _ h3)
      · simp only [Bool.and_eq_true, Bool.not_eq_true'] at h
        obtain ⟨⟨⟨h1, h2⟩, h3⟩, h4⟩ := h
        exact oks_asgT C (okG_tup C (c.hcalm h1) (gB1_ok c h3)) so_tup (sws_none h2) rfl (sndE hk _ _ k X W C c _ h4).oe
    · simp only [Bool.and_eq_true] at h
      obtain ⟨⟨⟨h1, h2⟩, h3⟩, h4⟩ := h
      exact oks_sub C h1 so_sub (sndE hk _ _ k X W C c _ h2).oe (sndE hk _ _ k X W C c _ h3).oe (sndE hk _ _ k X W C c _ h4).oe
    · simp only [Bool.and_eq_true, decide_eq_true_eq] at h
      obtain ⟨⟨h1, h2⟩, h3⟩ := h
      exact oks_fld C h1 sw_att (sndE hk _ _ k X W C c _ h2).oe (sndE hk _ _ k X W C c _ h3).oe
    · simp only [Bool.and_eq_true] at h
      obtain ⟨⟨⟨h1, h2⟩, h3⟩, h4⟩ := h
      obtain ⟨v1, v2, v3, v4⟩ := varB_ok c h2
      exact oks_flds C (c.hcalm h1) v1 v2 v3 v4 (fdB_ok h3) so_tup sws_att (sndE hk _ _ k X W C c _ h4).oe
    · cases h
  | .augN i o e, k, X, W, C, c, so, tk, p, h => by
    unfold chkS at h
    split at h
    · rw [Bool.and_eq_true] at h
      obtain ⟨s1, s2⟩ := stoB_ok c h.1
      exact oks_augN C s1 s2 (sndE hk e _ k X W C c _ h.2).oe
    · cases h
  | .augS o i q e, k, X, W, C, c, so, tk, p, h => by
    unfold chkS at h
    split at h
    · simp only [Bool.and_eq_true] at h
      obtain ⟨⟨⟨h1, h2⟩, h3⟩, h4⟩ := h
      exact oks_augS C h1 (sndE hk _ _ k X W C c _ h2).oe (sndE hk _ _ k X W C c _ h3).oe (sndE hk _ _ k X W C c _ h4).oe
    · cases h
  | .ite q a b, k, X, W, C, c, so, tk, p, h => by
    unfold chkS at h
    split at h
    · simp only [Bool.and_eq_true] at h
      obtain ⟨⟨⟨h1, h2⟩, h3⟩, h4⟩ := h
      exact oks_if ((sndE hk _ _ k X W C c _ h2).ot 8 h1) (sndSs a k X W C c so tk _ h3) (sndSs b k X W C c so tk _ h4)
    · cases h
  | .forr tg it b, k, X, W, C, c, so, tk, p, h => by
    unfold chkS at h
    split at h
    · simp only [Bool.and_eq_true] at h
      obtain ⟨⟨⟨⟨h1, h2⟩, h3⟩, h4⟩, h5⟩ := h
      exact oks_for C so (c.hcalm h1) hk (sndI hk it _ k X W C c _ _ h2) (tgB_ok C c h4) (sndSs b k X W C c so tk _ h5) (fsB_ok h3)
    · cases h
  | .whil q b, k, X, W, C, c, so, tk, p, h => by
    unfold chkS at h
    split at h
    · simp only [Bool.and_eq_true] at h
      obtain ⟨⟨h1, h2⟩, h3⟩ := h
      exact oks_while so ((sndE hk _ _ k X W C c _ h2).ot 8 h1) (sndSs b k X W C c so tk _ h3)
    · cases h
  | .pass, k, X, W, C, c, so, tk, p, h => by
    unfold chkS at h
    split at h
    · exact oks_pass
    · cases h
  | .cont, k, X, W, C, c, so, tk, p, h => by
    unfold chkS at h
    split at h
    · exact oks_cont
    · cases h
  | .raise q, k, X, W, C, c, so, tk, p, h => by
    unfold chkS at h
    split at h
    · simp only [Bool.and_eq_true, decide_eq_true_eq] at h
      obtain ⟨⟨⟨h1, h2⟩, h3⟩, h4⟩ := h
      exact oks_raise C (c.hcalm h1) h2 h3 (glB_ok c h4)
    · cases h
  | .tryW b q i f, k, X, W, C, c, so, tk, p, h => by
    unfold chkS at h
    split at h
    · simp only [Bool.and_eq_true, decide_eq_true_eq, notDbg, Bool.not_eq_true'] at h
      obtain ⟨⟨⟨⟨⟨⟨⟨⟨⟨⟨⟨h1, h2⟩, h3⟩, h4⟩, h5⟩, h6⟩, h7⟩, h8⟩, h9⟩, h10⟩, h11⟩, h12⟩ := h
      subst h2 h3
      have hcl := c.hcalm h1
      exact oks_tryW C hcl tk h4 h5 (glB_ok c h6) (by rw [c.hN]; exact h7) (locB_ok c h8) h9.1 h9.2 h10 (glB_ok c h11) fun W' pn xe t po => sndSs b k (X.tr pn xe) W' (C.tr hcl t) c.tr ⟨po, so.kind⟩ ⟨tk.stk, tk.frm⟩ _ h12
    · cases h
  | .tryN _ _, k, X, W, C, c, so, tk, p, h => by (unfold chkS at h; cases h)
theorem sndSs : ∀ (st : Ss) (k : Ck) (X : Cx) (W : WX) (C : Cok X R W G call nm) (c : Cxt k X) (so : Sok X) (tk : Kn.Tok X) (p : List Stmt), chkSs G nm k st p = true → OkSs X R W G call st p
  | .nil, k, X, W, C, c, so, tk, p, h => by
    unfold chkSs at h
    split at h
    · exact oks_nil
    · cases h
  | .cons s r, k, X, W, C, c, so, tk, p, h => by
    unfold chkSs at h
    rw [Bool.or_eq_true] at h
    rcases h with h | h
    · intro as st hs σ H D rs q
      unfold deadS at h
      split at h
      · rename_i g
        rw [exSs.eq_2, exS.eq_2, evE.eq_3] at q
        cases e : G.cst[g]? with
        | none => rw [e] at q; exact q.elim
        | some v => rw [e] at h; cases h
      · cases h
    split at h
    · rw [Bool.and_eq_true] at h
      exact oks_cons (sndS s k X W C c so tk _ h.1) (sndSs r k X W C c so tk _ h.2)
    · cases h
end
end
end Kn
namespace Kn
open PySem L2 KnK
structure Df where
  d : He.DefD
  N : List Str
  ps : List Str
def scopeB (D : Df) : Bool := (match D.d.scope.kind with | .function => true | _ => false) && !D.d.scope.isCoroutine && !D.d.scope.isGenerator && decide D.N.Nodup && decide (D.N.take D.ps.length = D.ps) &&
  (D.ps.all fun x => match D.d.scope.names.lookup x with | some .local => true | some .cell => true | _ => false) && (D.d.scope.names.all fun y => match y.2 with | .free => false | _ => true)
theorem scopeB_ok {D : Df} (h : scopeB D = true) : FnScope D.N D.ps D.d.scope := by
  unfold scopeB at h
  simp only [Bool.and_eq_true, Bool.not_eq_true', decide_eq_true_eq, List.all_eq_true] at h
  obtain ⟨⟨⟨⟨⟨⟨h1, h2⟩, h3⟩, h4⟩, h5⟩, h6⟩, h7⟩ := h
  refine ⟨?_, h2, h3, h4, h5, fun x hx => ?_, fun y hy e => ?_⟩
  · split at h1
    · rename_i e; exact e
    · cases h1
  · have := h6 x hx
    split at this
    · rename_i e; exact .inl e
    · rename_i e; exact .inr e
    · cases this
  · have := h7 y hy
    rw [e] at this
    cases this
def ckOf (D : Df) (calm : Bool) : Ck := ⟨D.N, D.d.scope, cellsOf D.d.scope, calm⟩
def oneB (G : Glo) (nm : Nm) (f : Nat) (D : Df) (F : Fn) : Bool := scopeB D && Nat.beq D.ps.length F.pars && Nat.beq D.N.length F.slots && Nat.ble F.pars F.slots && F.dfl.isEmpty && chkSs G nm (ckOf D (!(Nat.beq f nm.wh))) F.body D.d.body
def FnP (K : PySem.W.Frag) (D : Df) (fd : FuncData) : Prop := FunD K D.d.name D.d.qual D.d.params D.d.body D.d.scope (D.d.dvs K) [] (He.fAd K D.d.at_) fd
/-- what the head tells -/
structure PF (G : Glo) (nm : Nm) (defs : List Df) (R : Rp) (w : World) (K : PySem.W.Frag) (mg : Str → Option Value) : Prop where
  hK : K = R.K
  hw : w = R.w
  xo : ∀ k a, ¬ R.xo k a
  one : ∀ (f : Nat) (F : Fn), G.fns[f]? = some F → ∃ D, defs[f]? = some D ∧ oneB G nm f D F = true
  fun_ : ∀ (f : Nat) (D : Df), defs[f]? = some D → ∃ fd, FnP K D fd ∧ Binds K fd D.ps []
  brn : ∀ (c : Nat) (k : Kn.Cls) (f : Nat) (D : Df) (fd : FuncData), G.cls[c]? = some k → alist k.meths nm.brn = some f → defs[f]? = some D → FnP K D fd → BornB K fd D.ps
  blt : ∀ x ∈ bltNames, mg x = none
  cst : ∀ (g : Nat) (v : Val) (x : Str), G.cst[g]? = some v → nm.cst[g]? = some x → (x == ("__debug__" : Str)) = false ∧ ∃ u xv, mg x = some u ∧ RelV xv u ∧ ∀ as H, RV R as H v xv
  fns : ∀ (f : Nat) (x : Str) (D : Df), nm.fn[f]? = some x → defs[f]? = some D → (x == ("__debug__" : Str)) = false ∧ mg x = some (.ref (He.fAd K D.d.at_))
  fldN : ∀ (f : Nat) (x : Str), nm.fld[f]? = some x → R.fd f = x
  clsO : ∀ (c : Nat) (k : Kn.Cls), G.cls[c]? = some k → L2.Cls K (R.cl c) ∧ ∀ x ∈ nm.fld, NoAttr K (R.cl c) x
  mths : ∀ (c : Nat) (k : Kn.Cls) (m f : Nat) (x : Str) (D : Df), G.cls[c]? = some k → alist k.meths m = some f → nm.mth[m]? = some x → defs[f]? = some D → (∀ f, R.fd f ≠ x) ∧ Meth K (R.cl c) x (He.fAd K D.d.at_)
  news : ∀ (c : Nat) (k : Kn.Cls) (x : Str) (D : Df), G.cls[c]? = some k → nm.cls[c]? = some x → defs[k.init]? = some D → (x == ("__debug__" : Str)) = false ∧ mg x = some (.ref (R.cl c)) ∧ Mk K (R.cl c) (He.fAd K D.d.at_)
  excs : ∀ (k : Nat) (l : List Nat), G.exc[k]? = some l → L2.ExcC K (R.xc k)
  exN : ∀ (c : Nat) (x : Str), nm.exc[c]? = some x → (x == ("__debug__" : Str)) = false ∧ ∃ cv cx, (mg x = some cv ∨ (mg x = none ∧ bootBuiltins x = some cv ∧ x ≠ "__name__")) ∧ RelV cx cv ∧ (∀ u, RelV cx u → u = cv) ∧
    ∀ (k : Nat) (l : List Nat), G.exc[k]? = some l → PySem.W.kitOne K (.ref (R.xc k)) cv = some (l.contains c)
  exm : ∀ (c : Nat) (x : Str), nm.exc[c]? = some x → (G.exc[c]?).isSome = true → mg x = some (.ref (R.xc c)) ∧ ∀ (k : Nat) (l : List Nat), G.exc[k]? = some l → PySem.W.exmOne K (.ref (R.xc k)) (.ref (R.xc c)) = some (l.contains c)
  rais : ∀ (c : Nat), (G.exc[c]?).isSome = true → PySem.W.keepIn K (.ref (R.xc c)) = true ∧ PySem.W.subIn K (.ref (R.xc c)) (.type "BaseException") = some true ∧ PySem.W.typeIn K (.ref (R.xc c)) = some (.type "type") ∧ PySem.W.excIn K (R.xc c) bmV "ValueError.__new__" = true
  whD : ∀ x, nm.fn[nm.wh]? = some x → ∃ D, defs[nm.wh]? = some D
  whL : ∀ D, defs[nm.wh]? = some D → D.ps.length = 1
section
variable {G : Glo} {nm : Nm} {defs : List Df} {R : Rp} {P : Program} {w : World} {K : PySem.W.Frag} {mg : Str → Option Value} {base : Heap}
/-- the defs at a level -/
def Lvl (G : Glo) (nm : Nm) (defs : List Df) (R : Rp) (P : Program) (w : World) (K : PySem.W.Frag) (mg : Str → Option Value) (base : Heap) (k : Nat) : Prop :=
  (∀ (f : Nat) (F : Fn) (D : Df) (fd : FuncData), G.fns[f]? = some F → defs[f]? = some D → FnP K D fd → FnOk P w K mg base (L2N.CX P w) (2 * k) (He.fAd K D.d.at_) fd D.ps (spOf R (callAt G k) F.pars f)) ∧
  (∀ (D : Df) (fd : FuncData), defs[nm.wh]? = some D → FnP K D fd → FnW R G (callAt G k) nm.wh P w K mg base (2 * k) (He.fAd K D.d.at_) fd D.ps)
theorem PF.wf (pf : PF G nm defs R w K mg) (fz : Addr → Option HO) : PF G nm defs (R.wf fz) w K mg :=
  { pf with cst := fun g v x hg hx => let ⟨d, u, xv, e1, e2, e3⟩ := pf.cst g v x hg hx; ⟨d, u, xv, e1, e2, fun as H => RV.wf (e3 as H)⟩ }
theorem Lvl.wf {k : Nat} (lv : Lvl G nm defs R P w K mg base k) (fz : Addr → Option HO) : Lvl G nm defs (R.wf fz) P w K mg base k := by
  refine ⟨fun f F D fd hF hD hfd => ?_, fun D fd hD hfd kx l v h' hl hc hp A outer s H args a oe Q E hr hot hpin e0 hb hz hQ => ?_⟩
  · rw [spOf_wf]; exact lv.1 f F D fd hF hD hfd
  · exact lv.2 D fd hD hfd kx l v h' hl hc hp A outer s H args a oe Q E hr hot hpin e0 hb hz fun H' x h k rv => hQ H' x h ⟨k.t, k.z⟩ (RV.wf rv)
theorem cok_of (pf : PF G nm defs R w K mg) {k : Nat} (lv : Lvl G nm defs R P w K mg base k) {X : Cx} {W : WX} (hP : X.prog = P) (hw : X.w = w) (hK : X.K = K) (hmg : X.mg = mg) (hb : X.base = base) (hN : X.N.Nodup) (hr : Room (2 * k + 1) X.A) (tk : L2N.Takes X W) : Cok X R W G (callAt G k) nm := by
  subst hP hw hK hmg hb
  exact {
    hK := pf.hK
    hw := pf.hw
    nd := hN
    hu := by have := hr.un; omega
    tk := tk
    blt := pf.blt
    cst := pf.cst
    fns := fun _ f F x hF hx => by
      obtain ⟨D, hD, h1⟩ := pf.one f F hF
      obtain ⟨fd, F1, B1⟩ := pf.fun_ f D hD
      obtain ⟨d1, g1⟩ := pf.fns f x D hx hD
      unfold oneB at h1
      simp only [Bool.and_eq_true] at h1
      exact ⟨d1, _, fd, D.ps, 2 * k, g1, F1.kp, B1, Nat.eq_of_beq_eq_true h1.1.1.1.1.2, hr.mono (by omega), lv.1 f F D fd hF hD F1⟩
    xo0 := fun _ => pf.xo
    fldN := pf.fldN
    clsO := pf.clsO
    mths := fun _ c q m f F x hc hm hF hx => by
      obtain ⟨D, hD, h1⟩ := pf.one f F hF
      obtain ⟨fd, F1, B1⟩ := pf.fun_ f D hD
      obtain ⟨d1, g1⟩ := pf.mths c q m f x D hc hm hx hD
      unfold oneB at h1
      simp only [Bool.and_eq_true] at h1
      exact ⟨d1, _, fd, D.ps, 2 * k, g1, B1, Nat.eq_of_beq_eq_true h1.1.1.1.1.2, hr, lv.1 f F D fd hF hD F1⟩
    brns := fun _ c q f F x hc hm hF hx => by
      obtain ⟨D, hD, h1⟩ := pf.one f F hF
      obtain ⟨fd, F1, _⟩ := pf.fun_ f D hD
      obtain ⟨d1, g1⟩ := pf.mths c q _ f x D hc hm hx hD
      unfold oneB at h1
      simp only [Bool.and_eq_true] at h1
      exact ⟨d1, _, fd, D.ps, 2 * k, g1, pf.brn c q f D fd hc hm hD F1, Nat.eq_of_beq_eq_true h1.1.1.1.1.2, hr.mono (by omega), lv.1 f F D fd hF hD F1⟩
    exs := fun q a h => absurd h (pf.xo q a)
    excs := pf.excs
    exN := pf.exN
    exm := pf.exm
    rais := fun c h => let ⟨h1, h2, h3, h4⟩ := pf.rais c h; ⟨h1, raises_own h2 h3, h4⟩
    whO := fun _ x hx => by
      obtain ⟨D, hD⟩ := pf.whD x hx
      have hl := pf.whL D hD
      obtain ⟨fd, F1, B1⟩ := pf.fun_ _ D hD
      obtain ⟨d1, g1⟩ := pf.fns _ x D hx hD
      exact ⟨d1, _, fd, D.ps, 2 * k, g1, F1.kp, B1, hl, L2H.roomH_of (hr.mono (by omega)), lv.2 D fd hD F1⟩
    news := fun _ c q F x hc hF hx => by
      obtain ⟨D, hD, h1⟩ := pf.one _ F hF
      obtain ⟨fd, F1, B1⟩ := pf.fun_ _ D hD
      obtain ⟨d1, g1, g2⟩ := pf.news c q x D hc hx hD
      unfold oneB at h1
      simp only [Bool.and_eq_true] at h1
      exact ⟨d1, g1, _, fd, D.ps, 2 * k, g2, B1, Nat.eq_of_beq_eq_true h1.1.1.1.1.2, hr, lv.1 _ F D fd hF hD F1⟩ }
/-- at the entry -/
theorem start_rel {as : List Addr} {hs : Hs} {H : Hp} {vs : List Val} {xs : List V} {F : Fn} {N : List Str} (r : RH R as hs H) (q : RVs R as H vs xs) (hN : N.length = F.slots) : RS R as (startOf F vs) hs (start N xs) H := by
  have hl := q.len
  refine ⟨r, by unfold startOf L2.start; simp [hl, hN], fun i v e => ?_⟩
  unfold startOf at e
  by_cases h : i < vs.length
  · rw [List.getElem?_append_left (by simpa using h), List.getElem?_map] at e
    cases ev : vs[i]? with
    | none => rw [ev] at e; cases e
    | some u =>
      rw [ev] at e
      cases e
      obtain ⟨x, e1, e2⟩ := q.get ev
      refine ⟨x, ?_, e2⟩
      unfold L2.start
      rw [List.getElem?_append_left (by simpa [← hl] using h), List.getElem?_map, e1]
      rfl
  · rw [List.getElem?_append_right (by simpa using h)] at e
    have := List.mem_of_getElem? e
    rw [List.mem_replicate] at this
    cases this.2
theorem spOf_len {call : CallF} {n f : Nat} {xs : List V} {H : Hp} {Q : VK} {E : XK} (h : spOf R call n f xs H Q E) : xs.length = n := by
  obtain ⟨_, as, hs, vs, _, q, hl, _⟩ := h
  rw [← q.len]; exact hl
/-- the body's end as the call's -/
theorem call_end {k f : Nat} {F : Fn} {vs : List Val} {hs : Hs} (hF : G.fns[f]? = some F) (hl : vs.length = F.pars) (hd : F.dfl.isEmpty = true) : callAt G (k + 1) f vs hs = (match exSs G (callAt G k) F.body (startOf F vs) hs with
        | .nx _ h => .ok .non h
        | .rt v h => .ok v h
        | .ex c _ h => .ex c h
        | _ => .no) := by
  have hd' : F.dfl = [] := List.isEmpty_iff.mp hd
  conv => lhs; unfold callAt
  rw [hF]
  simp only [hl, hd', Nat.ble_eq, Nat.le_refl, Bool.and_self, List.length_nil, Nat.add_zero, List.drop_nil, List.append_nil]
  rw [if_pos (by simp)]
  all_goals (cases exSs G (callAt G k) F.body (startOf F vs) hs <;> rfl)
theorem lvl_zero (pf : PF G nm defs R w K mg) : Lvl G nm defs R P w K mg base 0 := by
  refine ⟨fun f F D fd hF hD hfd => ⟨fun vs H Q E h => ?_, fun A outer s H args us vs Q E _ _ _ _ h => ?_⟩, fun D fd hD hfd k l v h' hl hc => ?_⟩
  · obtain ⟨_, as, hs, ws, _, _, _, h⟩ := h
    exact h.elim
  · obtain ⟨_, as, hs, ws, _, _, _, h⟩ := h
    exact h.elim
  · cases hc
theorem lvl_fn (pf : PF G nm defs R w K mg) {k : Nat} (lv : Lvl G nm defs R P w K mg base k) {f : Nat} {F : Fn} {D : Df} {fd : FuncData} (hF : G.fns[f]? = some F) (hD : defs[f]? = some D) (hfd : FnP K D fd) :
    FnOk P w K mg base (L2N.CX P w) (2 * (k + 1)) (He.fAd K D.d.at_) fd D.ps (spOf R (callAt G (k + 1)) F.pars f) := by
  obtain ⟨D', hD', h1⟩ := pf.one f F hF
  rw [hD] at hD'; cases hD'
  unfold oneB at h1
  simp only [Bool.and_eq_true] at h1
  obtain ⟨⟨⟨⟨⟨h1, h2⟩, h3⟩, h4⟩, h5⟩, h6⟩ := h1
  have hps := Nat.eq_of_beq_eq_true h2
  have hsl := Nat.eq_of_beq_eq_true h3
  have S := scopeB_ok h1
  show FnOk P w K mg base (L2N.CX P w) ((2 * k + 1) + 1) _ fd D.ps _
  refine FunD.ok hfd S (fun vs H Q E h => (spOf_len h).trans hps.symm) fun cdv A outer s H xs Q E hr h => ?_
  obtain ⟨fz, as, hs, vs, rh, rv, hl, hc⟩ := h
  have rv : RVs (R.wf fz) as H vs xs := RVs.wf rv
  refine ⟨_, WpSs.pss _ _, ?_⟩
  rw [call_end hF hl h5] at hc
  have tk : L2N.Takes (cxOf (L2N.CX P w) P w K mg base D.N D.d.qual D.d.scope (He.fAd K D.d.at_) cdv A outer s H E) (fun cls d _ H => E cls d H) := L2N.takes_of rfl rfl rfl rfl
  have C := cok_of (pf.wf fz) (lv.wf fz) (X := cxOf (L2N.CX P w) P w K mg base D.N D.d.qual D.d.scope (He.fAd K D.d.at_) cdv A outer s H E) rfl rfl rfl rfl rfl S.nd hr tk
  have c : Cxt (ckOf D (!(Nat.beq f nm.wh))) (cxOf (L2N.CX P w) P w K mg base D.N D.d.qual D.d.scope (He.fAd K D.d.at_) cdv A outer s H E) := ⟨rfl, rfl, fun _ => rfl, fun _ _ => rfl, S.kind⟩
  refine sndSs (fun f vs h => callAt_k k f vs h) F.body _ _ _ C c ⟨PassesOwn.leaving, S.kind⟩ ⟨rfl, rfl⟩ _ h6 as (startOf F vs) hs (start D.N xs) H _ (start_rel rh rv hsl) ?_
  cases e : exSs G (callAt G k) F.body (startOf F vs) hs with
  | nx s2 h2 => rw [e] at hc; exact fun as' σ' H' p q r => hc as' H' .non p ⟨q.t, q.z⟩ r.h (by unfold RV; rfl)
  | rt v h2 => rw [e] at hc; exact fun as' H' x p q r rx => hc as' H' x p ⟨q.t, q.z⟩ r (RV.uf rx)
  | bk s2 h2 => rw [e] at hc; exact hc.elim
  | ct s2 h2 => rw [e] at hc; exact hc.elim
  | ex c s2 h2 => rw [e] at hc; exact fun as' σ' H' p q r => hc as' H' p ⟨q.t, q.z⟩ r.h
  | no => rw [e] at hc; exact hc.elim
mutual
theorem RV.re {R R2 : Rp} (hK : R.K = R2.K) (hx : ∀ k a, R.xo k a → R2.xo k a) {as : List Addr} {H : Hp} : ∀ (v : Val) (x : V), RV R as H v x → RV R2 as H v x
  | .non, _, h => h
  | .bl _, _, h => h
  | .int _, _, h => h
  | .str _, _, h => h
  | .tup vs, x, h => by
    unfold RV at h ⊢
    obtain ⟨a, xs, e, s, r⟩ := h
    exact ⟨a, xs, e, by rw [← hK]; exact s, RVs.re hK hx vs xs r⟩
  | .ref n, x, h => h
  | .fn _, _, h => h
  | .exc c, x, h => by
    unfold RV at h ⊢
    obtain ⟨a, e, q⟩ := h
    exact ⟨a, e, hx c a q⟩
theorem RVs.re {R R2 : Rp} (hK : R.K = R2.K) (hx : ∀ k a, R.xo k a → R2.xo k a) {as : List Addr} {H : Hp} : ∀ (vs : List Val) (xs : List V), RVs R as H vs xs → RVs R2 as H vs xs
  | [], _, h => h
  | v :: r, xs, h => by
    unfold RVs at h ⊢
    obtain ⟨x, t, e, h1, h2⟩ := h
    exact ⟨x, t, e, RV.re hK hx v x h1, RVs.re hK hx r t h2⟩
end
theorem RV.pl2 {R R2 : Rp} {v : Val} (h : plainV v = true) {as as' : List Addr} {H : Hp} {x : V} (r : RV R as H v x) : RV R2 as' H v x := by
  cases v <;> first | (unfold RV at r ⊢; exact r) | simp [plainV] at h
theorem RVs.pl2 {R R2 : Rp} {as as' : List Addr} {H : Hp} : ∀ {vs : List Val} {xs : List V}, vs.all plainV = true → RVs R as H vs xs → RVs R2 as' H vs xs
  | [], _, _, h => h
  | v :: r, _, h, q => by
    unfold RVs at q
    obtain ⟨x, t, rfl, h1, h2⟩ := q
    simp only [List.all_cons, Bool.and_eq_true] at h
    exact RVs.cons (RV.pl2 h.1 h1) (RVs.pl2 h.2 h2)
theorem RV.pu2 {R R2 : Rp} (hK : R.K = R2.K) {v : Val} (h : Kn.pureV v = true) {as as' : List Addr} {H : Hp} {x : V} (r : RV R as H v x) : RV R2 as' H v x := by
  cases v with
  | tup vs =>
    unfold RV at r ⊢
    obtain ⟨a, xs, e, h1, h2⟩ := r
    exact ⟨a, xs, e, by rw [← hK]; exact h1, RVs.pl2 h h2⟩
  | _ => exact RV.pl2 (by simpa [Kn.pureV] using h) r
theorem lvl_wh (pf : PF G nm defs R w K mg) {k : Nat} {D : Df} {fd : FuncData} (hD : defs[nm.wh]? = some D) (hfd : FnP K D fd) : FnW R G (callAt G (k + 1)) nm.wh P w K mg base (2 * (k + 1)) (He.fAd K D.d.at_) fd D.ps := by
  intro kx l v h' hl hc hp A outer s H args a oe Q E hr hot hpin e0 hb hz hQ
  cases hF : G.fns[nm.wh]? with
  | none => unfold callAt at hc; rw [hF] at hc; cases hc
  | some F =>
  obtain ⟨D', hD', h1⟩ := pf.one nm.wh F hF
  rw [hD] at hD'; cases hD'
  unfold oneB at h1
  simp only [Bool.and_eq_true] at h1
  obtain ⟨⟨⟨⟨⟨h1, h2⟩, h3⟩, h4⟩, h5⟩, h6⟩ := h1
  have hps := Nat.eq_of_beq_eq_true h2
  have hsl := Nat.eq_of_beq_eq_true h3
  have S := scopeB_ok h1
  have hl1 := pf.whL D hD
  rw [call_end hF (by rw [← hps, hl1]; rfl) h5] at hc
  obtain ⟨oc, od, dV, kV, doc, pm, an, cdv, ct, osl, rfl, lk, hcd, _, _⟩ := hfd.ex
  have KX : K.In s.heap := e0.mod.kin.keeps fun b o e => (e0.bs b o e).1
  have lim : s.heap.NoLimit := e0.mod.nolimit.keeps fun b o e => (e0.bs b o e).1
  have hkind : ∀ y ∈ D.ps.zip [Value.ref a], D.d.scope.names.lookup y.1 = some .local ∨ (D.d.scope.names.lookup y.1 = some .cell ∧ ((cellsFrom (s.heap.objs.size + 1) D.d.scope.names []).lookup y.1).isSome = true) := fun ⟨n, v⟩ hy => by
    rcases S.par n (List.of_mem_zip hy).1 with q | q
    · exact .inl q
    · exact .inr ⟨q, PySem.W.cellsFrom_some _ _ _ (.inl q)⟩
  refine codeAny_call_function hr.depth (KX _ _ lk) rfl S.co S.gen rfl (PySem.W.codeRec_of KX hcd) (hb _ _ _ _ ?_)
  refine wpAny_newFunctionEnv_cells S.kind hkind fun env he s1 x => ?_
  subst he
  refine ⟨lim.keeps x.toInCall.keep, codeAny_func ?_⟩
  let X := L2H.cxH (L2N.CX P w) P w K mg base D.N D.d.qual D.d.scope (He.fAd K D.d.at_) cdv A outer s H E (a, oe)
  have I : Inv X [] (L2.start D.N [.ref a]) H s1 := L2H.inv_startH (vs := [.ref a]) S hpin e0 (by rw [hl1]; rfl) (.cons rfl .nil) x
  let R2 : Rp := { R with xo := fun q b => q = kx ∧ b = a, fzn := H }
  have tk : L2N.Takes X (fun cls d _ H => E cls d H) := L2N.takes_of rfl rfl rfl rfl
  obtain ⟨fv, hfv, _⟩ := hot.2
  have C : Cok X R2 (fun cls d _ H => E cls d H) G (callAt G k) nm := {
    hK := pf.hK
    hw := pf.hw
    nd := S.nd
    hu := by have h1 := hr.un; show A.units + 3 + 100 < _; omega
    tk := tk
    blt := pf.blt
    cst := fun g v x hg hx => let ⟨d1, u, xv, e1, e2, e3⟩ := pf.cst g v x hg hx; ⟨d1, u, xv, e1, e2, fun as H => RV.re (R := R) (R2 := R2) rfl (fun k a h => absurd h (pf.xo k a)) _ _ (e3 as H)⟩
    fns := fun h => absurd (show false = true from h) Bool.false_ne_true
    xo0 := fun h => absurd (show false = true from h) Bool.false_ne_true
    fldN := pf.fldN
    clsO := pf.clsO
    mths := fun h => absurd (show false = true from h) Bool.false_ne_true
    brns := fun h => absurd (show false = true from h) Bool.false_ne_true
    exs := fun q b h => by
      obtain ⟨rfl, rfl⟩ := h
      exact ⟨oe, List.mem_cons_self, hz, fv, hfv⟩
    excs := pf.excs
    exN := pf.exN
    exm := pf.exm
    rais := fun c h => let ⟨h1, h2, h3, h4⟩ := pf.rais c h; ⟨h1, raises_own h2 h3, h4⟩
    whO := fun h => absurd (show false = true from h) Bool.false_ne_true
    news := fun h => absurd (show false = true from h) Bool.false_ne_true }
  have c : Cxt (ckOf D (!(Nat.beq nm.wh nm.wh))) X := ⟨rfl, rfl, fun h => by (have h : (!(Nat.beq nm.wh nm.wh)) = true := h; rw [Nat.beq_refl] at h; cases h), fun _ _ => rfl, S.kind⟩
  have rh : RH R2 [] [] H := ⟨rfl, List.nodup_nil, fun b u e => e, fun b hb => by (cases hb), fun n o e => by (simp at e)⟩
  have rv : RVs R2 [] H [.exc kx] [.ref a] := RVs.one (by unfold RV; exact ⟨a, rfl, rfl, rfl⟩)
  have ht : WpSs X D.d.body { nx := fun _ H' => Q .non H', rt := Q } (L2.start D.N [.ref a]) H := by
    refine sndSs (fun f vs h => callAt_k k f vs h) F.body _ X _ C c ⟨PassesOwn.leaving, S.kind⟩ ⟨rfl, rfl⟩ _ h6 [] (startOf F [.exc kx]) [] (start D.N [.ref a]) H _ (start_rel rh rv hsl) ?_
    cases e : exSs G (callAt G k) F.body (startOf F [.exc kx]) [] with
    | nx s2 h2 =>
      rw [e] at hc
      cases hc
      exact fun as' σ' H' p q r => hQ H' .non (fun b u e => r.h.fz b u e) ⟨q.t, q.z⟩ (by unfold RV; rfl)
    | rt v2 h2 =>
      rw [e] at hc
      cases hc
      exact fun as' H' y p q r ry => hQ H' y (fun b u e => r.fz b u e) ⟨q.t, q.z⟩ (RV.pu2 (R := R2) (R2 := R) rfl hp ry)
    | bk s2 h2 => rw [e] at hc; cases hc
    | ct s2 h2 => rw [e] at hc; cases hc
    | ex c s2 h2 => rw [e] at hc; cases hc
    | no => rw [e] at hc; cases hc
  refine wpAny_mono (ht [] s1 I) (fun fl s' hs => ?_) fun e s' hs => hs
  have fin : ∀ {σ' : L2.St} {H' : Hp} {v : V} {u : Value}, Inv X [] σ' H' s' → RelV v u → Q v H' → CE outer P w H s Q u s' :=
    fun {σ' H' v u} J rv q => ⟨v, H', J.os, J.bare, J.base, J.hok, rv, q⟩
  cases fl with
  | ret u =>
    obtain ⟨v, σ', H', J, rv, q⟩ := hs
    exact fin J rv q
  | next =>
    obtain ⟨σ', H', J, q⟩ := hs
    exact fin (v := V.non) (u := Value.none) J rfl q
  | brk =>
    obtain ⟨_, _, _, q⟩ := hs
    exact False.elim q
  | cont =>
    obtain ⟨_, _, _, q⟩ := hs
    exact False.elim q
theorem lvl (pf : PF G nm defs R w K mg) : ∀ k, Lvl G nm defs R P w K mg base k
  | 0 => lvl_zero pf
  | k + 1 => ⟨fun f F D fd hF hD hfd => lvl_fn pf (lvl pf k) hF hD hfd, fun D fd hD hfd => lvl_wh pf hD hfd⟩
end
end Kn
namespace Kn
abbrev Sx (ns : List Int) : Obj := .frz (.list (ns.map .int))
abbrev Tw (a b : Nat) : Obj := .list [.int a, .int b]
theorem callAt_go {G : Glo} {k f : Nat} {F : Fn} {as : List Val} {h : Hs} (e : G.fns[f]? = some F) (hl : as.length = F.pars) : callAt G (k + 1) f as h = (match exSs G (callAt G k) F.body (startOf F as) h with
    | .nx _ h => .ok .non h
    | .rt v h => .ok v h
    | .ex c _ h => .ex c h
    | _ => .no) := by
  conv => lhs; unfold callAt
  rw [e]
  simp only [hl, Nat.ble_eq, Nat.le_refl, Bool.and_self, Nat.sub_self, Nat.sub_zero, List.drop_length, List.append_nil, Nat.le_add_right]
  rw [if_pos (by simp)]
  all_goals (cases exSs G (callAt G k) F.body (startOf F as) h <;> rfl)
theorem callAt_rt {G : Glo} {k f : Nat} {F : Fn} {as : List Val} {h h' : Hs} {v : Val} (e : G.fns[f]? = some F) (hl : as.length = F.pars) (x : exSs G (callAt G k) F.body (startOf F as) h = .rt v h') : callAt G (k + 1) f as h = .ok v h' := by
  rw [callAt_go e hl, x]
theorem callAt_nx {G : Glo} {k f : Nat} {F : Fn} {as : List Val} {s : St} {h h' : Hs} (e : G.fns[f]? = some F) (hl : as.length = F.pars) (x : exSs G (callAt G k) F.body (startOf F as) h = .nx s h') : callAt G (k + 1) f as h = .ok .non h' := by
  rw [callAt_go e hl, x]
theorem callAt_ex {G : Glo} {k f c : Nat} {F : Fn} {as : List Val} {s : St} {h h' : Hs} (e : G.fns[f]? = some F) (hl : as.length = F.pars) (x : exSs G (callAt G k) F.body (startOf F as) h = .ex c s h') : callAt G (k + 1) f as h = .ex c h' := by
  rw [callAt_go e hl, x]
theorem int_mod_nat (x : Int) (m : Nat) (hm : 0 < m) : ∃ d : Nat, d < m ∧ x % (m : Int) = (d : Int) :=
  ⟨(x % (m : Int)).toNat, by have := Int.emod_lt_of_pos x (b := (m : Int)) (by omega); have := Int.emod_nonneg x (b := (m : Int)) (by omega); omega, by have := Int.emod_nonneg x (b := (m : Int)) (by omega); omega⟩
theorem inI_of {x : Int} {n : Nat} (h : x.natAbs < n) : inI x n = true := by
  unfold inI
  exact Nat.ble_eq_true_of_le h
theorem refsVs_ints : ∀ ns : List Int, refsVs (ns.map .int) = []
  | [] => rfl
  | n :: r => by simp only [List.map_cons, refsVs, refsV, refsVs_ints r]; rfl
theorem refsO_Sx (ns : List Int) : refsO (Sx ns) = [] := by simp only [refsO, refsVs_ints]
theorem refsO_Tw (a b : Nat) : refsO (Tw a b) = [] := rfl
section
variable {call : CallF} {f : Nat} {vs : List Val} {h h1 : Hs} {v : Val}
theorem callE_pure (er : refsVs vs = []) (e : call f vs [] = .ok v h1) (ev : refsV v = []) : callE call f vs h = .ok v h := by
  unfold callE
  simp only [er, e, ev]
theorem callE_pureX {c : Nat} (er : refsVs vs = []) (e : call f vs [] = .ex c h1) : callE call f vs h = .ex c h := by
  unfold callE
  simp only [er, e]
theorem mapRs_free {p : Nat → Nat} {l : List Val} (er : refsVs l = []) : mapRs p l = l := mapRs_id l (by rw [er]; intro n hn; cases hn)
theorem mapR_free {p : Nat → Nat} {l : Val} (er : refsV l = []) : mapR p l = l := mapR_id l (by rw [er]; intro n hn; cases hn)
theorem mapRO_free {p : Nat → Nat} {l : Obj} (er : refsO l = []) : mapRO p l = l := mapRO_id l (by rw [er]; intro n hn; cases hn)
theorem callE_town {ns : List Int} {a b a' b' : Nat} {rest : List Val} {g : Hs} (er : refsVs rest = []) (e : call f (.ref 0 :: .ref 1 :: rest) [Sx ns, Tw a b] = .ok v (Sx ns :: Tw a' b' :: g)) (ev : refsV v = []) :
    callE call f (.ref 0 :: .ref 1 :: rest) (Sx ns :: Tw a b :: h) = .ok v (Sx ns :: Tw a' b' :: h) := by
  have r1 : refsVs (.ref 0 :: .ref 1 :: rest) = [0, 1] := by simp only [refsVs, refsV, er]; rfl
  have r2 : reach (Sx ns :: Tw a b :: h) 10000 [0, 1] [] = [0, 1] := by
    simp [reach, refsO_Sx, refsO_Tw, memN]
  have r3 : closedB (Sx ns :: Tw a b :: h) [0, 1] [0, 1] = true := by
    simp [closedB, nodupN, memN, refsO_Sx, refsO_Tw]
    rfl
  have r4 : subOf (Sx ns :: Tw a b :: h) [0, 1] = [Sx ns, Tw a b] := by
    simp [subOf, mapRO_free (refsO_Sx ns), mapRO_free (refsO_Tw a b)]
  have r5 : mapRs (fun n => idxN n [0, 1] 0) (.ref 0 :: .ref 1 :: rest) = .ref 0 :: .ref 1 :: rest := by
    simp only [mapRs, mapR, mapRs_free er]
    rfl
  unfold callE
  rw [r1]
  simp only [callSub, r2, r3, r4, r5, e, mapR_free ev, ev, if_true]
  simp [putBack, below, refsO_Sx, refsO_Tw, mapRO_free (refsO_Sx ns), mapRO_free (refsO_Tw a' b'), wb]
theorem callE_town1 {ns : List Int} {a b a' b' i : Nat} {ws : List Val} {g : Hs} (ei : h[i]? = some (.list ws)) (er : refsVs ws = []) (e : call f [.ref 0, .ref 1, .ref 2] [Sx ns, Tw a b, .list ws] = .ok v (Sx ns :: Tw a' b' :: .list ws :: g)) (ev : refsV v = []) :
    callE call f [.ref 0, .ref 1, .ref (i + 2)] (Sx ns :: Tw a b :: h) = .ok v (Sx ns :: Tw a' b' :: h) := by
  have ro : refsO (.list ws) = [] := er
  have r1 : refsVs [.ref 0, .ref 1, .ref (i + 2)] = [0, 1, i + 2] := rfl
  have r2 : reach (Sx ns :: Tw a b :: h) 10000 [0, 1, i + 2] [] = [0, 1, i + 2] := by
    simp [reach, refsO_Sx, refsO_Tw, memN, ei, ro]
  have r3 : closedB (Sx ns :: Tw a b :: h) [0, 1, i + 2] [0, 1, i + 2] = true := by
    simp [closedB, nodupN, memN, refsO_Sx, refsO_Tw, ei, ro]
    exact ⟨⟨rfl, rfl⟩, rfl⟩
  have r4 : subOf (Sx ns :: Tw a b :: h) [0, 1, i + 2] = [Sx ns, Tw a b, .list ws] := by
    simp [subOf, mapRO_free (refsO_Sx ns), mapRO_free (refsO_Tw a b), ei, mapRO_free ro]
  have r5 : mapRs (fun n => idxN n [0, 1, i + 2] 0) [.ref 0, .ref 1, .ref (i + 2)] = [.ref 0, .ref 1, .ref 2] := by
    simp [mapRs, mapR, idxN]
  unfold callE
  rw [r1]
  simp only [callSub, r2, r3, r4, r5, e, mapR_free ev, ev, if_true]
  have hi : i < h.length := (List.getElem?_eq_some_iff.mp ei).1
  have hs : h.set i (.list ws) = h := by
    apply List.ext_getElem?
    intro j
    rw [List.getElem?_set]
    split
    · rename_i q; subst q; rw [ei]
    · rfl
  simp [putBack, below, refsO_Sx, refsO_Tw, mapRO_free (refsO_Sx ns), mapRO_free (refsO_Tw a' b'), mapRO_free ro, ro, wb, hs]
end
theorem txEq_self : ∀ a : Tx, txEq a a = true
  | [] => rfl
  | x :: r => by simp [txEq, txEq_self r]
theorem txEq_dec (a b : Tx) : txEq a b = decide (a = b) := by
  induction a generalizing b with
  | nil => cases b <;> simp [txEq]
  | cons x r ih =>
    cases b with
    | nil => simp [txEq]
    | cons y t =>
      simp only [txEq, ih]
      by_cases h : x = y
      · subst h
        simp
      · have : Nat.beq x y = false := by
          cases e : Nat.beq x y with
          | false => rfl
          | true => exact absurd (Nat.eq_of_beq_eq_true e) h
        simp [this, h]
theorem vEq_str (a b : Tx) : vEq (.str a) (.str b) = decide (a = b) := by unfold vEq; exact txEq_dec a b
def CT (G : Glo) (k f : Nat) (vs : List Val) (v : Val) : Prop := ∃ h, callAt G k f vs [] = .ok v h
def CXc (G : Glo) (k f : Nat) (vs : List Val) (c : Nat) : Prop := ∃ h, callAt G k f vs [] = .ex c h
theorem CT.e {G : Glo} {k f : Nat} {vs : List Val} {v : Val} {h : Hs} (c : CT G k f vs v) (er : refsVs vs = []) (ev : refsV v = []) : callE (callAt G k) f vs h = .ok v h := let ⟨_, e⟩ := c; callE_pure er e ev
theorem CXc.e {G : Glo} {k f c : Nat} {vs : List Val} {h : Hs} (x : CXc G k f vs c) (er : refsVs vs = []) : callE (callAt G k) f vs h = .ex c h := let ⟨_, e⟩ := x; callE_pureX er e
/-- a call with one dict of plain values, that stays -/
theorem callE_one {call : CallF} {f i : Nat} {o : Obj} {rest : List Val} {h g : Hs} {v : Val} (ei : h[i]? = some o) (ro : refsO o = []) (er : refsVs rest = []) (e : call f (.ref 0 :: rest) [o] = .ok v (o :: g)) (ev : refsV v = []) : callE call f (.ref i :: rest) h = .ok v h := by
  have r1 : refsVs (.ref i :: rest) = [i] := by simp only [refsVs, refsV, er]; rfl
  have r2 : reach h 10000 [i] [] = [i] := by simp [reach, memN, ei, ro]
  have r3 : closedB h [i] [i] = true := by simp [closedB, nodupN, memN, ei, ro]
  have r4 : subOf h [i] = [o] := by simp [subOf, ei, mapRO_free ro]
  have r5 : mapRs (fun n => idxN n [i] 0) (.ref i :: rest) = .ref 0 :: rest := by
    simp only [mapRs, mapR, mapRs_free er]
    simp [idxN]
  unfold callE
  rw [r1]
  simp only [callSub, r2, r3, r4, r5, e, mapR_free ev, ev, if_true]
  have hi : i < h.length := (List.getElem?_eq_some_iff.mp ei).1
  have hs : h.set i o = h := by
    apply List.ext_getElem?
    intro j
    rw [List.getElem?_set]
    split
    · rename_i q; subst q; rw [ei]
    · rfl
  simp [putBack, below, ro, mapRO_free ro, wb, hs]
theorem set_last {α : Type} (R : List α) (x y : α) : (R ++ [x]).set R.length y = R ++ [y] := by
  rw [List.set_append_right _ _ (Nat.le_refl _)]
  simp
theorem get_last {α : Type} (R : List α) (x : α) : (R ++ [x])[R.length]? = some x := by simp
def ulkS (src : Src) (h1 : Hs) : OutS → OutS
  | .nx s h2 => .nx s (unlkd src h1 h2)
  | .rt v h2 => .rt v (unlkd src h1 h2)
  | .ex c s h2 => if src.dk then .no else .ex c s (unlkd src h1 h2)
  | _ => .no
def forB (G : Glo) (call : CallF) (b : Ss) (tg : Tg) : Val → St → Hs → OutS := forTurn (fun s h => exSs G call b s h) tg
theorem exS_for {G : Glo} {call : CallF} {tg : Tg} {it : Kn.It} {b : Ss} {s : St} {h h1 : Hs} {src : Src} (hi : evI G call it s h = .ok src h1) :
    exS G call (.forr tg it b) s h = ulkS src h1 (forGo (forB G call b tg) src.items s (lkd src h1)) := by
  unfold exS
  rw [hi]
  simp only [Out.toS]
  unfold forB
  cases forGo (forTurn (fun s h => exSs G call b s h) tg) src.items s (lkd src h1) <;> rfl
theorem exS_for0 {G : Glo} {call : CallF} {tg : Tg} {it : Kn.It} {b : Ss} {s : St} {h h1 : Hs} {items : List Val} {dk : Bool} {o : OutS} (hi : evI G call it s h = .ok ⟨items, none, dk⟩ h1)
    (ho : forGo (forB G call b tg) items s h1 = o) (hk : (∃ s h, o = .nx s h) ∨ ∃ v h, o = .rt v h) : exS G call (.forr tg it b) s h = o := by
  rw [exS_for hi]
  simp only [lkd]
  rw [ho]
  rcases hk with ⟨s, h, rfl⟩ | ⟨v, h, rfl⟩ <;> rfl
theorem forB_name {G : Glo} {call : CallF} {b : Ss} {i : Nat} {v : Val} {s : St} {h : Hs} : forB G call b (.name i) v s h = exSs G call b (s.set i (some v)) h := rfl
theorem forB_tup {G : Glo} {call : CallF} {b : Ss} {js : List Nat} {vs : List Val} {s s2 : St} {h : Hs} (e : sets s js vs = some s2) : forB G call b (.tup js) (.tup vs) s h = exSs G call b s2 h := by
  unfold forB forTurn tgSet
  simp only [e]
theorem forGo_cons {f : Val → St → Hs → OutS} {v : Val} {r : List Val} {s : St} {h : Hs} : forGo f (v :: r) s h = (match f v s h with
    | .nx s h => forGo f r s h
    | .ct s h => forGo f r s h
    | .bk s h => .nx s h
    | x => x) := rfl
theorem forGo_nil {f : Val → St → Hs → OutS} {s : St} {h : Hs} : forGo f [] s h = .nx s h := rfl
theorem forTurn_name {eb : St → Hs → OutS} {i : Nat} {v : Val} {s : St} {h : Hs} : forTurn eb (.name i) v s h = eb (s.set i (some v)) h := rfl
theorem compGo_fm {f : Val → Hs → Out (Option Val)} {h : Hs} {F : Val → Option Val} : ∀ (items acc : List Val), (∀ v ∈ items, ∀ acc', f v (h ++ [.lck acc']) = .ok (F v) (h ++ [.lck acc'])) → acc.length + items.length ≤ sizeMax →
    compGo f h.length items acc (h ++ [.lck acc]) = .ok (acc ++ items.filterMap F) (h ++ [.lck (acc ++ items.filterMap F)])
  | [], acc, _, _ => by simp [compGo]
  | v :: r, acc, hf, hl => by
    have e := hf v (by simp) acc
    have ih := fun acc' hl' => compGo_fm (f := f) (h := h) (F := F) r acc' (fun w hw a => hf w (List.mem_cons_of_mem _ hw) a) hl'
    simp only [List.length_cons] at hl
    unfold compGo
    rw [e]
    cases hv : F v with
    | none =>
      simp only [List.filterMap_cons, hv]
      exact ih acc (by omega)
    | some x =>
      have h1 : Nat.blt acc.length sizeMax = true := Nat.ble_eq_true_of_le (by omega)
      simp only [h1, if_true, List.filterMap_cons, hv]
      rw [List.set_append_right _ _ (Nat.le_refl _)]
      simp only [Nat.sub_self, List.set_cons_zero]
      rw [ih (acc ++ [x]) (by simp; omega)]
      simp
theorem comp_fm {G : Glo} {call : CallF} {elt : E} {tg : Tg} {it : Kn.It} {cond : Es} {s : St} {h : Hs} {items : List Val} {F : Val → Option Val} {dk : Bool} (hi : evI G call it s h = .ok ⟨items, none, dk⟩ h) (hl : items.length ≤ sizeMax)
    (hf : ∀ v ∈ items, ∀ acc, compTurn (fun s h => evEs G call cond s h) (fun s h => evE G call elt s h) tg s v (h ++ [.lck acc]) = .ok (F v) (h ++ [.lck acc])) :
    evE G call (.comp elt tg it cond) s h = .ok (.ref h.length) (h ++ [.list (items.filterMap F)]) := by
  have e := compGo_fm (h := h) items [] hf (by simpa using hl)
  unfold evE
  rw [hi]
  simp only [Out.bind, lkd, unlkd]
  rw [e]
  simp
theorem comp_map {G : Glo} {call : CallF} {elt : E} {tg : Tg} {it : Kn.It} {cond : Es} {s : St} {h : Hs} {items : List Val} {F : Val → Val} {dk : Bool} (hi : evI G call it s h = .ok ⟨items, none, dk⟩ h) (hl : items.length ≤ sizeMax)
    (hf : ∀ v ∈ items, ∀ acc, compTurn (fun s h => evEs G call cond s h) (fun s h => evE G call elt s h) tg s v (h ++ [.lck acc]) = .ok (some (F v)) (h ++ [.lck acc])) :
    evE G call (.comp elt tg it cond) s h = .ok (.ref h.length) (h ++ [.list (items.map F)]) := by
  have e := comp_fm (F := fun v => some (F v)) hi hl hf
  rw [e]
  simp
theorem compGo_fmL {f : Val → Hs → Out (Option Val)} {h : Hs} {n : Nat} {o : Obj} {F : Val → Option Val} (hn : n < h.length) : ∀ (items acc : List Val), (∀ v ∈ items, ∀ acc', f v (h.set n o ++ [.lck acc']) = .ok (F v) (h.set n o ++ [.lck acc'])) → acc.length + items.length ≤ sizeMax →
    compGo f h.length items acc (h.set n o ++ [.lck acc]) = .ok (acc ++ items.filterMap F) (h.set n o ++ [.lck (acc ++ items.filterMap F)]) := fun items acc hf hl => by
  have := compGo_fm (f := f) (h := h.set n o) (F := F) items acc hf hl
  rwa [List.length_set] at this
/-- over a list of the heap -/
theorem comp_fmL {G : Glo} {call : CallF} {elt : E} {tg : Tg} {it : Kn.It} {cond : Es} {s : St} {h : Hs} {n : Nat} {items : List Val} {F : Val → Option Val} (hn : h[n]? = some (.list items)) (hi : evI G call it s h = .ok ⟨items, some n, false⟩ h) (hl : items.length ≤ sizeMax)
    (hf : ∀ v ∈ items, ∀ acc, compTurn (fun s h => evEs G call cond s h) (fun s h => evE G call elt s h) tg s v (h.set n (.lck items) ++ [.lck acc]) = .ok (F v) (h.set n (.lck items) ++ [.lck acc])) :
    evE G call (.comp elt tg it cond) s h = .ok (.ref h.length) (h ++ [.list (items.filterMap F)]) := by
  have hlt := (List.getElem?_eq_some_iff.mp hn).1
  have e := compGo_fmL (h := h) (o := .lck items) hlt items [] hf (by simpa using hl)
  have hk : Kn.lock h n = h.set n (.lck items) := by unfold Kn.lock; rw [hn]
  unfold evE
  rw [hi]
  simp only [Out.bind, lkd, unlkd, hk]
  rw [e]
  have hs : (h.set n (.lck items)).set n (.list items) = h := by
    rw [List.set_set]
    apply List.ext_getElem?
    intro j
    rw [List.getElem?_set]
    split
    · rename_i q; subst q; rw [hn]; try simp [hlt]
    · rfl
  simp only [Kn.unlock, hn, List.nil_append]
  rw [List.set_append_left _ _ (by rw [List.length_set]; exact hlt), hs, set_last]
theorem exSs_cons {G : Glo} {call : CallF} {a : S} {r : Ss} {s s1 : St} {h h1 : Hs} {o : OutS} (e1 : exS G call a s h = .nx s1 h1) (e2 : exSs G call r s1 h1 = o) : exSs G call (.cons a r) s h = o := by
  rw [exSs.eq_2, e1]; exact e2
theorem get_app {α : Type} {R X : List α} {i : Nat} {o : α} (h : R[i]? = some o) : (R ++ X)[i]? = some o := by
  rw [List.getElem?_append_left (List.getElem?_eq_some_iff.mp h).1]; exact h
theorem allB_map {α : Type} (f : α → Bool) : ∀ l : List α, allB (l.map fun x => .bl (f x)) = some (l.all f)
  | [] => rfl
  | x :: r => by simp only [List.map_cons, allB, allB_map f r, Option.map_some, List.all_cons]
theorem anyB_map {α : Type} (f : α → Bool) : ∀ l : List α, anyB (l.map fun x => .bl (f x)) = some (l.any f)
  | [] => rfl
  | x :: r => by simp only [List.map_cons, anyB, anyB_map f r, Option.map_some, List.any_cons]
/-- what the evaluator must say of the law -/
def LawSays (G : Glo) (k lawId n : Nat) : Prop := ∀ ns : List Int, ns.length ≤ n → ∃ hs, callAt G k lawId [.ref 0] [.frz (.list (ns.map .int))] = .ok (.bl true) hs
def Ss.tl : Ss → Ss
  | .cons _ r => r
  | .nil => .nil
/-- the answer -/
def isOk (x : Out Val) (v : Val) : Bool := match x with
  | .ok w _ => vEq w v
  | _ => false
def isRt (x : OutS) (v : Val) : Bool := match x with
  | .rt w _ => vEq w v
  | _ => false
theorem vEq_true {v : Val} (h : vEq v (.bl true) = true) : v = .bl true := by
  cases v <;> simp [vEq] at h
  rw [h]
theorem isRt_ok {x : OutS} (h : isRt x (.bl true) = true) : ∃ hs, x = .rt (.bl true) hs := by
  unfold isRt at h
  split at h
  · exact ⟨_, by rw [vEq_true h]⟩
  · cases h
end Kn
namespace Kn
open PySem L2 KnK
def fdOf (l : List Str) (f : Nat) : Str := match l[f]? with
  | some x => x
  | none => ⟨(List.replicate (f + 1000) 120).toArray⟩
def fldB (l : List Str) : Bool := decide l.Nodup && l.all fun x => Nat.blt x.cps.size 1000
theorem fdOf_inj {l : List Str} (h : fldB l = true) : ∀ a b, fdOf l a = fdOf l b → a = b := by
  unfold fldB at h
  rw [Bool.and_eq_true, decide_eq_true_eq, List.all_eq_true] at h
  have hs : ∀ (a : Nat) (x : Str), l[a]? = some x → x.cps.size < 1000 := fun a x e => Nat.lt_of_succ_le (Nat.le_of_ble_eq_true (h.2 x (List.mem_of_getElem? e)))
  have hz : ∀ (x : Str) (n : Nat), x = ⟨(List.replicate (n + 1000) 120).toArray⟩ → x.cps.size = n + 1000 := fun x n e => by subst e; simp
  intro a b e
  unfold fdOf at e
  cases ea : l[a]? with
  | some x =>
    rw [ea] at e
    cases eb : l[b]? with
    | some y =>
      rw [eb] at e
      simp only at e
      subst e
      exact (List.getElem?_inj (List.getElem?_eq_some_iff.mp ea).1 h.1).mp (ea.trans eb.symm)
    | none =>
      rw [eb] at e
      have := hz x b e
      have := hs a x ea
      omega
  | none =>
    rw [ea] at e
    cases eb : l[b]? with
    | some y =>
      rw [eb] at e
      have := hz y a e.symm
      have := hs b y eb
      omega
    | none =>
      rw [eb] at e
      have h1 := hz _ b e
      simp at h1
      exact h1
def rpOf (nm : Nm) (hf : fldB nm.fld = true) (w : World) (K : PySem.W.Frag) : Rp where
  w := w
  K := K
  cl := fun c => He.ga K (nm.cls.getD c "")
  xc := fun c => He.ga K (nm.exc.getD c "")
  fd := fdOf nm.fld
  xo := fun _ _ => False
  fzn := fun _ => none
  fdInj := fdOf_inj hf
def cstFa (x : Str) : Val → List He.Fa
  | .int i => [.int x i]
  | .str t => [.str x (toS t)]
  | _ => []
def clsFa (nm : Nm) (x : Str) (k : Kn.Cls) : List He.Fa := [.glo x, .cls x, .mkr x] ++ nm.fld.map (.noat x) ++ k.meths.map fun m => .meth x (nm.mth.getD m.1 "")
def faOf (G : Glo) (nm : Nm) : List He.Fa := nm.fn.map .glo ++ bltNames.map .free ++ (nm.cst.zip G.cst).flatMap (fun p => cstFa p.1 p.2) ++ (nm.cls.zip G.cls).flatMap (fun p => clsFa nm p.1 p.2) ++ (nm.exc.take G.exc.length).flatMap fun x => [.glo x, .exc x]
def excCB (K : PySem.W.Frag) (D : Addr) : Bool := He.eqO (PySem.W.findIn K (.ref D) "__getattribute__") (some (some (.builtin "BaseException.__getattribute__"))) && He.eqO (PySem.W.findIn K (.ref D) "__getattr__") (some none) && decide (PySem.W.subIn K (.ref D) (.type "BaseException") = some true) && PySem.W.hasDictIn K D &&
  He.eqO (PySem.W.findIn K (.ref D) "__class__") (some (some (.builtin "object.__class__"))) && He.eqO (PySem.W.specialIn K (.builtin "object.__class__") "__get__") (some (some (.builtin "getset_descriptor.__get__"))) && decide (PySem.W.takesIn K (.builtin "object.__class__") = some true) && decide (PySem.W.mroIn K D (.type "object") = some true)
theorem excCB_ok {K : PySem.W.Frag} {D : Addr} (h : excCB K D = true) : L2.ExcC K D := by
  unfold excCB at h
  simp only [Bool.and_eq_true, decide_eq_true_eq] at h
  obtain ⟨⟨⟨⟨⟨⟨⟨h1, h2⟩, h3⟩, h4⟩, h5⟩, h6⟩, h7⟩, h8⟩ := h
  exact ⟨He.eqO_ok h1, He.eqO_ok h2, h3, h4, He.eqO_ok h5, He.eqO_ok h6, h7, h8⟩
def cvOf (G : Glo) (nm : Nm) (K : PySem.W.Frag) (c : Nat) : Value := if Nat.blt c G.exc.length then .ref (He.ga K (nm.exc.getD c "")) else .type "ValueError"
def exB0 (G : Glo) (nm : Nm) (K : PySem.W.Frag) : Bool := (K.all fun q => match q.2.cls with
    | .type "list" => false
    | _ => true) && (List.range G.exc.length).all fun k => excCB K (He.ga K (nm.exc.getD k "")) && (List.range nm.exc.length).all fun c =>
      decide (PySem.W.kitOne K (.ref (He.ga K (nm.exc.getD k ""))) (cvOf G nm K c) = some ((G.exc.getD k []).contains c)) && (!(Nat.blt c G.exc.length) || decide (PySem.W.exmOne K (.ref (He.ga K (nm.exc.getD k ""))) (.ref (He.ga K (nm.exc.getD c ""))) = some ((G.exc.getD k []).contains c)))
/-- a written tuple of texts -/
def txsB : List Val → List Value → Bool
  | [], [] => true
  | .str t :: r, .str y _ :: q => decide (y = toS t) && txsB r q
  | _, _ => false
def tcB (K : PySem.W.Frag) (x : Str) (ts : List Val) : Bool := match PySem.W.nsIn K mainGlobals x with
  | some (some (.ref a)) => (match K.lookup a with
    | some o => (match o.cls with
      | .type "tuple" => (match o.data with
        | .seq its _ => txsB ts its.toList
        | _ => false)
      | _ => false)
    | none => false)
  | _ => false
def tcsB (K : PySem.W.Frag) (p : Str × Val) : Bool := match p.2 with
  | .tup ts => tcB K p.1 ts
  | _ => true
def exB (G : Glo) (nm : Nm) (K : PySem.W.Frag) : Bool := exB0 G nm K && (nm.cst.zip G.cst).all (tcsB K)
def tOk : Val → Bool
  | .str t => Nat.ble t.length 1000 && t.all (fun c => Nat.blt c 1114112)
  | _ => false
theorem txsB_len : ∀ {ts : List Val} {us : List Value}, txsB ts us = true → us.length = ts.length
  | [], [], _ => rfl
  | [], _ :: _, h => by cases h
  | t :: r, [], h => by cases t <;> cases h
  | t :: r, u :: q, h => by
    cases t <;> cases u <;> first | (unfold txsB at h; cases h; done) | skip
    unfold txsB at h
    rw [Bool.and_eq_true] at h
    simp [txsB_len h.2]
theorem txsB_vals {R : Rp} {as : List Addr} {H : Hp} : ∀ {ts : List Val} {us : List Value}, txsB ts us = true → ts.all tOk = true → ∃ xs, Vals xs us ∧ RVs R as H ts xs
  | [], [], _, _ => ⟨[], .nil, RVs.nil⟩
  | [], _ :: _, h, _ => by cases h
  | t :: r, [], h, _ => by cases t <;> cases h
  | t :: r, u :: q, h, g => by
    cases t <;> cases u <;> first | (unfold txsB at h; cases h; done) | skip
    rename_i t y tk
    unfold txsB at h
    rw [Bool.and_eq_true, decide_eq_true_eq] at h
    rw [List.all_cons, Bool.and_eq_true] at g
    obtain ⟨xs, v1, v2⟩ := txsB_vals (R := R) (as := as) (H := H) h.2 g.2
    have g1 := g.1
    unfold tOk at g1
    rw [Bool.and_eq_true] at g1
    refine ⟨.str (toS t) :: xs, .cons ⟨tk, by rw [h.1]⟩ v1, RVs.cons ?_ v2⟩
    unfold RV
    exact ⟨rfl, by have := Nat.le_of_ble_eq_true g1.1; rw [sizeLine_eq]; omega, fun c hc => Nat.lt_of_succ_le (Nat.le_of_ble_eq_true (List.all_eq_true.mp g1.2 c hc))⟩
/-- names and places -/
def okN (x : Str) : Bool := !(x == ("__debug__" : Str))
/-- how a def without defaults binds -/
def BindN (D : Df) : Prop := ∀ (kV doc pm : Value) (an : Option Addr) (cdv ct : Value) (us : List Value), us.length = D.ps.length → bindArgs (PySem.W.fnOf D.d.name D.d.qual D.d.params D.d.body D.d.scope .none kV doc pm an cdv ct) ⟨us, []⟩ = pure (D.ps.zip us)
/-- how a def of five parameters binds, father=None and mother=None the last -/
def BornO (D : Df) (us : List Value) (kw : List (Str × Value)) (out : Value → Value → List Value) : Prop := ∀ (T : Addr) (kV doc pm : Value) (an : Option Addr) (cdv ct i j : Value), ∃ k, bindArgs (PySem.W.fnOf D.d.name D.d.qual D.d.params D.d.body D.d.scope (.ref T) kV doc pm an cdv ct) ⟨us, kw⟩ = seqItems? (.ref T) >>= k ∧ k (some #[i, j]) = pure (D.ps.zip (out i j))
structure BornP (D : Df) : Prop where
  d : D.d.dfl = [.non, .non]
  n : D.ps.length = 5
  f : ∀ a b c x y, BornO D [a, b, c, x, y] [] fun _ _ => [a, b, c, x, y]
  p : ∀ a b c, BornO D [a, b, c] [] fun i j => [a, b, c, i, j]
  k1 : ∀ a b c y, BornO D [a, b, c] [("mother", y)] fun i _ => [a, b, c, i, y]
  k2 : ∀ a b c x y, BornO D [a, b, c] [("father", x), ("mother", y)] fun _ _ => [a, b, c, x, y]
def BindO (D : Df) : Prop := (D.d.dfl = [] ∧ BindN D) ∨ BornP D
theorem len2 {α : Type} : ∀ {l : List α}, l.length = 2 → ∃ a b, l = [a, b]
  | [a, b], _ => ⟨a, b, rfl⟩
theorem len3 {α : Type} : ∀ {l : List α}, l.length = 3 → ∃ a b c, l = [a, b, c]
  | [a, b, c], _ => ⟨a, b, c, rfl⟩
theorem len5 {α : Type} : ∀ {l : List α}, l.length = 5 → ∃ a b c d e, l = [a, b, c, d, e]
  | [a, b, c, d, e], _ => ⟨a, b, c, d, e, rfl⟩
theorem vals_nn {its : List Value} (r : Vals [V.non, V.non] its) : its = [.none, .none] := by
  cases r with
  | cons r1 r => cases r with
    | cons r2 r => cases r; cases r1; cases r2; rfl
theorem born_binds {K : PySem.W.Frag} {D : Df} {fd : FuncData} (F : FnP K D fd) (B : BornP D) : Binds K fd D.ps [] ∧ BornB K fd D.ps := by
  have q : D.d.dvs K = [.non, .non] := by unfold He.DefD.dvs; rw [B.d]; rfl
  unfold FnP at F
  rw [q] at F
  obtain ⟨oc, od, dV, kV, doc, pm, an, cdv, ct, osl, rfl, lk, hcd, hD, hK⟩ := F.ex
  rcases hD with ⟨e, _⟩ | ⟨_, T, o, its, m, rfl, lT, oT, rT⟩
  · cases e
  · have hi := vals_nn rT
    subst hi
    have go : ∀ {us : List Value} {kw : List (Str × Value)} {out : Value → Value → List Value}, BornO D us kw out → ∀ s : Shared, K.In s.heap → BindsTo s (PySem.W.fnOf D.d.name D.d.qual D.d.params D.d.body D.d.scope (.ref T) kV doc pm an cdv ct) ⟨us, kw⟩ (D.ps.zip (out .none .none)) := fun b s X => by
      obtain ⟨k, e1, e2⟩ := b T kV doc pm an cdv ct .none .none
      refine BindsTo.of_looks fun M => ?_
      rw [e1]
      exact looks_items X lT oT (.of_pure e2)
    refine ⟨fun s us X hl => ?_, ⟨B.n, ⟨[.none, .none], .cons rfl (.cons rfl .nil), fun s us X hl => ?_⟩, ⟨fun s us ws X h1 h2 => ?_, fun r1 r2 => r1.append (.cons rfl r2)⟩, ⟨fun s us ws X h1 h2 => ?_, fun r1 r2 => r1.append r2⟩⟩⟩
    · rw [List.append_nil] at hl ⊢
      obtain ⟨a, b, c, x, y, rfl⟩ := len5 (hl.trans B.n)
      exact go (B.f a b c x y) s X
    · have h3 : us.length = 3 := by
        rw [List.length_append, B.n] at hl
        simpa using hl
      obtain ⟨a, b, c, rfl⟩ := len3 h3
      exact go (B.p a b c) s X
    · obtain ⟨a, b, c, rfl⟩ := len3 h1
      match ws, h2 with
      | [y], _ => exact go (B.k1 a b c y) s X
    · obtain ⟨a, b, c, rfl⟩ := len3 h1
      match ws, h2 with
      | [x, y], _ => exact go (B.k2 a b c x y) s X
def namB (G : Glo) (nm : Nm) (defs : List Df) : Bool :=
  Nat.beq defs.length G.fns.length && ((List.range G.fns.length).all fun f => match defs[f]?, G.fns[f]? with
    | some D, some F => oneB G nm f D F && D.d.kwd.isEmpty
    | _, _ => false) &&
  ((List.range nm.fn.length).all fun f => match defs[f]?, nm.fn[f]? with
    | some D, some x => decide (D.d.at_ = (x, none)) && okN x
    | _, _ => false) &&
  ((List.range nm.cst.length).all fun g => match G.cst[g]?, nm.cst[g]? with
    | some (.int _), some x => okN x
    | some (.str t), some x => okN x && Nat.ble t.length 1000 && t.all (fun c => Nat.blt c 1114112)
    | some (.tup ts), some x => okN x && Nat.ble ts.length 1000 && ts.all tOk
    | _, _ => false) &&
  Nat.beq nm.cls.length G.cls.length && ((List.range nm.cls.length).all fun c => match G.cls[c]?, nm.cls[c]? with
    | some k, some x => okN x && (match defs[k.init]? with
        | some D => decide (D.d.at_ = (x, some ("__init__" : Str)))
        | none => false) && k.meths.all fun m => match nm.mth[m.1]?, defs[m.2]? with
        | some y, some D => decide (D.d.at_ = (x, some y)) && !(nm.fld.contains y) && Nat.blt y.cps.size 1000
        | _, _ => false
    | _, _ => false) &&
  Nat.beq nm.exc.length (G.exc.length + 1) && decide (nm.exc[G.exc.length]? = some ("ValueError" : Str)) && (nm.exc.all okN) && (match defs[nm.wh]? with
    | some D => Nat.beq D.ps.length 1
    | none => (nm.fn[nm.wh]?).isNone) && (G.cls.all fun k => match alist k.meths nm.brn with
    | some f => (match defs[f]? with
      | some D => !D.d.dfl.isEmpty
      | none => false)
    | none => true)
theorem zip_mem {α β : Type} {l : List α} {r : List β} {i : Nat} {a : α} {b : β} (h1 : l[i]? = some a) (h2 : r[i]? = some b) : (a, b) ∈ l.zip r :=
  List.mem_of_getElem? (i := i) (by rw [List.getElem?_zip_eq_some]; exact ⟨h1, h2⟩)
theorem alist_mem {α : Type} {l : List (Nat × α)} {k : Nat} {v : α} (h : alist l k = some v) : (k, v) ∈ l := by
  induction l with
  | nil => cases h
  | cons p r ih =>
    obtain ⟨a, x⟩ := p
    unfold alist at h
    split at h
    · rename_i e
      have := Nat.eq_of_beq_eq_true e
      cases h
      subst this
      exact List.mem_cons_self
    · exact List.mem_cons_of_mem _ (ih h)
section
variable {G : Glo} {nm : Nm} {defs : List Df} {w : World} {K : PySem.W.Frag} {mg : Str → Option Value} {h : Heap}
theorem pf_of (hf : fldB nm.fld = true) (hn : namB G nm defs = true) (c : He.SaysX (faOf G nm) (defs.map (·.d)) [] [] (exB G nm) w h K) (KX : K.In h) (Gm : h.Ns mainGlobals mg)
    (hb : ∀ D ∈ defs, BindO D) :
    PF G nm defs (rpOf nm hf w K) w K mg := by
  have fa : ∀ {f : He.Fa}, f ∈ faOf G nm → f.ok K = true := fun hm => He.SaysD.facts c.t.d hm
  unfold namB at hn
  simp only [Bool.and_eq_true] at hn
  obtain ⟨⟨⟨⟨⟨⟨⟨⟨⟨⟨n1, n2⟩, n3⟩, n4⟩, n5⟩, n6⟩, n7⟩, n8⟩, n9⟩, n10⟩, n11⟩ := hn
  have n1 := Nat.eq_of_beq_eq_true n1
  have n7 := Nat.eq_of_beq_eq_true n7
  have n8 := of_decide_eq_true n8
  have e0 := c.more
  unfold exB at e0
  rw [Bool.and_eq_true, List.all_eq_true] at e0
  have e1 := e0.1
  unfold exB0 at e1
  rw [Bool.and_eq_true] at e1
  rw [List.all_eq_true] at n2 n3 n4 n6 n9
  have ex := e1.2
  rw [List.all_eq_true] at ex
  have rg : ∀ {n i : Nat}, i < n → i ∈ List.range n := fun h => List.mem_range.mpr h
  have gd : ∀ {l : List Str} {i : Nat} {x : Str}, l[i]? = some x → l.getD i "" = x := fun e => by rw [List.getD_eq_getElem?_getD, e]; rfl
  have okn : ∀ {x : Str}, okN x = true → (x == ("__debug__" : Str)) = false := fun e => by unfold okN at e; simpa using e
  have lt : ∀ {α : Type} {l : List α} {i : Nat} {x : α}, l[i]? = some x → i < l.length := fun e => (List.getElem?_eq_some_iff.mp e).1
  have mExc : ∀ {k : Nat}, k < G.exc.length → ∃ x, nm.exc[k]? = some x ∧ .glo x ∈ faOf G nm ∧ .exc x ∈ faOf G nm := fun {k} hk => by
    have hk2 : k < nm.exc.length := by omega
    refine ⟨nm.exc[k], by simp [hk2], ?_, ?_⟩
    all_goals
      unfold faOf
      refine List.mem_append_right _ (List.mem_flatMap.mpr ⟨nm.exc[k], ?_, by simp⟩)
      rw [List.mem_take_iff_getElem]
      exact ⟨k, by omega, rfl⟩
  refine { hK := rfl, hw := rfl, xo := fun _ _ z => z, one := ?_, fun_ := ?_, brn := ?_, blt := ?_, cst := ?_, fns := ?_, fldN := ?_, clsO := ?_, mths := ?_, news := ?_, excs := ?_, exN := ?_, exm := ?_, rais := ?_, whD := ?_, whL := ?_ }
  · intro f F hF
    have := n2 f (rg (lt hF))
    cases hD : defs[f]? with
    | none => rw [hD] at this; cases this
    | some D =>
      rw [hD, hF] at this
      simp only [Bool.and_eq_true] at this
      exact ⟨D, rfl, this.1⟩
  · intro f D hD
    have hlt := lt hD
    have := n2 f (rg (by omega))
    rw [hD] at this
    cases hF : G.fns[f]? with
    | none => rw [hF] at this; cases this
    | some F =>
      rw [hF] at this
      simp only [Bool.and_eq_true] at this
      obtain ⟨_, d2⟩ := this
      have d2 := List.isEmpty_iff.mp d2
      have hm := List.mem_of_getElem? hD
      obtain ⟨fd, FD⟩ := He.SaysD.defs c.t.d (d := D.d) (List.mem_map.mpr ⟨D, hm, rfl⟩)
      have q2 : D.d.kws K = [] := by unfold He.DefD.kws; rw [d2]; rfl
      rw [q2] at FD
      refine ⟨fd, FD, ?_⟩
      rcases hb D hm with ⟨d1, bn⟩ | bp
      · have q1 : D.d.dvs K = [] := by unfold He.DefD.dvs; rw [d1]; rfl
        rw [q1] at FD
        exact FunD.bindsN FD bn
      · exact (born_binds FD bp).1
  · intro c' k f D fd hc hm hD FD
    rw [List.all_eq_true] at n11
    have := n11 k (List.mem_of_getElem? hc)
    rw [hm] at this
    simp only [hD] at this
    rcases hb D (List.mem_of_getElem? hD) with ⟨d1, _⟩ | bp
    · rw [d1] at this; cases this
    · exact (born_binds FD bp).2
  · intro x hx
    refine He.free_ok KX Gm (fa ?_)
    unfold faOf
    simp only [List.mem_append]
    exact .inl (.inl (.inl (.inr (List.mem_map.mpr ⟨x, hx, rfl⟩))))
  · intro g v x hv hx
    have := n4 g (rg (lt hx))
    rw [hv, hx] at this
    have mem : ∀ q ∈ cstFa x v, q ∈ faOf G nm := fun q hq => by
      unfold faOf
      simp only [List.mem_append]
      refine .inl (.inl (.inr (List.mem_flatMap.mpr ⟨(x, v), ?_, hq⟩)))
      exact zip_mem hx hv
    obtain ⟨v0, ev0⟩ : ∃ v0, v0 = v := ⟨v, rfl⟩
    cases v with
    | int i =>
      obtain ⟨t, ht⟩ := He.int_ok KX Gm (fa (mem (.int x i) (by simp [cstFa])))
      exact ⟨okn this, _, .int i, ht, ⟨t, rfl⟩, fun as H => by unfold RV; rfl⟩
    | str s =>
      simp only [Bool.and_eq_true] at this
      obtain ⟨t, ht⟩ := He.str_ok KX Gm (fa (mem (.str x (toS s)) (by simp [cstFa])))
      refine ⟨okn this.1.1, _, .str (toS s), ht, ⟨t, rfl⟩, fun as H => ?_⟩
      unfold RV
      exact ⟨rfl, by have := Nat.le_of_ble_eq_true this.1.2; rw [sizeLine_eq]; omega, fun c hc => Nat.lt_of_succ_le (Nat.le_of_ble_eq_true (List.all_eq_true.mp this.2 c hc))⟩
    | tup ts =>
      simp only [Bool.and_eq_true] at this
      have q := e0.2 (x, v0) (by rw [ev0]; exact zip_mem hx hv)
      rw [ev0] at q
      unfold tcsB at q
      simp only at q
      unfold tcB at q
      split at q
      · rename_i a ea
        split at q
        · rename_i o eo
          split at q
          · rename_i ec
            split at q
            · rename_i its n ed
              have hz : its.size ≤ sizeLine := by
                rw [← Array.length_toList, txsB_len q]
                have := Nat.le_of_ble_eq_true this.1.2
                rw [sizeLine_eq]; omega
              refine ⟨okn this.1.1, .ref a, .ref a, PySem.W.mg_of KX Gm ea, rfl, fun as H => ?_⟩
              obtain ⟨xs, v1, v2⟩ := txsB_vals (R := rpOf nm hf w K) (as := as) (H := H) q this.2
              unfold RV
              exact ⟨a, xs, rfl, .inr ⟨o, its, n, eo, ec, ed, hz, v1⟩, v2⟩
            · cases q
          · cases q
        · cases q
      · cases q
    | _ => cases this
  · intro f x D hx hD
    have := n3 f (rg (lt hx))
    rw [hD, hx] at this
    simp only [Bool.and_eq_true, decide_eq_true_eq] at this
    refine ⟨okn this.2, ?_⟩
    have g := He.glo_ok KX Gm (fa (f := .glo x) (by
      unfold faOf
      simp only [List.mem_append]
      exact .inl (.inl (.inl (.inl (List.mem_map.mpr ⟨x, List.mem_of_getElem? hx, rfl⟩))))))
    rw [this.1]
    exact g
  · intro f x hx
    show fdOf nm.fld f = x
    unfold fdOf
    rw [hx]
  · intro q k hk
    have hlt := lt hk
    have n5' := Nat.eq_of_beq_eq_true n5
    have hx : nm.cls[q]? = some nm.cls[q] := by simp [show q < nm.cls.length by omega]
    generalize nm.cls[q] = x at hx
    have mem : ∀ z ∈ clsFa nm x k, z ∈ faOf G nm := fun z hz => by
      unfold faOf
      simp only [List.mem_append]
      exact .inl (.inr (List.mem_flatMap.mpr ⟨(x, k), zip_mem hx hk, hz⟩))
    have ec : (rpOf nm hf w K).cl q = He.ga K x := by show He.ga K (nm.cls.getD q "") = _; rw [gd hx]
    rw [ec]
    exact ⟨He.cls_ok (fa (mem (.cls x) (by simp [clsFa]))), fun y hy => He.noat_ok (fa (mem (.noat x y) (by simp [clsFa]; exact hy)))⟩
  · intro q k m f y D hk hm hy hD
    have hlt := lt hk
    have n5' := Nat.eq_of_beq_eq_true n5
    have hx : nm.cls[q]? = some nm.cls[q] := by simp [show q < nm.cls.length by omega]
    generalize nm.cls[q] = x at hx
    have mem : ∀ z ∈ clsFa nm x k, z ∈ faOf G nm := fun z hz => by
      unfold faOf
      simp only [List.mem_append]
      exact .inl (.inr (List.mem_flatMap.mpr ⟨(x, k), zip_mem hx hk, hz⟩))
    have ec : (rpOf nm hf w K).cl q = He.ga K x := by show He.ga K (nm.cls.getD q "") = _; rw [gd hx]
    rw [ec]
    have hmm := alist_mem hm
    have := n6 q (rg (lt hx))
    rw [hk, hx] at this
    simp only [Bool.and_eq_true] at this
    have := List.all_eq_true.mp this.2 (m, f) hmm
    simp only [hy, hD, Bool.and_eq_true, decide_eq_true_eq, Bool.not_eq_true'] at this
    obtain ⟨⟨a1, a2⟩, a3⟩ := this
    refine ⟨fun g e => ?_, ?_⟩
    · have e : fdOf nm.fld g = y := e
      unfold fdOf at e
      split at e
      · rename_i z hz
        subst e
        have := List.mem_of_getElem? hz
        rw [← List.contains_iff_mem] at this
        rw [this] at a2; cases a2
      · have l := Nat.lt_of_succ_le (Nat.le_of_ble_eq_true a3)
        rw [← e] at l
        have l2 : (List.replicate (g + 1000) 120).toArray.size < 1000 := l
        rw [List.size_toArray, List.length_replicate] at l2
        omega
    · rw [a1]
      have := He.meth_ok (fa (mem (.meth x y) (by
        simp only [clsFa, List.mem_append]
        exact .inr (List.mem_map.mpr ⟨(m, f), hmm, by rw [gd hy]⟩))))
      exact this
  · intro q k x D hk hx hD
    have mem : ∀ z ∈ clsFa nm x k, z ∈ faOf G nm := fun z hz => by
      unfold faOf
      simp only [List.mem_append]
      exact .inl (.inr (List.mem_flatMap.mpr ⟨(x, k), zip_mem hx hk, hz⟩))
    have ec : (rpOf nm hf w K).cl q = He.ga K x := by show He.ga K (nm.cls.getD q "") = _; rw [gd hx]
    rw [ec]
    have := n6 q (rg (lt hx))
    rw [hk, hx] at this
    simp only [Bool.and_eq_true] at this
    obtain ⟨⟨a1, a2⟩, a3⟩ := this
    rw [hD] at a2
    have a2 := of_decide_eq_true a2
    refine ⟨okn a1, He.glo_ok KX Gm (fa (mem (.glo x) (by simp [clsFa]))), ?_⟩
    rw [a2]
    exact He.mkr_ok (fa (mem (.mkr x) (by simp [clsFa])))
  · intro k l hl
    have := ex k (rg (lt hl))
    rw [Bool.and_eq_true] at this
    exact excCB_ok this.1
  · intro c x hx
    have hc := lt hx
    refine ⟨okn (n9 x (List.mem_of_getElem? hx)), cvOf G nm K c, ?_⟩
    have kit : ∀ (k : Nat) (l : List Nat), G.exc[k]? = some l → PySem.W.kitOne K (.ref ((rpOf nm hf w K).xc k)) (cvOf G nm K c) = some (l.contains c) := fun k l hl => by
      have := ex k (rg (lt hl))
      rw [Bool.and_eq_true, List.all_eq_true] at this
      have := this.2 c (rg hc)
      rw [Bool.and_eq_true, decide_eq_true_eq] at this
      have e := this.1
      have e2 : (G.exc.getD k []).contains c = l.contains c := by rw [List.getD_eq_getElem?_getD, hl]; rfl
      rw [e2] at e
      exact e
    by_cases hlt : c < G.exc.length
    · have ev : cvOf G nm K c = .ref (He.ga K x) := by
        unfold cvOf
        rw [if_pos (show Nat.blt c G.exc.length = true from Nat.ble_eq_true_of_le hlt), gd hx]
      obtain ⟨x', hx', m1, m2⟩ := mExc hlt
      rw [hx] at hx'; cases hx'
      rw [ev] at kit ⊢
      exact ⟨.ref (He.ga K x), .inl (He.glo_ok KX Gm (fa m1)), rfl, fun u r => r, kit⟩
    · have ec : c = G.exc.length := by omega
      have ev : cvOf G nm K c = .type "ValueError" := by
        unfold cvOf
        rw [if_neg (by intro z; exact hlt (Nat.lt_of_succ_le (Nat.le_of_ble_eq_true z)))]
      rw [ev] at kit ⊢
      rw [ec, n8] at hx
      cases hx
      refine ⟨.ty "ValueError", .inr ⟨He.free_ok KX Gm (fa ?_), by decide +kernel, by decide +kernel⟩, rfl, fun u r => r, kit⟩
      unfold faOf
      simp only [List.mem_append]
      exact .inl (.inl (.inl (.inr (List.mem_map.mpr ⟨"ValueError", by decide +kernel, rfl⟩))))
  · intro c x hx hc
    obtain ⟨lc, hlc⟩ := Option.isSome_iff_exists.mp hc
    have hlt := lt hlc
    obtain ⟨x', hx', m1, m2⟩ := mExc hlt
    rw [hx] at hx'; cases hx'
    have ec : (rpOf nm hf w K).xc c = He.ga K x := by show He.ga K (nm.exc.getD c "") = _; rw [gd hx]
    refine ⟨by rw [ec]; exact He.glo_ok KX Gm (fa m1), fun k l hl => ?_⟩
    have := ex k (rg (lt hl))
    rw [Bool.and_eq_true, List.all_eq_true] at this
    have := this.2 c (rg (lt hx))
    rw [Bool.and_eq_true, Bool.or_eq_true] at this
    rcases this.2 with z | z
    · have : Nat.blt c G.exc.length = true := Nat.ble_eq_true_of_le hlt
      rw [this] at z; cases z
    · have e := of_decide_eq_true z
      have e2 : (G.exc.getD k []).contains c = l.contains c := by rw [List.getD_eq_getElem?_getD, hl]; rfl
      rw [e2] at e
      exact e
  · intro c hc
    obtain ⟨lc, hlc⟩ := Option.isSome_iff_exists.mp hc
    obtain ⟨x, hx, m1, m2⟩ := mExc (lt hlc)
    have ec : (rpOf nm hf w K).xc c = He.ga K x := by show He.ga K (nm.exc.getD c "") = _; rw [gd hx]
    rw [ec]
    obtain ⟨q1, q2, q3, q4⟩ := He.exc_ok (fa m2)
    exact ⟨q2, q3, q4, q1⟩
  · intro x hx
    cases hD : defs[nm.wh]? with
    | none => rw [hD] at n10; simp only [hx] at n10; cases n10
    | some D => exact ⟨D, rfl⟩
  · intro D hD
    rw [hD] at n10
    exact Nat.eq_of_beq_eq_true n10
end
section
open PySem.W
/-- the end, what a def may let out told by the world -/
theorem walk_ofK2 {l : PySem.W.OpenLaw} {n k : Nat} {q : Program} {loose : List Str} {XP : (Str → Option Value) → Heap → Prop} {YP : World → Heap → Prop} {d : DefRec} {CX : World → CXT} {x : Str}
    (hn : l.most = some n) (hn2 : n ≤ sizeLine) (hdf : d.params.defaults = []) (hr : Room k callerA)
    (F : ∀ (w : World) (mg : Str → Option Value) (fa : Addr) (h : Heap), YP w h → h.Ns mainGlobals mg → mg d.name = some (.ref fa) →
      ∃ (K : PySem.W.Frag) (fd : FuncData) (sp : Sp), K.In h ∧ (∀ (s : Shared) (u : Value), BindsTo s fd ⟨[u], []⟩ [(x, u)]) ∧
        (∀ (H : Hp) (a : Addr) (ns : List Int), ns.length ≤ n → Only H → SqL K H a (ns.map V.int) → sp [.ref a] H (fun v _ => v = .bl true) fun _ _ _ => False) ∧
        ∀ base : Heap, K.In base → base.Ns mainGlobals mg → FnOk l.prog w K mg base (CX w) k fa fd [x] sp)
    (hCX : ∀ (w : World) (H : Hp) (s : Shared) (e : Value) (s' : Shared), CX w [] H s (fun _ _ _ => False) e s' → False) :
    PySem.W.WalkO q loose XP YP l.row.toRowW d [] (fun f vs => PySem.call f vs) := by
  refine Att.attach_call hn hdf fun w s₀ s₁ mg mb fa o pm cd doc a vs ns G Y ho hd hcd hmg hobj hints hlen hg => ?_
  obtain ⟨K, fd, sp, KX, hb, hsp, hF⟩ := F w mg fa _ Y G.T.g hmg
  exact law_call KX G.T.g G.T.b G.T.builtins G.T.nolimit hg hobj hints (Nat.le_trans hlen hn2) hr hF hb (fun H hO hS => hsp H a ns hlen hO hS) fun H e s' => hCX w H s₁ e s'
end
theorem law_end {G : Glo} {nm : Nm} {defs : List Df} {l : PySem.W.OpenLaw} {k lawId : Nat} {q : Program} {loose : List Str} {XP : (Str → Option Value) → Heap → Prop} {d : DefRec} {x : Str} {D : Df} {F : Fn} (nh : Nat)
    (hf : fldB nm.fld = true) (hn : namB G nm defs = true) (hm : l.most = some 63) (hdf : d.params.defaults = []) (hr : Room (2 * k) callerA) (hD : defs[lawId]? = some D) (hF : G.fns[lawId]? = some F) (hFp : F.pars = 1) (hps : D.ps = [x]) (hx : nm.fn[lawId]? = some d.name)
    (hb : ∀ D ∈ defs, BindO D)
    (says : LawSays G k lawId 63) :
    PySem.W.WalkO q loose XP (He.hookX nh (faOf G nm) (defs.map (·.d)) [] [] (exB G nm)).says l.row.toRowW d [] (fun f vs => PySem.call f vs) := by
  refine walk_ofK2 (CX := fun w => L2N.CX l.prog w) (k := 2 * k) (n := 63) (x := x) hm (by rw [sizeLine_eq]; omega) hdf hr ?_ ?_
  · intro w mg fa h Y Gm hfa
    obtain ⟨K, KX, c⟩ := Y
    have pf := pf_of (mg := mg) hf hn c KX Gm hb
    obtain ⟨fd, FD, B⟩ := pf.fun_ lawId D hD
    have e := (pf.fns lawId d.name D hx hD).2
    rw [hfa] at e
    cases e
    have nol : ∀ a o, K.lookup a = some o → o.cls ≠ .type "list" := fun a o e hc => by
      have e0 := c.more
      unfold exB at e0
      rw [Bool.and_eq_true] at e0
      have e1 := e0.1
      unfold exB0 at e1
      rw [Bool.and_eq_true, List.all_eq_true] at e1
      have := e1.1 (a, o) (He.lookup_mem e)
      simp only [hc] at this
      cases this
    refine ⟨K, fd, spOf (rpOf nm hf w K) (callAt G k) F.pars lawId, KX, fun s u => ?_, fun H a ns hl hO hS => ?_, fun base KB GB => ?_⟩
    · rcases hb D (List.mem_of_getElem? hD) with ⟨d1, bn⟩ | bp
      · have q1 : D.d.dvs K = [] := by unfold He.DefD.dvs; rw [d1]; rfl
        unfold FnP at FD
        rw [q1] at FD
        have := FunD.bindsA (ps := D.ps) FD bn s [u] (by rw [hps]; rfl)
        rw [hps] at this
        exact this
      · have := bp.n
        rw [hps] at this
        cases this
    · have ha : ∃ o, H a = some (.frz o (.lst (ns.map V.int))) := by
        rcases hS with z | ⟨o, its, m, e, hc, _⟩
        · rcases z with z | ⟨o, z⟩
          · rcases hO a with y | ⟨o, xs, y⟩
            · rw [z] at y; cases y
            · rw [z] at y; cases y
          · exact ⟨o, z⟩
        · exact absurd hc (nol a o e)
      obtain ⟨ob, ha⟩ := ha
      obtain ⟨hs', he⟩ := says ns hl
      have rvs : ∀ l : List Int, RVs (rpOf nm hf w K) [a] H (l.map Val.int) (l.map V.int) := fun l => by
        induction l with
        | nil => exact RVs.nil
        | cons i r ih => exact RVs.cons (by unfold RV; rfl) ih
      refine ⟨fun _ => none, [a], [.frz (.list (ns.map .int))], [.ref 0], ⟨rfl, by simp, fun b u z => by (cases z), fun _ _ => rfl, fun n o e => ?_⟩, RVs.one (by unfold RV; exact ⟨a, rfl, rfl⟩), by rw [hFp]; rfl, ?_⟩
      · cases n with
        | zero =>
          simp at e
          subst e
          exact ⟨a, _, rfl, ha, ob, _, rfl, _, rfl, rvs ns⟩
        | succ n => simp at e
      · rw [he]
        intro as' H' x _ _ _ hx
        unfold RV at hx
        exact hx
    · have lv := (lvl (P := l.prog) (base := base) pf k).1 lawId F D fd hF hD FD
      rw [hps] at lv
      exact lv
  · intro w H s e s' hc
    obtain ⟨_, _, _, _, _, _, _, _, _, _, _, _, f⟩ := hc
    exact f
end Kn
namespace KP
open Kn
abbrev i_law_ask_k11 : Nat := 0
abbrev i_law_draw : Nat := 1
abbrev i_law_first : Nat := 2
abbrev i_law_go : Nat := 3
abbrev i_law_pick : Nat := 4
abbrev i_law_speech : Nat := 5
abbrev i_law_which : Nat := 6
abbrev i_law_word : Nat := 7
abbrev i_all_pairs : Nat := 8
abbrev i_all_places : Nat := 9
abbrev i_are_unlike : Nat := 10
abbrev i_choices : Nat := 11
abbrev i_first_of : Nat := 12
abbrev i_firsts : Nat := 13
abbrev i_gone : Nat := 14
abbrev i_is_alike : Nat := 15
abbrev i_is_letters : Nat := 16
abbrev i_is_paper : Nat := 17
abbrev i_is_place : Nat := 18
abbrev i_is_sex : Nat := 19
abbrev i_is_speech : Nat := 20
abbrev i_is_whole : Nat := 21
abbrev i_is_word : Nat := 22
abbrev i_law_k11 : Nat := 23
abbrev i_led : Nat := 24
abbrev i_may_go : Nat := 25
abbrev i_need_speech : Nat := 26
abbrev i_next_pairs : Nat := 27
abbrev i_next_places : Nat := 28
abbrev i_paper : Nat := 29
abbrev i_sex_behind : Nat := 30
abbrev i_shown : Nat := 31
abbrev i_steps_from : Nat := 32
abbrev i_unsure : Nat := 33
abbrev i_way_behind : Nat := 34
abbrev i_where_unsure : Nat := 35
abbrev i_word_at : Nat := 36
abbrev i_Kin_init : Nat := 37
abbrev i_Kin_child : Nat := 38
abbrev i_Kin_more : Nat := 39
abbrev i_Kin_name : Nat := 40
abbrev i_Kin_told : Nat := 41
abbrev i_Kin_walk : Nat := 42
abbrev c_LETTERS : Nat := 0
abbrev c_STEPS : Nat := 1
abbrev c_STANDS : Nat := 2
abbrev c_WAYS : Nat := 3
abbrev x_KinError : Nat := 0
abbrev x_NoFamily : Nat := 1
abbrev x_NotPlain : Nat := 2
abbrev x_NoName : Nat := 3
abbrev x_NoSex : Nat := 4
abbrev x_NoRow : Nat := 5
abbrev x_NoSpeech : Nat := 6
abbrev x_NotSure : Nat := 7
abbrev x_NoWord : Nat := 8
abbrev x_TooMany : Nat := 9
abbrev x_NoParent : Nat := 10
abbrev x_Taken : Nat := 11
abbrev x_Full : Nat := 12
abbrev x_NoDeed : Nat := 13
abbrev x_NoText : Nat := 14
abbrev x_ValueError : Nat := 15
abbrev k_Kin : Nat := 0
abbrev l_fathers : Nat := 0
abbrev l_mothers : Nat := 1
abbrev l_sexes : Nat := 2
abbrev m___init__ : Nat := 0
abbrev m_child : Nat := 1
abbrev m_more : Nat := 2
abbrev m_name : Nat := 3
abbrev m_told : Nat := 4
abbrev m_walk : Nat := 5
def b_law_ask_k11 : Ss := (.cons (.tryW (.cons (.ret (.ite (.cmp .eq (.var 0) (.lit (.int 2))) (.call i_is_paper (.cons (.var 1) (.cons (.var 2) .nil))) (.callOf [i_unsure, i_paper] (.var 0) (.cons (.var 1) .nil)))) .nil) x_KinError 3 i_law_which) .nil)
def f_law_ask_k11 : Fn := ⟨3, 4, [], b_law_ask_k11⟩
def b_law_draw : Ss := (.cons (.ite (.cmp .gt (.idx (.var 1) (.lit (.int 1))) (.lit (.int 0))) (.cons (.asg (.name 5) (.bin .mod (.idx (.var 1) (.lit (.int 1))) (.var 2))) (.cons (.asg (.sub (.var 1) (.lit (.int 1))) (.bin .fdiv (.idx (.var 1) (.lit (.int 1))) (.var 2))) (.cons (.ret (.var 5)) .nil))) .nil) (.cons (.asg (.name 3) (.idx (.var 1) (.lit (.int 0)))) (.cons (.augS (.var 1) (.lit (.int 0)) .add (.lit (.int 1))) (.cons (.ite (.nil false (.var 0)) (.cons (.ret (.bin .mod (.var 3) (.var 2))) .nil) .nil) (.cons (.ite (.and (.cmp .lt (.var 3) (.bi .len (.cons (.var 0) .nil))) (.cmp .ge (.idx (.var 0) (.var 3)) (.bin .pow (.lit (.int 10)) (.lit (.int 18))))) (.cons (.asg (.sub (.var 1) (.lit (.int 1))) (.bin .mod (.bin .fdiv (.idx (.var 0) (.var 3)) (.var 2)) (.bin .mul (.bin .pow (.lit (.int 10)) (.lit (.int 60))) (.bin .pow (.lit (.int 10)) (.lit (.int 60)))))) (.cons (.ret (.bin .mod (.idx (.var 0) (.var 3)) (.var 2))) .nil)) .nil) (.cons (.asg (.name 4) (.bin .mod (.bin .add (.bin .add (.bin .mul (.idx (.var 0) (.bin .mod (.var 3) (.bi .len (.cons (.var 0) .nil)))) (.lit (.int 1103515245))) (.bin .mul (.lit (.int 7919)) (.var 3))) (.lit (.int 12345))) (.lit (.int 2147483647)))) (.cons (.ret (.bin .mod (.bin .mod (.bin .mod (.bin .pow (.var 4) (.lit (.int 5))) (.lit (.int 2147483647))) (.lit (.int 999983))) (.var 2))) .nil)))))))
def f_law_draw : Fn := ⟨3, 6, [], b_law_draw⟩
def b_law_first : Ss := (.cons (.ret (.idx (.var 0) (.ite (.cmp .eq (.var 1) (.lit (.str [104, 101]))) (.lit (.int 0)) (.lit (.int 1))))) .nil)
def f_law_first : Fn := ⟨2, 2, [], b_law_first⟩
def L_law_go_1 : Ss := (.cons (.asg (.name 1) (.idx (.idx (.idx (.var 0) (.lit (.int 2))) (.var 1)) (.bin .add (.lit (.int 1)) (.me .index (.lit (.str [102, 109, 115, 100])) (.cons (.var 3) .nil))))) .nil)
def b_law_go : Ss := (.cons (.forr (.name 3) (.ex (.var 2)) L_law_go_1) (.cons (.ret (.var 1)) .nil))
def f_law_go : Fn := ⟨3, 4, [], b_law_go⟩
def b_law_pick : Ss := (.cons (.ret (.idx (.var 2) (.call i_law_draw (.cons (.var 0) (.cons (.var 1) (.cons (.bi .len (.cons (.var 2) .nil)) .nil)))))) .nil)
def f_law_pick : Fn := ⟨3, 3, [], b_law_pick⟩
def Q_law_speech_1 : E := (.comp (.call i_law_draw (.cons (.var 0) (.cons (.var 1) (.cons (.var 2) .nil)))) (.name 6) (.ex (.lit (.str [102, 109, 115, 100]))) .nil)
def L_law_speech_2 : Ss := (.cons (.asg (.name 5) (.call i_law_pick (.cons (.var 0) (.cons (.var 1) (.cons (.lst (.cons (.lit (.str [])) (.cons (.lit (.str [97, 98])) (.cons (.lit (.str [99])) (.cons (.lit (.str [107, 105, 110])) (.cons (.lit (.str [120])) .nil)))))) .nil))))) (.cons (.expr (.me .append (.var 3) (.cons (.bin .add (.tup (.cons (.var 5) .nil)) (.bi .tuple (.cons Q_law_speech_1 .nil))) .nil))) .nil))
def b_law_speech : Ss := (.cons (.asg (.name 3) (.lst .nil)) (.cons (.forr (.name 4) (.rng (.var 2)) L_law_speech_2) (.cons (.ret (.tup (.cons (.call i_law_draw (.cons (.var 0) (.cons (.var 1) (.cons (.var 2) .nil)))) (.cons (.call i_law_draw (.cons (.var 0) (.cons (.var 1) (.cons (.var 2) .nil)))) (.cons (.bi .tuple (.cons (.var 3) .nil)) .nil))))) .nil)))
def f_law_speech : Fn := ⟨3, 7, [], b_law_speech⟩
def b_law_which : Ss := (.cons (.asg (.name 1) (.lst (.cons (.isx (.var 0) x_NoFamily) (.cons (.isx (.var 0) x_NotPlain) (.cons (.isx (.var 0) x_NoName) (.cons (.isx (.var 0) x_NoSex) .nil)))))) (.cons (.expr (.me .extend (.var 1) (.cons (.lst (.cons (.isx (.var 0) x_NoRow) (.cons (.isx (.var 0) x_NoSpeech) (.cons (.isx (.var 0) x_NotSure) .nil)))) .nil))) (.cons (.expr (.me .extend (.var 1) (.cons (.lst (.cons (.isx (.var 0) x_NoWord) .nil)) .nil))) (.cons (.expr (.me .extend (.var 1) (.cons (.lst (.cons (.isx (.var 0) x_TooMany) (.cons (.isx (.var 0) x_NoParent) (.cons (.isx (.var 0) x_Taken) .nil)))) .nil))) (.cons (.expr (.me .extend (.var 1) (.cons (.lst (.cons (.isx (.var 0) x_Full) .nil)) .nil))) (.cons (.expr (.me .extend (.var 1) (.cons (.lst (.cons (.isx (.var 0) x_NoDeed) (.cons (.isx (.var 0) x_NoText) .nil))) .nil))) (.cons (.ite (.or (.cmp .ne (.me .count (.var 1) (.cons (.lit (.bl true)) .nil)) (.lit (.int 1))) (.not (.isx (.var 0) x_ValueError))) (.cons (.ret (.tup (.cons (.lit (.str [114, 101, 102, 117, 115, 101, 100])) (.cons (.neg (.lit (.int 1))) .nil)))) .nil) .nil) (.cons (.ret (.tup (.cons (.lit (.str [114, 101, 102, 117, 115, 101, 100])) (.cons (.me .index (.var 1) (.cons (.lit (.bl true)) .nil)) .nil)))) .nil))))))))
def f_law_which : Fn := ⟨1, 2, [], b_law_which⟩
def b_law_word : Ss := (.cons (.ret (.idx (.idx (.idx (.var 0) (.lit (.int 2))) (.call i_law_go (.cons (.var 0) (.cons (.call i_law_first (.cons (.var 0) (.cons (.var 1) .nil))) (.cons (.var 2) .nil))))) (.lit (.int 0)))) .nil)
def f_law_word : Fn := ⟨3, 3, [], b_law_word⟩
def C_all_pairs_1 : E := (.nee (.var 5))
def L_all_pairs_2 : Ss := (.cons (.expr (.me .append (.me .setdefault (.var 5) (.cons (.bin .add (.var 2) (.lit (.int 1))) (.cons (.lst .nil) .nil))) (.cons (.tup (.cons (.var 9) (.cons (.bin .add (.slc (.var 8) .nil (.cons (.lit (.int 3)) .nil)) (.tup (.cons (.bin .add (.idx (.var 8) (.lit (.int 3))) (.var 10)) .nil))) .nil))) .nil))) .nil)
def L_all_pairs_3 : Ss := (.cons (.ite (.cmp .notIn (.var 6) (.var 4)) (.cons (.asg (.sub (.var 4) (.var 6)) (.var 8)) (.cons (.forr (.tup [9, 10]) (.ex (.call i_next_pairs (.cons (.var 0) (.cons (.var 6) .nil)))) L_all_pairs_2) .nil)) .nil) .nil)
def L_all_pairs_4 : Ss := (.cons (.forr (.tup [6, 8]) (.ex (.me .pop (.var 5) (.cons (.var 2) (.cons (.lst .nil) .nil)))) L_all_pairs_3) (.cons (.augN 2 .add (.lit (.int 1))) .nil))
def L_all_pairs_5 : Ss := (.cons (.expr (.me .append (.me .setdefault (.var 5) (.cons (.bi .len (.cons (.idx (.idx (.var 3) (.var 1)) (.lit (.int 1))) .nil)) (.cons (.lst .nil) .nil))) (.cons (.tup (.cons (.var 6) (.cons (.bin .add (.idx (.var 3) (.var 1)) (.tup (.cons (.var 7) (.cons (.lit (.str [])) .nil)))) .nil))) .nil))) .nil)
def L_all_pairs_6 : Ss := (.cons (.forr (.tup [6, 7]) (.ex (.call i_choices (.cons (.var 0) (.cons (.var 1) .nil)))) L_all_pairs_5) .nil)
def b_all_pairs : Ss := (.cons (.asg (.tup [3, 4, 5]) (.tup (.cons (.call i_all_places (.cons (.var 0) .nil)) (.cons (.dct .nil) (.cons (.dct .nil) .nil))))) (.cons (.forr (.name 1) (.ex (.var 3)) L_all_pairs_6) (.cons (.asg (.name 2) (.lit (.int 0))) (.cons (.whil C_all_pairs_1 L_all_pairs_4) (.cons (.ret (.var 4)) .nil)))))
def f_all_pairs : Fn := ⟨1, 11, [], b_all_pairs⟩
def C_all_places_1 : E := (.cmp .lt (.var 2) (.bi .len (.cons (.var 4) .nil)))
def L_all_places_2 : Ss := (.cons (.ite (.cmp .notIn (.var 5) (.var 3)) (.cons (.asg (.sub (.var 3) (.var 5)) (.tup (.cons (.idx (.idx (.var 3) (.var 1)) (.lit (.int 0))) (.cons (.bin .add (.idx (.idx (.var 3) (.var 1)) (.lit (.int 1))) (.var 6)) .nil)))) (.cons (.expr (.me .append (.var 4) (.cons (.var 5) .nil))) .nil)) .nil) .nil)
def L_all_places_3 : Ss := (.cons (.asg (.name 1) (.idx (.var 4) (.var 2))) (.cons (.augN 2 .add (.lit (.int 1))) (.cons (.forr (.tup [5, 6]) (.ex (.call i_next_places (.cons (.var 0) (.cons (.var 1) .nil)))) L_all_places_2) .nil)))
def L_all_places_4 : Ss := (.cons (.asg (.sub (.var 3) (.var 1)) (.tup (.cons (.idx (.var 1) (.lit (.int 0))) (.cons (.lit (.str [])) .nil)))) (.cons (.expr (.me .append (.var 4) (.cons (.var 1) .nil))) .nil))
def b_all_places : Ss := (.cons (.asg (.tup [3, 4]) (.tup (.cons (.dct .nil) (.cons (.lst .nil) .nil)))) (.cons (.forr (.name 1) (.ex (.call i_firsts (.cons (.var 0) .nil))) L_all_places_4) (.cons (.asg (.name 2) (.lit (.int 0))) (.cons (.whil C_all_places_1 L_all_places_3) (.cons (.ret (.var 3)) .nil)))))
def f_all_places : Fn := ⟨1, 7, [], b_all_places⟩
def Q_are_unlike_1 : E := (.comp (.call i_is_place (.cons (.var 0) (.cons (.var 3) (.cons (.var 2) .nil)))) (.name 3) (.ex (.var 1)) .nil)
def b_are_unlike : Ss := (.cons (.ite (.or (.not (.isi (.var 1) .list)) (.not (.bi .all (.cons Q_are_unlike_1 .nil)))) (.cons (.ret (.lit (.bl false))) .nil) .nil) (.cons (.ret (.cmp .eq (.bi .lenSet (.cons (.var 1) .nil)) (.bi .len (.cons (.var 1) .nil)))) .nil))
def f_are_unlike : Fn := ⟨3, 4, [], b_are_unlike⟩
def L_choices_1 : Ss := (.cons (.expr (.me .append (.var 3) (.cons (.tup (.cons (.tup (.cons (.var 7) (.cons (.var 8) (.cons (.call i_led (.cons (.var 0) (.cons (.var 6) (.cons (.var 9) .nil)))) (.cons (.call i_led (.cons (.var 0) (.cons (.var 6) (.cons (.var 10) .nil)))) .nil))))) (.cons (.tup (.cons (.var 9) (.cons (.var 10) .nil))) .nil))) .nil))) .nil)
def b_choices : Ss := (.cons (.asg (.tup [4, 5, 6]) (.var 1)) (.cons (.asg (.name 2) (.lst .nil)) (.cons (.ite (.cmp .eq (.var 5) (.lit (.str [102, 114, 101, 101]))) (.cons (.expr (.me .extend (.var 2) (.cons (.lst (.cons (.tup (.cons (.lit (.str [104, 101])) (.cons (.lit (.str [98, 111, 116, 104])) (.cons (.lit (.str [102, 115])) (.cons (.lit (.str [109, 115])) .nil))))) (.cons (.tup (.cons (.lit (.str [115, 104, 101])) (.cons (.lit (.str [98, 111, 116, 104])) (.cons (.lit (.str [102, 100])) (.cons (.lit (.str [109, 100])) .nil))))) .nil))) .nil))) .nil) .nil) (.cons (.expr (.me .append (.var 2) (.cons (.ite (.cmp .eq (.var 4) (.lit (.str [104, 101]))) (.tup (.cons (.lit (.str [115, 104, 101])) (.cons (.lit (.str [102, 114, 101, 101])) (.cons (.lit (.str [115, 109])) (.cons (.lit (.str [100, 109])) .nil))))) (.tup (.cons (.lit (.str [104, 101])) (.cons (.lit (.str [102, 114, 101, 101])) (.cons (.lit (.str [115, 102])) (.cons (.lit (.str [100, 102])) .nil)))))) .nil))) (.cons (.asg (.name 3) (.lst .nil)) (.cons (.forr (.tup [7, 8, 9, 10]) (.ex (.var 2)) L_choices_1) (.cons (.ret (.var 3)) .nil)))))))
def f_choices : Fn := ⟨2, 11, [], b_choices⟩
def b_first_of : Ss := (.cons (.ret (.ite (.cmp .eq (.var 1) (.lit (.str [104, 101]))) (.idx (.var 0) (.lit (.int 0))) (.idx (.var 0) (.lit (.int 1))))) .nil)
def f_first_of : Fn := ⟨2, 2, [], b_first_of⟩
def Q_firsts_1 : E := (.comp (.tup (.cons (.var 1) (.cons (.lit (.str [102, 114, 101, 101])) (.cons (.call i_first_of (.cons (.var 0) (.cons (.var 1) .nil))) .nil)))) (.name 1) (.ex (.tup (.cons (.lit (.str [104, 101])) (.cons (.lit (.str [115, 104, 101])) .nil)))) .nil)
def b_firsts : Ss := (.cons (.ret Q_firsts_1) .nil)
def f_firsts : Fn := ⟨1, 2, [], b_firsts⟩
def b_gone : Ss := (.cons (.ret (.idx (.idx (.idx (.var 0) (.lit (.int 2))) (.var 1)) (.bin .add (.lit (.int 1)) (.me .index (.glob c_STEPS) (.cons (.var 2) .nil))))) .nil)
def f_gone : Fn := ⟨3, 3, [], b_gone⟩
def b_is_alike : Ss := (.cons (.ret (.cmp .eq (.call i_word_at (.cons (.var 0) (.cons (.idx (.var 1) (.lit (.int 2))) .nil))) (.call i_word_at (.cons (.var 0) (.cons (.idx (.var 1) (.lit (.int 3))) .nil))))) .nil)
def f_is_alike : Fn := ⟨2, 2, [], b_is_alike⟩
def Q_is_letters_1 : E := (.comp (.cmp .isIn (.var 3) (.glob c_LETTERS)) (.name 3) (.ex (.var 0)) .nil)
def b_is_letters : Ss := (.cons (.ret (.and (.isi (.var 0) .str) (.and (.chain .le .le (.var 1) (.bi .len (.cons (.var 0) .nil)) (.var 2)) (.bi .all (.cons Q_is_letters_1 .nil))))) .nil)
def f_is_letters : Fn := ⟨3, 4, [], b_is_letters⟩
def Q_is_paper_1 : E := (.comp (.cmp .isIn (.var 6) (.var 5)) (.tup [6, 7]) (.ex (.call i_next_pairs (.cons (.var 0) (.cons (.var 3) .nil)))) .nil)
def L_is_paper_2 : Ss := (.cons (.ite (.or (.not (.call i_is_alike (.cons (.var 0) (.cons (.var 3) .nil)))) (.not (.bi .all (.cons Q_is_paper_1 .nil)))) (.cons (.ret (.lit (.bl false))) .nil) .nil) .nil)
def Q_is_paper_3 : E := (.comp (.cmp .isIn (.var 6) (.var 5)) (.tup [6, 8]) (.ex (.call i_choices (.cons (.var 0) (.cons (.var 2) .nil)))) .nil)
def Q_is_paper_4 : E := (.comp (.cmp .isIn (.var 6) (.var 4)) (.tup [6, 7]) (.ex (.call i_next_places (.cons (.var 0) (.cons (.var 2) .nil)))) .nil)
def L_is_paper_5 : Ss := (.cons (.ite (.not (.bi .all (.cons Q_is_paper_4 .nil))) (.cons (.ret (.lit (.bl false))) .nil) .nil) (.cons (.ite (.not (.bi .all (.cons Q_is_paper_3 .nil))) (.cons (.ret (.lit (.bl false))) .nil) .nil) .nil))
def Q_is_paper_6 : E := (.comp (.cmp .isIn (.var 6) (.var 4)) (.name 6) (.ex (.call i_firsts (.cons (.var 0) .nil))) .nil)
def Q_is_paper_7 : E := (.dcomp (.var 6) (.lit (.bl true)) (.name 6) (.ex (.idx (.var 1) (.lit (.int 1)))))
def Q_is_paper_8 : E := (.dcomp (.var 6) (.lit (.bl true)) (.name 6) (.ex (.idx (.var 1) (.lit (.int 0)))))
def b_is_paper : Ss := (.cons (.expr (.call i_need_speech (.cons (.var 0) .nil))) (.cons (.ite (.or (.not (.isi (.var 1) .tuple)) (.cmp .ne (.bi .len (.cons (.var 1) .nil)) (.lit (.int 2)))) (.cons (.ret (.lit (.bl false))) .nil) .nil) (.cons (.ite (.or (.not (.call i_are_unlike (.cons (.var 0) (.cons (.idx (.var 1) (.lit (.int 0))) (.cons (.lit (.int 1)) .nil))))) (.not (.call i_are_unlike (.cons (.var 0) (.cons (.idx (.var 1) (.lit (.int 1))) (.cons (.lit (.int 2)) .nil)))))) (.cons (.ret (.lit (.bl false))) .nil) .nil) (.cons (.asg (.tup [4, 5]) (.tup (.cons Q_is_paper_8 (.cons Q_is_paper_7 .nil)))) (.cons (.ite (.not (.bi .all (.cons Q_is_paper_6 .nil))) (.cons (.ret (.lit (.bl false))) .nil) .nil) (.cons (.forr (.name 2) (.ex (.var 4)) L_is_paper_5) (.cons (.forr (.name 3) (.ex (.var 5)) L_is_paper_2) (.cons (.ret (.lit (.bl true))) .nil))))))))
def f_is_paper : Fn := ⟨2, 9, [], b_is_paper⟩
def Q_is_place_1 : E := (.comp (.call i_is_whole (.cons (.var 3) (.cons (.lit (.int 0)) (.cons (.bin .sub (.bi .len (.cons (.idx (.var 0) (.lit (.int 2))) .nil)) (.lit (.int 1))) .nil)))) (.name 3) (.ex (.slc (.var 1) (.cons (.lit (.int 2)) .nil) .nil)) .nil)
def b_is_place : Ss := (.cons (.ite (.or (.not (.isi (.var 1) .tuple)) (.or (.cmp .ne (.bi .len (.cons (.var 1) .nil)) (.bin .add (.lit (.int 2)) (.var 2))) (.not (.call i_is_sex (.cons (.idx (.var 1) (.lit (.int 0))) .nil))))) (.cons (.ret (.lit (.bl false))) .nil) .nil) (.cons (.ite (.or (.not (.isi (.idx (.var 1) (.lit (.int 1))) .str)) (.cmp .notIn (.idx (.var 1) (.lit (.int 1))) (.glob c_WAYS))) (.cons (.ret (.lit (.bl false))) .nil) .nil) (.cons (.ret (.bi .all (.cons Q_is_place_1 .nil))) .nil)))
def f_is_place : Fn := ⟨3, 4, [], b_is_place⟩
def b_is_sex : Ss := (.cons (.ret (.and (.isi (.var 0) .str) (.cmp .isIn (.var 0) (.tup (.cons (.lit (.str [104, 101])) (.cons (.lit (.str [115, 104, 101])) .nil)))))) .nil)
def f_is_sex : Fn := ⟨1, 1, [], b_is_sex⟩
def Q_is_speech_1 : E := (.comp (.call i_is_whole (.cons (.var 3) (.cons (.lit (.int 0)) (.cons (.var 1) .nil)))) (.name 3) (.ex (.slc (.var 2) (.cons (.lit (.int 1)) .nil) .nil)) .nil)
def L_is_speech_2 : Ss := (.cons (.ite (.or (.not (.isi (.var 2) .tuple)) (.or (.cmp .ne (.bi .len (.cons (.var 2) .nil)) (.lit (.int 5))) (.not (.call i_is_word (.cons (.idx (.var 2) (.lit (.int 0))) .nil))))) (.cons (.ret (.lit (.bl false))) .nil) .nil) (.cons (.ite (.not (.bi .all (.cons Q_is_speech_1 .nil))) (.cons (.ret (.lit (.bl false))) .nil) .nil) .nil))
def Q_is_speech_3 : E := (.comp (.call i_is_whole (.cons (.var 3) (.cons (.lit (.int 0)) (.cons (.var 1) .nil)))) (.name 3) (.ex (.slc (.var 0) .nil (.cons (.lit (.int 2)) .nil))) .nil)
def b_is_speech : Ss := (.cons (.ite (.or (.not (.isi (.var 0) .tuple)) (.or (.cmp .ne (.bi .len (.cons (.var 0) .nil)) (.lit (.int 3))) (.not (.isi (.idx (.var 0) (.lit (.int 2))) .tuple)))) (.cons (.ret (.lit (.bl false))) .nil) .nil) (.cons (.asg (.name 1) (.bin .sub (.bi .len (.cons (.idx (.var 0) (.lit (.int 2))) .nil)) (.lit (.int 1)))) (.cons (.ite (.or (.not (.chain .le .lt (.lit (.int 0)) (.var 1) (.glob c_STANDS))) (.not (.bi .all (.cons Q_is_speech_3 .nil)))) (.cons (.ret (.lit (.bl false))) .nil) .nil) (.cons (.forr (.name 2) (.ex (.idx (.var 0) (.lit (.int 2)))) L_is_speech_2) (.cons (.ret (.lit (.bl true))) .nil)))))
def f_is_speech : Fn := ⟨1, 4, [], b_is_speech⟩
def b_is_whole : Ss := (.cons (.ret (.and (.isi (.var 0) .int) (.and (.not (.isi (.var 0) .bool)) (.chain .le .le (.var 1) (.var 0) (.var 2))))) .nil)
def f_is_whole : Fn := ⟨3, 3, [], b_is_whole⟩
def b_is_word : Ss := (.cons (.ret (.call i_is_letters (.cons (.var 0) (.cons (.lit (.int 0)) (.cons (.lit (.int 8)) .nil))))) .nil)
def f_is_word : Fn := ⟨1, 1, [], b_is_word⟩
def Q_law_k11_1 : E := (.comp (.call i_law_ask_k11 (.cons (.var 10) (.cons (.var 4) (.cons (.lit .non) .nil)))) (.name 10) (.rng (.lit (.int 3))) .nil)
def L_law_k11_2 : Ss := (.cons (.ite (.cmp .ne Q_law_k11_1 (.bin .mul (.lst (.cons (.tup (.cons (.lit (.str [114, 101, 102, 117, 115, 101, 100])) (.cons (.lit (.int 5)) .nil))) .nil)) (.lit (.int 3)))) (.cons (.ret (.lit (.bl false))) .nil) .nil) .nil)
def b_law_k11 : Ss := (.cons (.asg (.name 1) (.lst (.cons (.lit (.int 0)) (.cons (.lit (.int 0)) .nil)))) (.cons (.asg (.name 2) (.tup (.cons (.lit (.str [97, 98])) (.cons (.lit (.int 0)) (.cons (.lit (.int 0)) (.cons (.lit (.int 0)) (.cons (.lit (.int 0)) .nil))))))) (.cons (.asg (.name 3) (.lst (.cons (.lit .non) (.cons (.tup .nil) (.cons (.tup (.cons (.lit (.int 0)) (.cons (.lit (.int 0)) (.cons (.tup .nil) .nil)))) (.cons (.lst (.cons (.lit (.int 0)) (.cons (.lit (.int 0)) (.cons (.tup (.cons (.var 2) .nil)) .nil)))) (.cons (.tup (.cons (.lit (.int 0)) (.cons (.lit (.int 0)) (.cons (.bin .mul (.tup (.cons (.var 2) .nil)) (.lit (.int 9))) .nil)))) (.cons (.tup (.cons (.lit (.int 1)) (.cons (.lit (.int 0)) (.cons (.tup (.cons (.var 2) .nil)) .nil)))) .nil)))))))) (.cons (.expr (.me .extend (.var 3) (.cons (.lst (.cons (.tup (.cons (.lit (.int 0)) (.cons (.lit (.int 0)) (.cons (.tup (.cons (.tup (.cons (.lit (.str [65, 66])) (.cons (.lit (.int 0)) (.cons (.lit (.int 0)) (.cons (.lit (.int 0)) (.cons (.lit (.int 0)) .nil)))))) .nil)) .nil)))) (.cons (.lit (.str [115, 112, 101, 101, 99, 104])) (.cons (.lit (.int 5)) .nil)))) .nil))) (.cons (.forr (.name 4) (.ex (.var 3)) L_law_k11_2) (.cons (.asg (.name 5) (.tup (.cons (.lit (.int 0)) (.cons (.lit (.int 0)) (.cons (.tup (.cons (.var 2) .nil)) .nil))))) (.cons (.ite (.or (.cmp .isn (.call i_law_ask_k11 (.cons (.lit (.int 0)) (.cons (.var 5) (.cons (.lit .non) .nil)))) (.lit .non)) (.cmp .isn (.call i_law_ask_k11 (.cons (.lit (.int 2)) (.cons (.var 5) (.cons (.call i_law_ask_k11 (.cons (.lit (.int 1)) (.cons (.var 5) (.cons (.lit .non) .nil)))) .nil)))) (.lit (.bl true)))) (.cons (.ret (.lit (.bl false))) .nil) .nil) (.cons (.asg (.name 6) (.call i_law_pick (.cons (.var 0) (.cons (.var 1) (.cons (.lst (.cons (.lit (.str [107, 105, 110])) (.cons (.lit (.str [])) (.cons (.lit (.str [102, 97, 114])) .nil)))) .nil))))) (.cons (.asg (.name 7) (.tup (.cons (.tup (.cons (.lit (.str [105])) (.cons (.lit (.int 1)) (.cons (.lit (.int 2)) (.cons (.lit (.int 5)) (.cons (.lit (.int 5)) .nil)))))) (.cons (.tup (.cons (.lit (.str [102, 97, 116, 104, 101, 114])) (.cons (.lit (.int 5)) (.cons (.lit (.int 5)) (.cons (.lit (.int 3)) (.cons (.lit (.int 4)) .nil)))))) (.cons (.tup (.cons (.lit (.str [109, 111, 116, 104, 101, 114])) (.cons (.lit (.int 5)) (.cons (.lit (.int 5)) (.cons (.lit (.int 3)) (.cons (.lit (.int 4)) .nil)))))) .nil))))) (.cons (.asg (.name 7) (.bin .add (.var 7) (.tup (.cons (.tup (.cons (.lit (.str [98, 114, 111, 116, 104, 101, 114])) (.cons (.lit (.int 5)) (.cons (.lit (.int 5)) (.cons (.lit (.int 5)) (.cons (.lit (.int 5)) .nil)))))) (.cons (.tup (.cons (.lit (.str [115, 105, 115, 116, 101, 114])) (.cons (.lit (.int 5)) (.cons (.lit (.int 5)) (.cons (.lit (.int 5)) (.cons (.lit (.int 5)) .nil)))))) (.cons (.tup (.cons (.var 6) (.cons (.lit (.int 5)) (.cons (.lit (.int 5)) (.cons (.lit (.int 5)) (.cons (.lit (.int 5)) .nil)))))) .nil)))))) (.cons (.ite (.or (.cmp .isn (.call i_law_ask_k11 (.cons (.lit (.int 0)) (.cons (.tup (.cons (.lit (.int 0)) (.cons (.lit (.int 0)) (.cons (.var 7) .nil)))) (.cons (.lit .non) .nil)))) (.lit .non)) (.cmp .lt (.bi .len (.cons (.idx (.call i_law_ask_k11 (.cons (.lit (.int 1)) (.cons (.tup (.cons (.lit (.int 0)) (.cons (.lit (.int 0)) (.cons (.var 7) .nil)))) (.cons (.lit .non) .nil)))) (.lit (.int 0))) .nil)) (.lit (.int 6)))) (.cons (.ret (.lit (.bl false))) .nil) .nil) (.cons (.asg (.name 8) (.bin .add (.bin .add (.slc (.var 7) .nil (.cons (.lit (.int 2)) .nil)) (.tup (.cons (.tup (.cons (.lit (.str [109, 111, 116, 104, 101, 114])) (.cons (.lit (.int 5)) (.cons (.lit (.int 5)) (.cons (.lit (.int 4)) (.cons (.lit (.int 4)) .nil)))))) .nil))) (.slc (.var 7) (.cons (.lit (.int 3)) .nil) .nil))) (.cons (.asg (.name 9) (.call i_law_ask_k11 (.cons (.lit (.int 0)) (.cons (.tup (.cons (.lit (.int 0)) (.cons (.lit (.int 0)) (.cons (.var 8) .nil)))) (.cons (.lit .non) .nil))))) (.cons (.ite (.or (.cmp .ne (.bi .len (.cons (.idx (.var 9) (.lit (.int 0))) .nil)) (.lit (.int 4))) (.cmp .ne (.bi .sorted (.cons (.lst (.cons (.idx (.var 9) (.lit (.int 3))) (.cons (.idx (.var 9) (.lit (.int 4))) .nil))) .nil)) (.lst (.cons (.lit (.str [102, 115])) (.cons (.lit (.str [109, 115])) .nil))))) (.cons (.ret (.lit (.bl false))) .nil) .nil) (.cons (.ret (.cmp .is (.call i_law_ask_k11 (.cons (.lit (.int 1)) (.cons (.tup (.cons (.lit (.int 0)) (.cons (.lit (.int 0)) (.cons (.var 8) .nil)))) (.cons (.lit .non) .nil)))) (.lit .non))) .nil)))))))))))))))
def f_law_k11 : Fn := ⟨1, 11, [], b_law_k11⟩
def L_led_1 : Ss := (.cons (.asg (.name 1) (.call i_gone (.cons (.var 0) (.cons (.var 1) (.cons (.var 3) .nil))))) .nil)
def b_led : Ss := (.cons (.forr (.name 3) (.ex (.var 2)) L_led_1) (.cons (.ret (.var 1)) .nil))
def f_led : Fn := ⟨3, 4, [], b_led⟩
def b_may_go : Ss := (.cons (.ret (.not (.or (.and (.cmp .eq (.var 1) (.lit (.str [102]))) (.cmp .isIn (.var 0) (.tup (.cons (.lit (.str [104, 101])) (.cons (.lit (.str [98, 111, 116, 104])) .nil))))) (.and (.cmp .eq (.var 1) (.lit (.str [109]))) (.cmp .isIn (.var 0) (.tup (.cons (.lit (.str [115, 104, 101])) (.cons (.lit (.str [98, 111, 116, 104])) .nil)))))))) .nil)
def f_may_go : Fn := ⟨2, 2, [], b_may_go⟩
def b_need_speech : Ss := (.cons (.ite (.not (.call i_is_speech (.cons (.var 0) .nil))) (.cons (.raise x_NoSpeech) .nil) .nil) .nil)
def f_need_speech : Fn := ⟨1, 1, [], b_need_speech⟩
def L_next_pairs_1 : Ss := (.cons (.asg (.name 8) (.tup (.cons (.call i_gone (.cons (.var 0) (.cons (.var 6) (.cons (.var 3) .nil)))) (.cons (.call i_gone (.cons (.var 0) (.cons (.var 7) (.cons (.var 3) .nil)))) .nil)))) (.cons (.expr (.me .append (.var 2) (.cons (.tup (.cons (.bin .add (.tup (.cons (.call i_sex_behind (.cons (.var 3) .nil)) (.cons (.call i_way_behind (.cons (.var 4) (.cons (.var 3) .nil))) .nil))) (.var 8)) (.cons (.var 3) .nil))) .nil))) .nil))
def b_next_pairs : Ss := (.cons (.asg (.tup [4, 5, 6, 7]) (.var 1)) (.cons (.asg (.name 2) (.lst .nil)) (.cons (.forr (.name 3) (.ex (.call i_steps_from (.cons (.var 5) .nil))) L_next_pairs_1) (.cons (.ret (.var 2)) .nil))))
def f_next_pairs : Fn := ⟨2, 9, [], b_next_pairs⟩
def L_next_places_1 : Ss := (.cons (.expr (.me .append (.var 2) (.cons (.tup (.cons (.tup (.cons (.call i_sex_behind (.cons (.var 3) .nil)) (.cons (.call i_way_behind (.cons (.var 4) (.cons (.var 3) .nil))) (.cons (.call i_gone (.cons (.var 0) (.cons (.var 6) (.cons (.var 3) .nil)))) .nil)))) (.cons (.var 3) .nil))) .nil))) .nil)
def b_next_places : Ss := (.cons (.asg (.tup [4, 5, 6]) (.var 1)) (.cons (.asg (.name 2) (.lst .nil)) (.cons (.forr (.name 3) (.ex (.call i_steps_from (.cons (.var 5) .nil))) L_next_places_1) (.cons (.ret (.var 2)) .nil))))
def f_next_places : Fn := ⟨2, 7, [], b_next_places⟩
def Q_paper_1 : E := (.comp (.call i_is_alike (.cons (.var 0) (.cons (.var 2) .nil))) (.name 2) (.ex (.var 1)) .nil)
def b_paper : Ss := (.cons (.expr (.call i_need_speech (.cons (.var 0) .nil))) (.cons (.asg (.name 1) (.call i_all_pairs (.cons (.var 0) .nil))) (.cons (.ite (.not (.bi .all (.cons Q_paper_1 .nil))) (.cons (.ret (.lit .non)) .nil) .nil) (.cons (.ret (.tup (.cons (.bi .sorted (.cons (.call i_all_places (.cons (.var 0) .nil)) .nil)) (.cons (.bi .sorted (.cons (.var 1) .nil)) .nil)))) .nil))))
def f_paper : Fn := ⟨1, 3, [], b_paper⟩
def b_sex_behind : Ss := (.cons (.ret (.ite (.cmp .isIn (.var 0) (.lit (.str [102, 115]))) (.lit (.str [104, 101])) (.lit (.str [115, 104, 101])))) .nil)
def f_sex_behind : Fn := ⟨1, 1, [], b_sex_behind⟩
def L_shown_1 : Ss := (.cons (.expr (.mth (.var 1) m_child (.cons (.var 8) (.cons (.var 9) .nil)))) (.cons (.expr (.mth (.var 1) m_child (.cons (.var 8) (.cons (.var 10) .nil)))) .nil))
def L_shown_2 : Ss := (.cons (.expr (.mth (.var 1) m_child (.cons (.var 8) (.cons (.var 2) .nil)))) (.cons (.expr (.mth (.var 1) m_child (.cons (.var 8) (.cons (.var 11) .nil)))) .nil))
def b_shown : Ss := (.cons (.asg (.tup [4, 5, 6, 7]) (.var 0)) (.cons (.asg (.name 1) (.new k_Kin (.cons (.var 4) .nil))) (.cons (.asg (.name 2) (.mth (.var 1) m_walk (.cons (.lit (.int 0)) (.cons (.var 5) .nil)))) (.cons (.ite (.cmp .isIn (.idx (.idx (.var 6) (.lit (.int 0))) (.lit (.int 0))) (.lit (.str [102, 109]))) (.cons (.asg (.tup [9, 10, 11]) (.tup (.cons (.mth (.var 1) m_more (.cons (.lit (.str [104, 101])) .nil)) (.cons (.mth (.var 1) m_more (.cons (.lit (.str [115, 104, 101])) .nil)) (.cons (.mth (.var 1) m_more (.cons (.call i_sex_behind (.cons (.idx (.idx (.var 6) (.lit (.int 0))) (.lit (.int 1))) .nil)) .nil)) .nil))))) (.cons (.forr (.name 8) (.ex (.tup (.cons (.var 2) (.cons (.var 11) .nil)))) L_shown_1) .nil)) (.cons (.asg (.tup [12, 13, 11]) (.tup (.cons (.mth (.var 1) m_more (.cons (.lit (.str [104, 101])) .nil)) (.cons (.mth (.var 1) m_more (.cons (.lit (.str [115, 104, 101])) .nil)) (.cons (.mth (.var 1) m_more (.cons (.call i_sex_behind (.cons (.idx (.idx (.var 6) (.lit (.int 0))) (.lit (.int 1))) .nil)) .nil)) .nil))))) (.cons (.forr (.name 8) (.ex (.tup (.cons (.var 12) (.cons (.var 13) .nil)))) L_shown_2) .nil))) (.cons (.asg (.name 3) (.mth (.var 1) m_walk (.cons (.var 11) (.cons (.var 7) .nil)))) (.cons (.ret (.tup (.cons (.mth (.var 1) m_told .nil) (.cons (.mth (.var 1) m_name (.cons (.lit (.int 0)) .nil)) (.cons (.mth (.var 1) m_name (.cons (.var 3) .nil)) (.cons (.bin .add (.bin .add (.var 5) (.idx (.var 6) (.lit (.int 0)))) (.var 7)) (.cons (.bin .add (.bin .add (.var 5) (.idx (.var 6) (.lit (.int 1)))) (.var 7)) .nil))))))) .nil))))))
def f_shown : Fn := ⟨1, 14, [], b_shown⟩
def Q_steps_from_1 : E := (.comp (.var 1) (.name 1) (.ex (.glob c_STEPS)) (.cons (.call i_may_go (.cons (.var 0) (.cons (.var 1) .nil))) .nil))
def b_steps_from : Ss := (.cons (.ret Q_steps_from_1) .nil)
def f_steps_from : Fn := ⟨1, 2, [], b_steps_from⟩
def b_unsure : Ss := (.cons (.expr (.call i_need_speech (.cons (.var 0) .nil))) (.cons (.ret (.call i_where_unsure (.cons (.var 0) .nil))) .nil))
def f_unsure : Fn := ⟨1, 1, [], b_unsure⟩
def b_way_behind : Ss := (.cons (.ret (.ite (.cmp .isIn (.var 1) (.lit (.str [102, 109]))) (.lit (.str [102, 114, 101, 101])) (.var 0))) .nil)
def f_way_behind : Fn := ⟨2, 2, [], b_way_behind⟩
def L_where_unsure_1 : Ss := (.cons (.ite (.not (.call i_is_alike (.cons (.var 0) (.cons (.var 1) .nil)))) (.cons (.asg (.name 4) (.bin .add (.bi .len (.cons (.idx (.idx (.var 2) (.var 1)) (.lit (.int 1))) .nil)) (.bi .len (.cons (.idx (.idx (.var 2) (.var 1)) (.lit (.int 3))) .nil)))) (.cons (.ite (.or (.cmp .is (.var 3) (.lit .non)) (.cmp .lt (.var 4) (.idx (.var 3) (.lit (.int 0))))) (.cons (.asg (.name 3) (.tup (.cons (.var 4) (.cons (.idx (.var 2) (.var 1)) .nil)))) .nil) .nil) .nil)) .nil) .nil)
def b_where_unsure : Ss := (.cons (.asg (.tup [2, 3]) (.tup (.cons (.call i_all_pairs (.cons (.var 0) .nil)) (.cons (.lit .non) .nil)))) (.cons (.forr (.name 1) (.ex (.var 2)) L_where_unsure_1) (.cons (.ret (.ite (.cmp .is (.var 3) (.lit .non)) (.lit .non) (.call i_shown (.cons (.idx (.var 3) (.lit (.int 1))) .nil)))) .nil)))
def f_where_unsure : Fn := ⟨1, 5, [], b_where_unsure⟩
def b_word_at : Ss := (.cons (.ret (.idx (.idx (.idx (.var 0) (.lit (.int 2))) (.var 1)) (.lit (.int 0)))) .nil)
def f_word_at : Fn := ⟨2, 2, [], b_word_at⟩
def b_Kin_init : Ss := (.cons (.asg (.flds 0 [l_sexes, l_fathers, l_mothers]) (.tup (.cons (.lst (.cons (.var 1) .nil)) (.cons (.dct .nil) (.cons (.dct .nil) .nil))))) .nil)
def f_Kin_init : Fn := ⟨2, 2, [], b_Kin_init⟩
def b_Kin_child : Ss := (.cons (.ite (.cmp .eq (.idx (.fld (.var 0) l_sexes) (.var 2)) (.lit (.str [104, 101]))) (.cons (.asg (.sub (.fld (.var 0) l_fathers) (.var 1)) (.var 2)) .nil) (.cons (.asg (.sub (.fld (.var 0) l_mothers) (.var 1)) (.var 2)) .nil)) .nil)
def f_Kin_child : Fn := ⟨3, 3, [], b_Kin_child⟩
def b_Kin_more : Ss := (.cons (.expr (.me .append (.fld (.var 0) l_sexes) (.cons (.var 1) .nil))) (.cons (.ret (.bin .sub (.bi .len (.cons (.fld (.var 0) l_sexes) .nil)) (.lit (.int 1)))) .nil))
def f_Kin_more : Fn := ⟨2, 2, [], b_Kin_more⟩
def b_Kin_name : Ss := (.cons (.ite (.cmp .is (.var 1) (.lit .non)) (.cons (.ret (.lit .non)) .nil) .nil) (.cons (.asg (.tup [2, 3]) (.bi .divmod (.cons (.var 1) (.cons (.lit (.int 26)) .nil)))) (.cons (.ret (.bin .mul (.idx (.lit (.str [97, 98, 99, 100, 101, 102, 103, 104, 105, 106, 107, 108, 109, 110, 111, 112, 113, 114, 115, 116, 117, 118, 119, 120, 121, 122])) (.var 3)) (.bin .add (.var 2) (.lit (.int 1))))) .nil)))
def f_Kin_name : Fn := ⟨2, 4, [], b_Kin_name⟩
def C_Kin_told_1 : E := (.cmp .lt (.bi .len (.cons (.var 1) .nil)) (.bi .len (.cons (.fld (.var 0) l_sexes) .nil)))
def Q_Kin_told_2 : E := (.comp (.cmp .isIn (.var 7) (.var 2)) (.name 7) (.ex (.var 4)) .nil)
def Q_Kin_told_3 : E := (.comp (.idx (.var 6) (.var 3)) (.name 6) (.ex (.tup (.cons (.fld (.var 0) l_fathers) (.cons (.fld (.var 0) l_mothers) .nil)))) (.cons (.cmp .isIn (.var 3) (.var 6)) .nil))
def L_Kin_told_4 : Ss := (.cons (.asg (.name 4) Q_Kin_told_3) (.cons (.ite (.and (.cmp .notIn (.var 3) (.var 2)) (.bi .all (.cons Q_Kin_told_2 .nil))) (.cons (.asg (.sub (.var 2) (.var 3)) (.lit (.bl true))) (.cons (.asg (.name 5) (.tup (.cons (.mth (.var 0) m_name (.cons (.me .get (.fld (.var 0) l_fathers) (.cons (.var 3) .nil)) .nil)) (.cons (.mth (.var 0) m_name (.cons (.me .get (.fld (.var 0) l_mothers) (.cons (.var 3) .nil)) .nil)) .nil)))) (.cons (.expr (.me .append (.var 1) (.cons (.bin .add (.tup (.cons (.mth (.var 0) m_name (.cons (.var 3) .nil)) (.cons (.idx (.fld (.var 0) l_sexes) (.var 3)) .nil))) (.var 5)) .nil))) .nil))) .nil) .nil))
def L_Kin_told_5 : Ss := (.cons (.forr (.name 3) (.rng (.bi .len (.cons (.fld (.var 0) l_sexes) .nil))) L_Kin_told_4) .nil)
def b_Kin_told : Ss := (.cons (.asg (.tup [1, 2]) (.tup (.cons (.lst .nil) (.cons (.dct .nil) .nil)))) (.cons (.whil C_Kin_told_1 L_Kin_told_5) (.cons (.ret (.bi .tuple (.cons (.var 1) .nil))) .nil)))
def f_Kin_told : Fn := ⟨1, 8, [], b_Kin_told⟩
def L_Kin_walk_1 : Ss := (.cons (.asg (.name 4) (.mth (.var 0) m_more (.cons (.call i_sex_behind (.cons (.var 3) .nil)) .nil))) (.cons (.ite (.cmp .isIn (.var 3) (.lit (.str [102, 109]))) (.cons (.expr (.mth (.var 0) m_child (.cons (.var 1) (.cons (.var 4) .nil)))) .nil) (.cons (.expr (.mth (.var 0) m_child (.cons (.var 4) (.cons (.var 1) .nil)))) .nil)) (.cons (.asg (.name 1) (.var 4)) .nil)))
def b_Kin_walk : Ss := (.cons (.forr (.name 3) (.ex (.var 2)) L_Kin_walk_1) (.cons (.ret (.var 1)) .nil))
def f_Kin_walk : Fn := ⟨3, 5, [], b_Kin_walk⟩
def fnsL : List Fn := [f_law_ask_k11, f_law_draw, f_law_first, f_law_go, f_law_pick, f_law_speech, f_law_which, f_law_word, f_all_pairs, f_all_places, f_are_unlike, f_choices, f_first_of, f_firsts, f_gone, f_is_alike, f_is_letters, f_is_paper, f_is_place, f_is_sex, f_is_speech, f_is_whole, f_is_word, f_law_k11, f_led, f_may_go, f_need_speech, f_next_pairs, f_next_places, f_paper, f_sex_behind, f_shown, f_steps_from, f_unsure, f_way_behind, f_where_unsure, f_word_at, f_Kin_init, f_Kin_child, f_Kin_more, f_Kin_name, f_Kin_told, f_Kin_walk]
def G : Glo := ⟨fnsL, [(.str [97, 98, 99, 100, 101, 102, 103, 104, 105, 106, 107, 108, 109, 110, 111, 112, 113, 114, 115, 116, 117, 118, 119, 120, 121, 122]), (.str [102, 109, 115, 100]), (.int 8), (.tup [(.str [102, 114, 101, 101]), (.str [104, 101]), (.str [115, 104, 101]), (.str [98, 111, 116, 104])])], [⟨i_Kin_init, [(m___init__, i_Kin_init), (m_child, i_Kin_child), (m_more, i_Kin_more), (m_name, i_Kin_name), (m_told, i_Kin_told), (m_walk, i_Kin_walk)]⟩], [[0, 15], [1, 0, 15], [2, 0, 15], [3, 0, 15], [4, 0, 15], [5, 0, 15], [6, 0, 15], [7, 0, 15], [8, 0, 15], [9, 0, 15], [10, 0, 15], [11, 0, 15], [12, 0, 15], [13, 0, 15], [14, 0, 15]], 100000⟩
theorem gc_LETTERS : G.cst[c_LETTERS]? = some (.str [97, 98, 99, 100, 101, 102, 103, 104, 105, 106, 107, 108, 109, 110, 111, 112, 113, 114, 115, 116, 117, 118, 119, 120, 121, 122]) := rfl
theorem gc_STEPS : G.cst[c_STEPS]? = some (.str [102, 109, 115, 100]) := rfl
theorem gc_STANDS : G.cst[c_STANDS]? = some (.int 8) := rfl
theorem gc_WAYS : G.cst[c_WAYS]? = some (.tup [(.str [102, 114, 101, 101]), (.str [104, 101]), (.str [115, 104, 101]), (.str [98, 111, 116, 104])]) := rfl
theorem gk_Kin : G.cls[k_Kin]? = some ⟨i_Kin_init, [(m___init__, i_Kin_init), (m_child, i_Kin_child), (m_more, i_Kin_more), (m_name, i_Kin_name), (m_told, i_Kin_told), (m_walk, i_Kin_walk)]⟩ := rfl
theorem gx_KinError : G.exc[x_KinError]? = some [0, 15] := rfl
theorem gx_NoFamily : G.exc[x_NoFamily]? = some [1, 0, 15] := rfl
theorem gx_NotPlain : G.exc[x_NotPlain]? = some [2, 0, 15] := rfl
theorem gx_NoName : G.exc[x_NoName]? = some [3, 0, 15] := rfl
theorem gx_NoSex : G.exc[x_NoSex]? = some [4, 0, 15] := rfl
theorem gx_NoRow : G.exc[x_NoRow]? = some [5, 0, 15] := rfl
theorem gx_NoSpeech : G.exc[x_NoSpeech]? = some [6, 0, 15] := rfl
theorem gx_NotSure : G.exc[x_NotSure]? = some [7, 0, 15] := rfl
theorem gx_NoWord : G.exc[x_NoWord]? = some [8, 0, 15] := rfl
theorem gx_TooMany : G.exc[x_TooMany]? = some [9, 0, 15] := rfl
theorem gx_NoParent : G.exc[x_NoParent]? = some [10, 0, 15] := rfl
theorem gx_Taken : G.exc[x_Taken]? = some [11, 0, 15] := rfl
theorem gx_Full : G.exc[x_Full]? = some [12, 0, 15] := rfl
theorem gx_NoDeed : G.exc[x_NoDeed]? = some [13, 0, 15] := rfl
theorem gx_NoText : G.exc[x_NoText]? = some [14, 0, 15] := rfl
theorem g_law_ask_k11 : G.fns[i_law_ask_k11]? = some f_law_ask_k11 := rfl
theorem g_law_draw : G.fns[i_law_draw]? = some f_law_draw := rfl
theorem g_law_first : G.fns[i_law_first]? = some f_law_first := rfl
theorem g_law_go : G.fns[i_law_go]? = some f_law_go := rfl
theorem g_law_pick : G.fns[i_law_pick]? = some f_law_pick := rfl
theorem g_law_speech : G.fns[i_law_speech]? = some f_law_speech := rfl
theorem g_law_which : G.fns[i_law_which]? = some f_law_which := rfl
theorem g_law_word : G.fns[i_law_word]? = some f_law_word := rfl
theorem g_all_pairs : G.fns[i_all_pairs]? = some f_all_pairs := rfl
theorem g_all_places : G.fns[i_all_places]? = some f_all_places := rfl
theorem g_are_unlike : G.fns[i_are_unlike]? = some f_are_unlike := rfl
theorem g_choices : G.fns[i_choices]? = some f_choices := rfl
theorem g_first_of : G.fns[i_first_of]? = some f_first_of := rfl
theorem g_firsts : G.fns[i_firsts]? = some f_firsts := rfl
theorem g_gone : G.fns[i_gone]? = some f_gone := rfl
theorem g_is_alike : G.fns[i_is_alike]? = some f_is_alike := rfl
theorem g_is_letters : G.fns[i_is_letters]? = some f_is_letters := rfl
theorem g_is_paper : G.fns[i_is_paper]? = some f_is_paper := rfl
theorem g_is_place : G.fns[i_is_place]? = some f_is_place := rfl
theorem g_is_sex : G.fns[i_is_sex]? = some f_is_sex := rfl
theorem g_is_speech : G.fns[i_is_speech]? = some f_is_speech := rfl
theorem g_is_whole : G.fns[i_is_whole]? = some f_is_whole := rfl
theorem g_is_word : G.fns[i_is_word]? = some f_is_word := rfl
theorem g_law_k11 : G.fns[i_law_k11]? = some f_law_k11 := rfl
theorem g_led : G.fns[i_led]? = some f_led := rfl
theorem g_may_go : G.fns[i_may_go]? = some f_may_go := rfl
theorem g_need_speech : G.fns[i_need_speech]? = some f_need_speech := rfl
theorem g_next_pairs : G.fns[i_next_pairs]? = some f_next_pairs := rfl
theorem g_next_places : G.fns[i_next_places]? = some f_next_places := rfl
theorem g_paper : G.fns[i_paper]? = some f_paper := rfl
theorem g_sex_behind : G.fns[i_sex_behind]? = some f_sex_behind := rfl
theorem g_shown : G.fns[i_shown]? = some f_shown := rfl
theorem g_steps_from : G.fns[i_steps_from]? = some f_steps_from := rfl
theorem g_unsure : G.fns[i_unsure]? = some f_unsure := rfl
theorem g_way_behind : G.fns[i_way_behind]? = some f_way_behind := rfl
theorem g_where_unsure : G.fns[i_where_unsure]? = some f_where_unsure := rfl
theorem g_word_at : G.fns[i_word_at]? = some f_word_at := rfl
theorem g_Kin_init : G.fns[i_Kin_init]? = some f_Kin_init := rfl
theorem g_Kin_child : G.fns[i_Kin_child]? = some f_Kin_child := rfl
theorem g_Kin_more : G.fns[i_Kin_more]? = some f_Kin_more := rfl
theorem g_Kin_name : G.fns[i_Kin_name]? = some f_Kin_name := rfl
theorem g_Kin_told : G.fns[i_Kin_told]? = some f_Kin_told := rfl
theorem g_Kin_walk : G.fns[i_Kin_walk]? = some f_Kin_walk := rfl
end KP
namespace KP
open Kn
section
variable {Gl : Glo} {cl : CallF} {s s1 s2 : St} {h h1 h2 h3 : Hs} {v w u : Val} {vs : List Val} {o : OutS} {r a b : Ss}
theorem x_asg {i : Nat} {e : E} (he : evE Gl cl e s h = .ok v h1) (hr : exSs Gl cl r (s.set i (some v)) h1 = o) : exSs Gl cl (.cons (.asg (.name i) e) r) s h = o := by
  rw [exSs.eq_2, exS.eq_3, he]; exact hr
theorem v_call {f : Nat} {es : Es} (hes : evEs Gl cl es s h = .ok vs h1) (hc : callE cl f vs h1 = .ok v h2) : evE Gl cl (.call f es) s h = .ok v h2 := by
  rw [evE.eq_21, hes]; exact hc
theorem v_lst {es : Es} (hes : evEs Gl cl es s h = .ok vs h1) : evE Gl cl (.lst es) s h = .ok (.ref h1.length) (h1 ++ [.list vs]) := by
  rw [evE.eq_5, hes]; rfl
theorem v_lstN {es : Es} {n : Nat} (hes : evEs Gl cl es s h = .ok vs h1) (hn : h1.length = n) (hh : h1 ++ [.list vs] = h2) : evE Gl cl (.lst es) s h = .ok (.ref n) h2 := by
  rw [v_lst hes, hn, hh]
theorem vs_nil : evEs Gl cl .nil s h = .ok [] h := by rw [evEs.eq_1]
theorem vs_cons {e : E} {es : Es} (he : evE Gl cl e s h = .ok v h1) (hes : evEs Gl cl es s h1 = .ok vs h2) : evEs Gl cl (.cons e es) s h = .ok (v :: vs) h2 := by
  rw [evEs.eq_2, he]; simp only [Out.bind, hes]
theorem vs_1 {e : E} (he : evE Gl cl e s h = .ok v h1) : evEs Gl cl (.cons e .nil) s h = .ok [v] h1 := vs_cons he vs_nil
end
def takeSs : Nat → Ss → Ss
  | n + 1, .cons a r => .cons a (takeSs n r)
  | _, _ => .nil
def dropSs : Nat → Ss → Ss
  | 0, b => b
  | n + 1, .cons _ r => dropSs n r
  | _ + 1, .nil => .nil
theorem split_Ss {Gl : Glo} {cl : CallF} {s1 : St} {h1 : Hs} : ∀ (n : Nat) {b : Ss} {s : St} {h : Hs}, exSs Gl cl (takeSs n b) s h = .nx s1 h1 → exSs Gl cl b s h = exSs Gl cl (dropSs n b) s1 h1
  | 0, b, s, h, e => by
    cases b <;> (simp only [takeSs, exSs.eq_1] at e; cases e; rfl)
  | n + 1, .nil, s, h, e => by simp only [takeSs, exSs.eq_1] at e; cases e; rfl
  | n + 1, .cons a r, s, h, e => by
    simp only [takeSs] at e
    rw [exSs.eq_2] at e ⊢
    cases q : exS Gl cl a s h with
    | nx s2 h2 =>
      rw [q] at e
      exact split_Ss n e
    | _ => rw [q] at e; cases e

theorem draw_ok (ns : List Int) (a b m k : Nat) (hm : 0 < m) (hm2 : m < 1073741824) : ∃ d a' b' : Nat, d < m ∧ callAt G (k + 1) i_law_draw [.ref 0, .ref 1, .int m] [Sx ns, Tw a b] = .ok (.int d) [Sx ns, Tw a' b'] := by
  rw [callAt_go g_law_draw rfl]
  have h1 : inI (m : Int) 1073741824 = true := inI_of (by simpa using hm2)
  by_cases hb : 0 < b
  · refine ⟨b % m, a, b / m, Nat.mod_lt _ hm, ?_⟩
    simp [f_law_draw, b_law_draw, exSs, exS, evE, evEs, startOf, Out.bind, Out.toS, idxV, atI, cmpV, cmpO, opt, lvSet, binV, augGet, subSet, optS, biV, listAt, hb, hm, h1]
  · have hb0 : b = 0 := by omega
    subst hb0
    have h0 : inI 0 1073741824 = true := by decide
    have an : ¬ ((a : Int) < 0) := by omega
    cases ns with
    | nil =>
      refine ⟨a % m, a + 1, 0, Nat.mod_lt _ hm, ?_⟩
      simp [f_law_draw, b_law_draw, exSs, exS, evE, evEs, startOf, Out.bind, Out.toS, idxV, atI, cmpV, cmpO, opt, lvSet, binV, augGet, subSet, optS, biV, listAt, hm, h1, h0]
    | cons n ns =>
      generalize hns : n :: ns = l
      have hl : 0 < l.length := by rw [← hns]; simp
      have hne : l.isEmpty = false := by rw [← hns]; rfl
      have hml : a % l.length < l.length := Nat.mod_lt _ hl
      by_cases hc : a < l.length ∧ 10 ^ 18 ≤ l[a]!
      · obtain ⟨hc1, hc2⟩ := hc
        rw [getElem!_pos l a hc1] at hc2
        have hc2 : (1000000000000000000 : Int) ≤ l[a] := hc2
        obtain ⟨d, hd, e⟩ := int_mod_nat l[a] m hm
        obtain ⟨b', hb', e2⟩ := int_mod_nat (l[a] / (m : Int)) (10 ^ 60 * 10 ^ 60) (by decide)
        refine ⟨d, a + 1, b', hd, ?_⟩
        have e2 : l[a] / (m : Int) % 1000000000000000000000000000000000000000000000000000000000000000000000000000000000000000000000000000000000000000000000000 = b' := by rw [← e2]; rfl
        have p1 : inI 10 18446744073709551616 = true := by decide
        have p2 : inI 1000000000000000000000000000000000000000000000000000000000000 18446744073709551616 = false := by decide
        have p3 : inI 1000000000000000000000000000000000000000000000000000000000000 (2 ^ 1000) = true := by decide +kernel
        simp [f_law_draw, b_law_draw, exSs, exS, evE, evEs, startOf, Out.bind, Out.toS, idxV, atI, cmpV, cmpO, opt, lvSet, binV, augGet, subSet, optS, biV, listAt, hm, h1, h0, hc1, hc2, e, e2, hne, an, p1, p2, p3]
      · obtain ⟨mx, hmx, em⟩ := int_mod_nat (l[a % l.length] * 1103515245 + 7919 * (a : Int) + 12345) 2147483647 (by decide)
        obtain ⟨d, hd, e⟩ := int_mod_nat ((mx : Int) ^ 5 % 2147483647 % 999983) m hm
        refine ⟨d, a + 1, 0, hd, ?_⟩
        have em : (l[a % l.length] * 1103515245 + 7919 * (a : Int) + 12345) % 2147483647 = mx := em
        have p1 : inI 10 18446744073709551616 = true := by decide
        have p4 : inI 1103515245 18446744073709551616 = true := by decide
        have p5 : inI 7919 18446744073709551616 = true := by decide
        have p6 : inI (mx : Int) 18446744073709551616 = true := inI_of (by simp; omega)
        have p7 : (0 : Int) < l.length := by omega
        have p8 : ¬ ((a : Int) % l.length < 0) := by have := Int.emod_nonneg (a : Int) (b := (l.length : Int)) (by omega); omega
        have p9 : ((a : Int) % (l.length : Int)).toNat = a % l.length := by omega
        have p10 : l[a % l.length]? = some l[a % l.length] := List.getElem?_eq_getElem hml
        by_cases hz : a < l.length
        · have hz2 : ¬ ((1000000000000000000 : Int) ≤ l[a]) := fun z => hc ⟨hz, by rw [getElem!_pos l a hz]; exact z⟩
          simp [f_law_draw, b_law_draw, exSs, exS, evE, evEs, startOf, Out.bind, Out.toS, idxV, atI, cmpV, cmpO, opt, lvSet, binV, augGet, subSet, optS, biV, listAt, hm, h1, h0, hz, hz2, e, em, hne, an, p1, p4, p5, p6, p7, p8, p9, p10, hl]
        · simp [f_law_draw, b_law_draw, exSs, exS, evE, evEs, startOf, Out.bind, Out.toS, idxV, atI, cmpV, cmpO, opt, lvSet, binV, augGet, subSet, optS, biV, listAt, hm, h1, h0, hz, e, em, hne, an, p1, p4, p5, p6, p7, p8, p9, p10, hl]
theorem pick_ok (ns : List Int) (a b k : Nat) (ws : List Val) (hm : 0 < ws.length) (hm2 : ws.length < 1073741824) : ∃ d a' b' : Nat, ∃ v, ws[d]? = some v ∧ callAt G (k + 2) i_law_pick [.ref 0, .ref 1, .ref 2] [Sx ns, Tw a b, .list ws] = .ok v [Sx ns, Tw a' b', .list ws] := by
  obtain ⟨d, a', b', hd, e⟩ := draw_ok ns a b ws.length k hm hm2
  refine ⟨d, a', b', ws[d], List.getElem?_eq_getElem hd, ?_⟩
  rw [callAt_go g_law_pick rfl]
  have ec : callE (callAt G (k + 1)) i_law_draw [.ref 0, .ref 1, .int ws.length] [Sx ns, Tw a b, .list ws] = .ok (.int d) [Sx ns, Tw a' b', .list ws] := callE_town rfl e rfl
  have dn : ¬ ((d : Int) < 0) := by omega
  simp [f_law_pick, b_law_pick, exSs, exS, evE, evEs, startOf, Out.bind, Out.toS, idxV, atI, opt, biV, listAt, ec, hd, dn]

theorem pick_e (k : Nat) (ns : List Int) (a b : Nat) (ws : List Val) (hw : refsVs ws = []) (hm : 0 < ws.length) (hm2 : ws.length < 1073741824) : ∃ a' b' : Nat, ∃ v, v ∈ ws ∧ ∀ (h : Hs) (i : Nat), h[i]? = some (.list ws) → callE (callAt G (k + 2)) i_law_pick [.ref 0, .ref 1, .ref (i + 2)] (Sx ns :: Tw a b :: h) = .ok v (Sx ns :: Tw a' b' :: h) := by
  obtain ⟨d, a', b', v, hv, e⟩ := pick_ok ns a b k ws hm hm2
  have hv := List.mem_of_getElem? hv
  refine ⟨a', b', v, hv, fun h i hi => callE_town1 hi hw e ?_⟩
  have : ∀ (l : List Val), refsVs l = [] → ∀ v ∈ l, refsV v = [] := fun l => by
    induction l with
    | nil => intro _ v h; cases h
    | cons x r ih =>
      intro h v hv
      simp only [refsVs, List.append_eq_nil_iff] at h
      rcases List.mem_cons.mp hv with rfl | z
      · exact h.1
      · exact ih h.2 v z
  exact this ws hw v hv

def SA : St := [some (.ref 0), some (.ref 1), some (.tup [(.str [97, 98]), (.int 0), (.int 0), (.int 0), (.int 0)]), some (.ref 3), some (.int 5), some (.tup [(.int 0), (.int 0), (.tup [(.tup [(.str [97, 98]), (.int 0), (.int 0), (.int 0), (.int 0)])])]), none, none, none, none, none]
def TA : Hs := [(.list [(.int 0), (.int 0), (.tup [(.tup [(.str [97, 98]), (.int 0), (.int 0), (.int 0), (.int 0)])])]), (.list [.non, (.tup []), (.tup [(.int 0), (.int 0), (.tup [])]), (.ref 2), (.tup [(.int 0), (.int 0), (.tup [(.tup [(.str [97, 98]), (.int 0), (.int 0), (.int 0), (.int 0)]), (.tup [(.str [97, 98]), (.int 0), (.int 0), (.int 0), (.int 0)]), (.tup [(.str [97, 98]), (.int 0), (.int 0), (.int 0), (.int 0)]), (.tup [(.str [97, 98]), (.int 0), (.int 0), (.int 0), (.int 0)]), (.tup [(.str [97, 98]), (.int 0), (.int 0), (.int 0), (.int 0)]), (.tup [(.str [97, 98]), (.int 0), (.int 0), (.int 0), (.int 0)]), (.tup [(.str [97, 98]), (.int 0), (.int 0), (.int 0), (.int 0)]), (.tup [(.str [97, 98]), (.int 0), (.int 0), (.int 0), (.int 0)]), (.tup [(.str [97, 98]), (.int 0), (.int 0), (.int 0), (.int 0)])])]), (.tup [(.int 1), (.int 0), (.tup [(.tup [(.str [97, 98]), (.int 0), (.int 0), (.int 0), (.int 0)])])]), (.tup [(.int 0), (.int 0), (.tup [(.tup [(.str [65, 66]), (.int 0), (.int 0), (.int 0), (.int 0)])])]), (.str [115, 112, 101, 101, 99, 104]), (.int 5)]), (.list [(.tup [(.int 0), (.int 0), (.tup [(.tup [(.str [65, 66]), (.int 0), (.int 0), (.int 0), (.int 0)])])]), (.str [115, 112, 101, 101, 99, 104]), (.int 5)]), (.list [(.tup [(.str [114, 101, 102, 117, 115, 101, 100]), (.int 5)]), (.tup [(.str [114, 101, 102, 117, 115, 101, 100]), (.int 5)]), (.tup [(.str [114, 101, 102, 117, 115, 101, 100]), (.int 5)])]), (.list [(.tup [(.str [114, 101, 102, 117, 115, 101, 100]), (.int 5)])]), (.list [(.tup [(.str [114, 101, 102, 117, 115, 101, 100]), (.int 5)]), (.tup [(.str [114, 101, 102, 117, 115, 101, 100]), (.int 5)]), (.tup [(.str [114, 101, 102, 117, 115, 101, 100]), (.int 5)])]), (.list [(.tup [(.str [114, 101, 102, 117, 115, 101, 100]), (.int 5)]), (.tup [(.str [114, 101, 102, 117, 115, 101, 100]), (.int 5)]), (.tup [(.str [114, 101, 102, 117, 115, 101, 100]), (.int 5)])]), (.list [(.tup [(.str [114, 101, 102, 117, 115, 101, 100]), (.int 5)])]), (.list [(.tup [(.str [114, 101, 102, 117, 115, 101, 100]), (.int 5)]), (.tup [(.str [114, 101, 102, 117, 115, 101, 100]), (.int 5)]), (.tup [(.str [114, 101, 102, 117, 115, 101, 100]), (.int 5)])]), (.list [(.tup [(.str [114, 101, 102, 117, 115, 101, 100]), (.int 5)]), (.tup [(.str [114, 101, 102, 117, 115, 101, 100]), (.int 5)]), (.tup [(.str [114, 101, 102, 117, 115, 101, 100]), (.int 5)])]), (.list [(.tup [(.str [114, 101, 102, 117, 115, 101, 100]), (.int 5)])]), (.list [(.tup [(.str [114, 101, 102, 117, 115, 101, 100]), (.int 5)]), (.tup [(.str [114, 101, 102, 117, 115, 101, 100]), (.int 5)]), (.tup [(.str [114, 101, 102, 117, 115, 101, 100]), (.int 5)])]), (.list [(.tup [(.str [114, 101, 102, 117, 115, 101, 100]), (.int 5)]), (.tup [(.str [114, 101, 102, 117, 115, 101, 100]), (.int 5)]), (.tup [(.str [114, 101, 102, 117, 115, 101, 100]), (.int 5)])]), (.list [(.tup [(.str [114, 101, 102, 117, 115, 101, 100]), (.int 5)])]), (.list [(.tup [(.str [114, 101, 102, 117, 115, 101, 100]), (.int 5)]), (.tup [(.str [114, 101, 102, 117, 115, 101, 100]), (.int 5)]), (.tup [(.str [114, 101, 102, 117, 115, 101, 100]), (.int 5)])]), (.list [(.tup [(.str [114, 101, 102, 117, 115, 101, 100]), (.int 5)]), (.tup [(.str [114, 101, 102, 117, 115, 101, 100]), (.int 5)]), (.tup [(.str [114, 101, 102, 117, 115, 101, 100]), (.int 5)])]), (.list [(.tup [(.str [114, 101, 102, 117, 115, 101, 100]), (.int 5)])]), (.list [(.tup [(.str [114, 101, 102, 117, 115, 101, 100]), (.int 5)]), (.tup [(.str [114, 101, 102, 117, 115, 101, 100]), (.int 5)]), (.tup [(.str [114, 101, 102, 117, 115, 101, 100]), (.int 5)])]), (.list [(.tup [(.str [114, 101, 102, 117, 115, 101, 100]), (.int 5)]), (.tup [(.str [114, 101, 102, 117, 115, 101, 100]), (.int 5)]), (.tup [(.str [114, 101, 102, 117, 115, 101, 100]), (.int 5)])]), (.list [(.tup [(.str [114, 101, 102, 117, 115, 101, 100]), (.int 5)])]), (.list [(.tup [(.str [114, 101, 102, 117, 115, 101, 100]), (.int 5)]), (.tup [(.str [114, 101, 102, 117, 115, 101, 100]), (.int 5)]), (.tup [(.str [114, 101, 102, 117, 115, 101, 100]), (.int 5)])]), (.list [(.tup [(.str [114, 101, 102, 117, 115, 101, 100]), (.int 5)]), (.tup [(.str [114, 101, 102, 117, 115, 101, 100]), (.int 5)]), (.tup [(.str [114, 101, 102, 117, 115, 101, 100]), (.int 5)])]), (.list [(.tup [(.str [114, 101, 102, 117, 115, 101, 100]), (.int 5)])]), (.list [(.tup [(.str [114, 101, 102, 117, 115, 101, 100]), (.int 5)]), (.tup [(.str [114, 101, 102, 117, 115, 101, 100]), (.int 5)]), (.tup [(.str [114, 101, 102, 117, 115, 101, 100]), (.int 5)])]), (.list [(.tup [(.str [114, 101, 102, 117, 115, 101, 100]), (.int 5)]), (.tup [(.str [114, 101, 102, 117, 115, 101, 100]), (.int 5)]), (.tup [(.str [114, 101, 102, 117, 115, 101, 100]), (.int 5)])]), (.list [(.tup [(.str [114, 101, 102, 117, 115, 101, 100]), (.int 5)])]), (.list [(.tup [(.str [114, 101, 102, 117, 115, 101, 100]), (.int 5)]), (.tup [(.str [114, 101, 102, 117, 115, 101, 100]), (.int 5)]), (.tup [(.str [114, 101, 102, 117, 115, 101, 100]), (.int 5)])]), (.list [(.tup [(.str [114, 101, 102, 117, 115, 101, 100]), (.int 5)]), (.tup [(.str [114, 101, 102, 117, 115, 101, 100]), (.int 5)]), (.tup [(.str [114, 101, 102, 117, 115, 101, 100]), (.int 5)])]), (.list [(.tup [(.str [114, 101, 102, 117, 115, 101, 100]), (.int 5)])]), (.list [(.tup [(.str [114, 101, 102, 117, 115, 101, 100]), (.int 5)]), (.tup [(.str [114, 101, 102, 117, 115, 101, 100]), (.int 5)]), (.tup [(.str [114, 101, 102, 117, 115, 101, 100]), (.int 5)])]), (.dict [((.tup [(.str [104, 101]), (.str [102, 114, 101, 101]), (.int 0)]), (.tup [(.str [104, 101]), (.str [])])), ((.tup [(.str [115, 104, 101]), (.str [102, 114, 101, 101]), (.int 0)]), (.tup [(.str [115, 104, 101]), (.str [])])), ((.tup [(.str [104, 101]), (.str [104, 101]), (.int 0)]), (.tup [(.str [104, 101]), (.str [115])])), ((.tup [(.str [115, 104, 101]), (.str [104, 101]), (.int 0)]), (.tup [(.str [104, 101]), (.str [100])])), ((.tup [(.str [104, 101]), (.str [115, 104, 101]), (.int 0)]), (.tup [(.str [115, 104, 101]), (.str [115])])), ((.tup [(.str [115, 104, 101]), (.str [115, 104, 101]), (.int 0)]), (.tup [(.str [115, 104, 101]), (.str [100])]))]), (.list [(.tup [(.str [104, 101]), (.str [102, 114, 101, 101]), (.int 0)]), (.tup [(.str [115, 104, 101]), (.str [102, 114, 101, 101]), (.int 0)]), (.tup [(.str [104, 101]), (.str [104, 101]), (.int 0)]), (.tup [(.str [115, 104, 101]), (.str [104, 101]), (.int 0)]), (.tup [(.str [104, 101]), (.str [115, 104, 101]), (.int 0)]), (.tup [(.str [115, 104, 101]), (.str [115, 104, 101]), (.int 0)])]), (.list [(.tup [(.str [104, 101]), (.str [102, 114, 101, 101]), (.int 0)]), (.tup [(.str [115, 104, 101]), (.str [102, 114, 101, 101]), (.int 0)])]), (.list [(.tup [(.tup [(.str [104, 101]), (.str [102, 114, 101, 101]), (.int 0)]), (.str [102])]), (.tup [(.tup [(.str [115, 104, 101]), (.str [102, 114, 101, 101]), (.int 0)]), (.str [109])]), (.tup [(.tup [(.str [104, 101]), (.str [104, 101]), (.int 0)]), (.str [115])]), (.tup [(.tup [(.str [115, 104, 101]), (.str [104, 101]), (.int 0)]), (.str [100])])]), (.list [(.str [102]), (.str [109]), (.str [115]), (.str [100])]), (.list [(.tup [(.tup [(.str [104, 101]), (.str [102, 114, 101, 101]), (.int 0)]), (.str [102])]), (.tup [(.tup [(.str [115, 104, 101]), (.str [102, 114, 101, 101]), (.int 0)]), (.str [109])]), (.tup [(.tup [(.str [104, 101]), (.str [115, 104, 101]), (.int 0)]), (.str [115])]), (.tup [(.tup [(.str [115, 104, 101]), (.str [115, 104, 101]), (.int 0)]), (.str [100])])]), (.list [(.str [102]), (.str [109]), (.str [115]), (.str [100])]), (.list [(.tup [(.tup [(.str [115, 104, 101]), (.str [102, 114, 101, 101]), (.int 0)]), (.str [109])]), (.tup [(.tup [(.str [104, 101]), (.str [104, 101]), (.int 0)]), (.str [115])]), (.tup [(.tup [(.str [115, 104, 101]), (.str [104, 101]), (.int 0)]), (.str [100])])]), (.list [(.str [109]), (.str [115]), (.str [100])]), (.list [(.tup [(.tup [(.str [115, 104, 101]), (.str [102, 114, 101, 101]), (.int 0)]), (.str [109])]), (.tup [(.tup [(.str [104, 101]), (.str [115, 104, 101]), (.int 0)]), (.str [115])]), (.tup [(.tup [(.str [115, 104, 101]), (.str [115, 104, 101]), (.int 0)]), (.str [100])])]), (.list [(.str [109]), (.str [115]), (.str [100])]), (.list [(.tup [(.tup [(.str [104, 101]), (.str [102, 114, 101, 101]), (.int 0)]), (.str [102])]), (.tup [(.tup [(.str [104, 101]), (.str [104, 101]), (.int 0)]), (.str [115])]), (.tup [(.tup [(.str [115, 104, 101]), (.str [104, 101]), (.int 0)]), (.str [100])])]), (.list [(.str [102]), (.str [115]), (.str [100])]), (.list [(.tup [(.tup [(.str [104, 101]), (.str [102, 114, 101, 101]), (.int 0)]), (.str [102])]), (.tup [(.tup [(.str [104, 101]), (.str [115, 104, 101]), (.int 0)]), (.str [115])]), (.tup [(.tup [(.str [115, 104, 101]), (.str [115, 104, 101]), (.int 0)]), (.str [100])])]), (.list [(.str [102]), (.str [115]), (.str [100])]), (.dict [((.tup [(.str [104, 101]), (.str [98, 111, 116, 104]), (.int 0), (.int 0)]), (.tup [(.str [104, 101]), (.str []), (.tup [(.str [102, 115]), (.str [109, 115])]), (.str [])])), ((.tup [(.str [115, 104, 101]), (.str [98, 111, 116, 104]), (.int 0), (.int 0)]), (.tup [(.str [104, 101]), (.str []), (.tup [(.str [102, 100]), (.str [109, 100])]), (.str [])])), ((.tup [(.str [115, 104, 101]), (.str [102, 114, 101, 101]), (.int 0), (.int 0)]), (.tup [(.str [104, 101]), (.str []), (.tup [(.str [115, 109]), (.str [100, 109])]), (.str [])])), ((.tup [(.str [104, 101]), (.str [102, 114, 101, 101]), (.int 0), (.int 0)]), (.tup [(.str [115, 104, 101]), (.str []), (.tup [(.str [115, 102]), (.str [100, 102])]), (.str [])])), ((.tup [(.str [104, 101]), (.str [104, 101]), (.int 0), (.int 0)]), (.tup [(.str [104, 101]), (.str []), (.tup [(.str [102, 115]), (.str [109, 115])]), (.str [115])])), ((.tup [(.str [115, 104, 101]), (.str [104, 101]), (.int 0), (.int 0)]), (.tup [(.str [104, 101]), (.str []), (.tup [(.str [102, 115]), (.str [109, 115])]), (.str [100])])), ((.tup [(.str [104, 101]), (.str [115, 104, 101]), (.int 0), (.int 0)]), (.tup [(.str [104, 101]), (.str []), (.tup [(.str [102, 100]), (.str [109, 100])]), (.str [115])])), ((.tup [(.str [115, 104, 101]), (.str [115, 104, 101]), (.int 0), (.int 0)]), (.tup [(.str [104, 101]), (.str []), (.tup [(.str [102, 100]), (.str [109, 100])]), (.str [100])]))]), (.dict []), (.list [(.tup [(.str [104, 101]), (.str [98, 111, 116, 104]), (.str [102, 115]), (.str [109, 115])]), (.tup [(.str [115, 104, 101]), (.str [98, 111, 116, 104]), (.str [102, 100]), (.str [109, 100])]), (.tup [(.str [115, 104, 101]), (.str [102, 114, 101, 101]), (.str [115, 109]), (.str [100, 109])])]), (.list [(.tup [(.str [104, 101]), (.str [98, 111, 116, 104]), (.str [102, 115]), (.str [109, 115])]), (.tup [(.str [115, 104, 101]), (.str [98, 111, 116, 104]), (.str [102, 100]), (.str [109, 100])])]), (.list [(.tup [(.tup [(.str [104, 101]), (.str [98, 111, 116, 104]), (.int 0), (.int 0)]), (.tup [(.str [102, 115]), (.str [109, 115])])]), (.tup [(.tup [(.str [115, 104, 101]), (.str [98, 111, 116, 104]), (.int 0), (.int 0)]), (.tup [(.str [102, 100]), (.str [109, 100])])]), (.tup [(.tup [(.str [115, 104, 101]), (.str [102, 114, 101, 101]), (.int 0), (.int 0)]), (.tup [(.str [115, 109]), (.str [100, 109])])])]), (.list [(.tup [(.tup [(.str [104, 101]), (.str [98, 111, 116, 104]), (.int 0), (.int 0)]), (.tup [(.str [104, 101]), (.str []), (.tup [(.str [102, 115]), (.str [109, 115])]), (.str [])])]), (.tup [(.tup [(.str [115, 104, 101]), (.str [98, 111, 116, 104]), (.int 0), (.int 0)]), (.tup [(.str [104, 101]), (.str []), (.tup [(.str [102, 100]), (.str [109, 100])]), (.str [])])]), (.tup [(.tup [(.str [115, 104, 101]), (.str [102, 114, 101, 101]), (.int 0), (.int 0)]), (.tup [(.str [104, 101]), (.str []), (.tup [(.str [115, 109]), (.str [100, 109])]), (.str [])])]), (.tup [(.tup [(.str [104, 101]), (.str [98, 111, 116, 104]), (.int 0), (.int 0)]), (.tup [(.str [115, 104, 101]), (.str []), (.tup [(.str [102, 115]), (.str [109, 115])]), (.str [])])]), (.tup [(.tup [(.str [115, 104, 101]), (.str [98, 111, 116, 104]), (.int 0), (.int 0)]), (.tup [(.str [115, 104, 101]), (.str []), (.tup [(.str [102, 100]), (.str [109, 100])]), (.str [])])]), (.tup [(.tup [(.str [104, 101]), (.str [102, 114, 101, 101]), (.int 0), (.int 0)]), (.tup [(.str [115, 104, 101]), (.str []), (.tup [(.str [115, 102]), (.str [100, 102])]), (.str [])])])]), (.list []), (.list []), (.list [(.tup [(.str [104, 101]), (.str [98, 111, 116, 104]), (.str [102, 115]), (.str [109, 115])]), (.tup [(.str [115, 104, 101]), (.str [98, 111, 116, 104]), (.str [102, 100]), (.str [109, 100])]), (.tup [(.str [104, 101]), (.str [102, 114, 101, 101]), (.str [115, 102]), (.str [100, 102])])]), (.list [(.tup [(.str [104, 101]), (.str [98, 111, 116, 104]), (.str [102, 115]), (.str [109, 115])]), (.tup [(.str [115, 104, 101]), (.str [98, 111, 116, 104]), (.str [102, 100]), (.str [109, 100])])]), (.list [(.tup [(.tup [(.str [104, 101]), (.str [98, 111, 116, 104]), (.int 0), (.int 0)]), (.tup [(.str [102, 115]), (.str [109, 115])])]), (.tup [(.tup [(.str [115, 104, 101]), (.str [98, 111, 116, 104]), (.int 0), (.int 0)]), (.tup [(.str [102, 100]), (.str [109, 100])])]), (.tup [(.tup [(.str [104, 101]), (.str [102, 114, 101, 101]), (.int 0), (.int 0)]), (.tup [(.str [115, 102]), (.str [100, 102])])])]), (.list []), (.list []), (.list []), (.list [(.tup [(.str [115, 104, 101]), (.str [102, 114, 101, 101]), (.str [115, 109]), (.str [100, 109])])]), (.list [(.tup [(.tup [(.str [115, 104, 101]), (.str [102, 114, 101, 101]), (.int 0), (.int 0)]), (.tup [(.str [115, 109]), (.str [100, 109])])])]), (.list [(.tup [(.tup [(.str [115, 104, 101]), (.str [102, 114, 101, 101]), (.int 0), (.int 0)]), (.tup [(.str [104, 101]), (.str [115]), (.tup [(.str [115, 109]), (.str [100, 109])]), (.str [])])]), (.tup [(.tup [(.str [104, 101]), (.str [102, 114, 101, 101]), (.int 0), (.int 0)]), (.tup [(.str [104, 101]), (.str [100]), (.tup [(.str [115, 102]), (.str [100, 102])]), (.str [])])]), (.tup [(.tup [(.str [115, 104, 101]), (.str [102, 114, 101, 101]), (.int 0), (.int 0)]), (.tup [(.str [115, 104, 101]), (.str [115]), (.tup [(.str [115, 109]), (.str [100, 109])]), (.str [])])]), (.tup [(.tup [(.str [104, 101]), (.str [102, 114, 101, 101]), (.int 0), (.int 0)]), (.tup [(.str [115, 104, 101]), (.str [100]), (.tup [(.str [115, 102]), (.str [100, 102])]), (.str [])])]), (.tup [(.tup [(.str [104, 101]), (.str [104, 101]), (.int 0), (.int 0)]), (.tup [(.str [104, 101]), (.str []), (.tup [(.str [102, 115]), (.str [109, 115])]), (.str [115])])]), (.tup [(.tup [(.str [115, 104, 101]), (.str [104, 101]), (.int 0), (.int 0)]), (.tup [(.str [104, 101]), (.str []), (.tup [(.str [102, 115]), (.str [109, 115])]), (.str [100])])]), (.tup [(.tup [(.str [104, 101]), (.str [115, 104, 101]), (.int 0), (.int 0)]), (.tup [(.str [104, 101]), (.str []), (.tup [(.str [102, 100]), (.str [109, 100])]), (.str [115])])]), (.tup [(.tup [(.str [115, 104, 101]), (.str [115, 104, 101]), (.int 0), (.int 0)]), (.tup [(.str [104, 101]), (.str []), (.tup [(.str [102, 100]), (.str [109, 100])]), (.str [100])])]), (.tup [(.tup [(.str [104, 101]), (.str [102, 114, 101, 101]), (.int 0), (.int 0)]), (.tup [(.str [104, 101]), (.str []), (.tup [(.str [115, 109]), (.str [100, 109])]), (.str [102])])]), (.tup [(.tup [(.str [115, 104, 101]), (.str [102, 114, 101, 101]), (.int 0), (.int 0)]), (.tup [(.str [104, 101]), (.str []), (.tup [(.str [115, 109]), (.str [100, 109])]), (.str [109])])]), (.tup [(.tup [(.str [104, 101]), (.str [115, 104, 101]), (.int 0), (.int 0)]), (.tup [(.str [104, 101]), (.str []), (.tup [(.str [115, 109]), (.str [100, 109])]), (.str [115])])]), (.tup [(.tup [(.str [115, 104, 101]), (.str [115, 104, 101]), (.int 0), (.int 0)]), (.tup [(.str [104, 101]), (.str []), (.tup [(.str [115, 109]), (.str [100, 109])]), (.str [100])])]), (.tup [(.tup [(.str [104, 101]), (.str [102, 114, 101, 101]), (.int 0), (.int 0)]), (.tup [(.str [115, 104, 101]), (.str []), (.tup [(.str [115, 102]), (.str [100, 102])]), (.str [102])])]), (.tup [(.tup [(.str [115, 104, 101]), (.str [102, 114, 101, 101]), (.int 0), (.int 0)]), (.tup [(.str [115, 104, 101]), (.str []), (.tup [(.str [115, 102]), (.str [100, 102])]), (.str [109])])]), (.tup [(.tup [(.str [104, 101]), (.str [104, 101]), (.int 0), (.int 0)]), (.tup [(.str [115, 104, 101]), (.str []), (.tup [(.str [115, 102]), (.str [100, 102])]), (.str [115])])]), (.tup [(.tup [(.str [115, 104, 101]), (.str [104, 101]), (.int 0), (.int 0)]), (.tup [(.str [115, 104, 101]), (.str []), (.tup [(.str [115, 102]), (.str [100, 102])]), (.str [100])])])]), (.list [(.tup [(.str [104, 101]), (.str [102, 114, 101, 101]), (.str [115, 102]), (.str [100, 102])])]), (.list [(.tup [(.tup [(.str [104, 101]), (.str [102, 114, 101, 101]), (.int 0), (.int 0)]), (.tup [(.str [115, 102]), (.str [100, 102])])])]), (.list []), (.list [(.tup [(.str [115, 104, 101]), (.str [102, 114, 101, 101]), (.str [115, 109]), (.str [100, 109])])]), (.list [(.tup [(.tup [(.str [115, 104, 101]), (.str [102, 114, 101, 101]), (.int 0), (.int 0)]), (.tup [(.str [115, 109]), (.str [100, 109])])])]), (.list []), (.list [(.tup [(.str [104, 101]), (.str [102, 114, 101, 101]), (.str [115, 102]), (.str [100, 102])])]), (.list [(.tup [(.tup [(.str [104, 101]), (.str [102, 114, 101, 101]), (.int 0), (.int 0)]), (.tup [(.str [115, 102]), (.str [100, 102])])])]), (.list []), (.list []), (.list [(.tup [(.tup [(.str [104, 101]), (.str [104, 101]), (.int 0), (.int 0)]), (.str [115])]), (.tup [(.tup [(.str [115, 104, 101]), (.str [104, 101]), (.int 0), (.int 0)]), (.str [100])])]), (.list [(.str [115]), (.str [100])]), (.list []), (.list []), (.list [(.tup [(.tup [(.str [104, 101]), (.str [115, 104, 101]), (.int 0), (.int 0)]), (.str [115])]), (.tup [(.tup [(.str [115, 104, 101]), (.str [115, 104, 101]), (.int 0), (.int 0)]), (.str [100])])]), (.list [(.str [115]), (.str [100])]), (.list []), (.list []), (.list [(.tup [(.tup [(.str [104, 101]), (.str [102, 114, 101, 101]), (.int 0), (.int 0)]), (.str [102])]), (.tup [(.tup [(.str [115, 104, 101]), (.str [102, 114, 101, 101]), (.int 0), (.int 0)]), (.str [109])]), (.tup [(.tup [(.str [104, 101]), (.str [115, 104, 101]), (.int 0), (.int 0)]), (.str [115])]), (.tup [(.tup [(.str [115, 104, 101]), (.str [115, 104, 101]), (.int 0), (.int 0)]), (.str [100])])]), (.list [(.str [102]), (.str [109]), (.str [115]), (.str [100])]), (.list []), (.list []), (.list []), (.list []), (.list [(.tup [(.tup [(.str [104, 101]), (.str [102, 114, 101, 101]), (.int 0), (.int 0)]), (.str [102])]), (.tup [(.tup [(.str [115, 104, 101]), (.str [102, 114, 101, 101]), (.int 0), (.int 0)]), (.str [109])]), (.tup [(.tup [(.str [104, 101]), (.str [104, 101]), (.int 0), (.int 0)]), (.str [115])]), (.tup [(.tup [(.str [115, 104, 101]), (.str [104, 101]), (.int 0), (.int 0)]), (.str [100])])]), (.list [(.str [102]), (.str [109]), (.str [115]), (.str [100])]), (.list []), (.list []), (.list []), (.list []), (.list []), (.list [(.tup [(.tup [(.str [115, 104, 101]), (.str [102, 114, 101, 101]), (.int 0), (.int 0)]), (.str [109])]), (.tup [(.tup [(.str [104, 101]), (.str [104, 101]), (.int 0), (.int 0)]), (.str [115])]), (.tup [(.tup [(.str [115, 104, 101]), (.str [104, 101]), (.int 0), (.int 0)]), (.str [100])])]), (.list [(.str [109]), (.str [115]), (.str [100])]), (.list [(.tup [(.tup [(.str [115, 104, 101]), (.str [102, 114, 101, 101]), (.int 0), (.int 0)]), (.tup [(.str [104, 101]), (.str []), (.tup [(.str [102, 115]), (.str [109, 115])]), (.str [115, 109])])]), (.tup [(.tup [(.str [104, 101]), (.str [104, 101]), (.int 0), (.int 0)]), (.tup [(.str [104, 101]), (.str []), (.tup [(.str [102, 115]), (.str [109, 115])]), (.str [115, 115])])]), (.tup [(.tup [(.str [115, 104, 101]), (.str [104, 101]), (.int 0), (.int 0)]), (.tup [(.str [104, 101]), (.str []), (.tup [(.str [102, 115]), (.str [109, 115])]), (.str [115, 100])])]), (.tup [(.tup [(.str [115, 104, 101]), (.str [102, 114, 101, 101]), (.int 0), (.int 0)]), (.tup [(.str [104, 101]), (.str []), (.tup [(.str [102, 115]), (.str [109, 115])]), (.str [100, 109])])]), (.tup [(.tup [(.str [104, 101]), (.str [115, 104, 101]), (.int 0), (.int 0)]), (.tup [(.str [104, 101]), (.str []), (.tup [(.str [102, 115]), (.str [109, 115])]), (.str [100, 115])])]), (.tup [(.tup [(.str [115, 104, 101]), (.str [115, 104, 101]), (.int 0), (.int 0)]), (.tup [(.str [104, 101]), (.str []), (.tup [(.str [102, 115]), (.str [109, 115])]), (.str [100, 100])])]), (.tup [(.tup [(.str [104, 101]), (.str [102, 114, 101, 101]), (.int 0), (.int 0)]), (.tup [(.str [104, 101]), (.str []), (.tup [(.str [102, 100]), (.str [109, 100])]), (.str [115, 102])])]), (.tup [(.tup [(.str [104, 101]), (.str [104, 101]), (.int 0), (.int 0)]), (.tup [(.str [104, 101]), (.str []), (.tup [(.str [102, 100]), (.str [109, 100])]), (.str [115, 115])])]), (.tup [(.tup [(.str [115, 104, 101]), (.str [104, 101]), (.int 0), (.int 0)]), (.tup [(.str [104, 101]), (.str []), (.tup [(.str [102, 100]), (.str [109, 100])]), (.str [115, 100])])]), (.tup [(.tup [(.str [104, 101]), (.str [102, 114, 101, 101]), (.int 0), (.int 0)]), (.tup [(.str [104, 101]), (.str []), (.tup [(.str [102, 100]), (.str [109, 100])]), (.str [100, 102])])]), (.tup [(.tup [(.str [104, 101]), (.str [115, 104, 101]), (.int 0), (.int 0)]), (.tup [(.str [104, 101]), (.str []), (.tup [(.str [102, 100]), (.str [109, 100])]), (.str [100, 115])])]), (.tup [(.tup [(.str [115, 104, 101]), (.str [115, 104, 101]), (.int 0), (.int 0)]), (.tup [(.str [104, 101]), (.str []), (.tup [(.str [102, 100]), (.str [109, 100])]), (.str [100, 100])])])]), (.list []), (.list []), (.list [(.tup [(.tup [(.str [115, 104, 101]), (.str [102, 114, 101, 101]), (.int 0), (.int 0)]), (.str [109])]), (.tup [(.tup [(.str [104, 101]), (.str [115, 104, 101]), (.int 0), (.int 0)]), (.str [115])]), (.tup [(.tup [(.str [115, 104, 101]), (.str [115, 104, 101]), (.int 0), (.int 0)]), (.str [100])])]), (.list [(.str [109]), (.str [115]), (.str [100])]), (.list []), (.list []), (.list []), (.list [(.tup [(.tup [(.str [104, 101]), (.str [102, 114, 101, 101]), (.int 0), (.int 0)]), (.str [102])]), (.tup [(.tup [(.str [104, 101]), (.str [104, 101]), (.int 0), (.int 0)]), (.str [115])]), (.tup [(.tup [(.str [115, 104, 101]), (.str [104, 101]), (.int 0), (.int 0)]), (.str [100])])]), (.list [(.str [102]), (.str [115]), (.str [100])]), (.list []), (.list []), (.list []), (.list [(.tup [(.tup [(.str [104, 101]), (.str [102, 114, 101, 101]), (.int 0), (.int 0)]), (.str [102])]), (.tup [(.tup [(.str [104, 101]), (.str [115, 104, 101]), (.int 0), (.int 0)]), (.str [115])]), (.tup [(.tup [(.str [115, 104, 101]), (.str [115, 104, 101]), (.int 0), (.int 0)]), (.str [100])])]), (.list [(.str [102]), (.str [115]), (.str [100])]), (.list []), (.list []), (.list []), (.list []), (.list [(.bl true), (.bl true), (.bl true), (.bl true), (.bl true), (.bl true), (.bl true), (.bl true)]), (.dict [((.tup [(.str [104, 101]), (.str [102, 114, 101, 101]), (.int 0)]), (.tup [(.str [104, 101]), (.str [])])), ((.tup [(.str [115, 104, 101]), (.str [102, 114, 101, 101]), (.int 0)]), (.tup [(.str [115, 104, 101]), (.str [])])), ((.tup [(.str [104, 101]), (.str [104, 101]), (.int 0)]), (.tup [(.str [104, 101]), (.str [115])])), ((.tup [(.str [115, 104, 101]), (.str [104, 101]), (.int 0)]), (.tup [(.str [104, 101]), (.str [100])])), ((.tup [(.str [104, 101]), (.str [115, 104, 101]), (.int 0)]), (.tup [(.str [115, 104, 101]), (.str [115])])), ((.tup [(.str [115, 104, 101]), (.str [115, 104, 101]), (.int 0)]), (.tup [(.str [115, 104, 101]), (.str [100])]))]), (.list [(.tup [(.str [104, 101]), (.str [102, 114, 101, 101]), (.int 0)]), (.tup [(.str [115, 104, 101]), (.str [102, 114, 101, 101]), (.int 0)]), (.tup [(.str [104, 101]), (.str [104, 101]), (.int 0)]), (.tup [(.str [115, 104, 101]), (.str [104, 101]), (.int 0)]), (.tup [(.str [104, 101]), (.str [115, 104, 101]), (.int 0)]), (.tup [(.str [115, 104, 101]), (.str [115, 104, 101]), (.int 0)])]), (.list [(.tup [(.str [104, 101]), (.str [102, 114, 101, 101]), (.int 0)]), (.tup [(.str [115, 104, 101]), (.str [102, 114, 101, 101]), (.int 0)])]), (.list [(.tup [(.tup [(.str [104, 101]), (.str [102, 114, 101, 101]), (.int 0)]), (.str [102])]), (.tup [(.tup [(.str [115, 104, 101]), (.str [102, 114, 101, 101]), (.int 0)]), (.str [109])]), (.tup [(.tup [(.str [104, 101]), (.str [104, 101]), (.int 0)]), (.str [115])]), (.tup [(.tup [(.str [115, 104, 101]), (.str [104, 101]), (.int 0)]), (.str [100])])]), (.list [(.str [102]), (.str [109]), (.str [115]), (.str [100])]), (.list [(.tup [(.tup [(.str [104, 101]), (.str [102, 114, 101, 101]), (.int 0)]), (.str [102])]), (.tup [(.tup [(.str [115, 104, 101]), (.str [102, 114, 101, 101]), (.int 0)]), (.str [109])]), (.tup [(.tup [(.str [104, 101]), (.str [115, 104, 101]), (.int 0)]), (.str [115])]), (.tup [(.tup [(.str [115, 104, 101]), (.str [115, 104, 101]), (.int 0)]), (.str [100])])]), (.list [(.str [102]), (.str [109]), (.str [115]), (.str [100])]), (.list [(.tup [(.tup [(.str [115, 104, 101]), (.str [102, 114, 101, 101]), (.int 0)]), (.str [109])]), (.tup [(.tup [(.str [104, 101]), (.str [104, 101]), (.int 0)]), (.str [115])]), (.tup [(.tup [(.str [115, 104, 101]), (.str [104, 101]), (.int 0)]), (.str [100])])]), (.list [(.str [109]), (.str [115]), (.str [100])]), (.list [(.tup [(.tup [(.str [115, 104, 101]), (.str [102, 114, 101, 101]), (.int 0)]), (.str [109])]), (.tup [(.tup [(.str [104, 101]), (.str [115, 104, 101]), (.int 0)]), (.str [115])]), (.tup [(.tup [(.str [115, 104, 101]), (.str [115, 104, 101]), (.int 0)]), (.str [100])])]), (.list [(.str [109]), (.str [115]), (.str [100])]), (.list [(.tup [(.tup [(.str [104, 101]), (.str [102, 114, 101, 101]), (.int 0)]), (.str [102])]), (.tup [(.tup [(.str [104, 101]), (.str [104, 101]), (.int 0)]), (.str [115])]), (.tup [(.tup [(.str [115, 104, 101]), (.str [104, 101]), (.int 0)]), (.str [100])])]), (.list [(.str [102]), (.str [115]), (.str [100])]), (.list [(.tup [(.tup [(.str [104, 101]), (.str [102, 114, 101, 101]), (.int 0)]), (.str [102])]), (.tup [(.tup [(.str [104, 101]), (.str [115, 104, 101]), (.int 0)]), (.str [115])]), (.tup [(.tup [(.str [115, 104, 101]), (.str [115, 104, 101]), (.int 0)]), (.str [100])])]), (.list [(.str [102]), (.str [115]), (.str [100])]), (.list [(.tup [(.str [104, 101]), (.str [102, 114, 101, 101]), (.int 0)]), (.tup [(.str [104, 101]), (.str [104, 101]), (.int 0)]), (.tup [(.str [104, 101]), (.str [115, 104, 101]), (.int 0)]), (.tup [(.str [115, 104, 101]), (.str [102, 114, 101, 101]), (.int 0)]), (.tup [(.str [115, 104, 101]), (.str [104, 101]), (.int 0)]), (.tup [(.str [115, 104, 101]), (.str [115, 104, 101]), (.int 0)])]), (.list [(.tup [(.str [104, 101]), (.str [98, 111, 116, 104]), (.int 0), (.int 0)]), (.tup [(.str [104, 101]), (.str [102, 114, 101, 101]), (.int 0), (.int 0)]), (.tup [(.str [104, 101]), (.str [104, 101]), (.int 0), (.int 0)]), (.tup [(.str [104, 101]), (.str [115, 104, 101]), (.int 0), (.int 0)]), (.tup [(.str [115, 104, 101]), (.str [98, 111, 116, 104]), (.int 0), (.int 0)]), (.tup [(.str [115, 104, 101]), (.str [102, 114, 101, 101]), (.int 0), (.int 0)]), (.tup [(.str [115, 104, 101]), (.str [104, 101]), (.int 0), (.int 0)]), (.tup [(.str [115, 104, 101]), (.str [115, 104, 101]), (.int 0), (.int 0)])])]
def isRtT : OutS → Bool
  | .rt (.bl true) _ => true
  | _ => false
theorem isRtT_ok {x : OutS} (h : isRtT x = true) : ∃ g, x = .rt (.bl true) g := by
  unfold isRtT at h
  split at h
  · exact ⟨_, rfl⟩
  · cases h
abbrev wds3 : List Val := [.str [107, 105, 110], .str [], .str [102, 97, 114]]
theorem partA (o0 : Obj) : exSs G (callAt G 19) (takeSs 7 b_law_k11) [some (.ref 0), none, none, none, none, none, none, none, none, none, none] [o0] = .nx SA (o0 :: Tw 0 0 :: TA) := by kernel_rfl
theorem partC (o0 o1 : Obj) : wds3.all (fun w => isRtT (exSs G (callAt G 19) (dropSs 8 b_law_k11) (SA.set 6 (some w)) (o0 :: o1 :: (TA ++ [.list wds3])))) = true := by kernel_rfl
theorem says : LawSays G 20 i_law_k11 63 := by
  intro ns _
  obtain ⟨a', b', v, hv, e⟩ := pick_e 17 ns 0 0 wds3 rfl (by decide) (by decide)
  obtain ⟨g, eg⟩ := isRtT_ok (List.all_eq_true.mp (partC (Sx ns) (Tw a' b')) v hv)
  refine ⟨g, callAt_rt g_law_k11 rfl ?_⟩
  show exSs G (callAt G 19) b_law_k11 [some (.ref 0), none, none, none, none, none, none, none, none, none, none] [Sx ns] = _
  rw [split_Ss 7 (partA (Sx ns))]
  have d : dropSs 7 b_law_k11 = .cons (.asg (.name 6) (.call i_law_pick (.cons (.var 0) (.cons (.var 1) (.cons (.lst (.cons (.lit (.str [107, 105, 110])) (.cons (.lit (.str [])) (.cons (.lit (.str [102, 97, 114])) .nil)))) .nil))))) (dropSs 8 b_law_k11) := rfl
  rw [d]
  have el : evE G (callAt G 19) (.lst (.cons (.lit (.str [107, 105, 110])) (.cons (.lit (.str [])) (.cons (.lit (.str [102, 97, 114])) .nil)))) SA (Sx ns :: Tw 0 0 :: TA) = .ok (.ref (TA.length + 2)) (Sx ns :: Tw 0 0 :: (TA ++ [.list wds3])) :=
    v_lstN (vs := wds3) rfl rfl rfl
  have s0 : SA[0]? = some (some (.ref 0)) := rfl
  have s1 : SA[1]? = some (some (.ref 1)) := rfl
  refine x_asg (v := v) (h1 := Sx ns :: Tw a' b' :: (TA ++ [.list wds3])) (v_call (vs := [.ref 0, .ref 1, .ref (TA.length + 2)]) (h1 := Sx ns :: Tw 0 0 :: (TA ++ [.list wds3])) (vs_cons (by rw [evE.eq_1, s0]) (vs_cons (by rw [evE.eq_1, s1]) (vs_1 el))) (e (TA ++ [.list wds3]) TA.length (get_last _ _))) eg


end KP
namespace KP
open PySem L2 Kn
abbrev P : PySem.Program := PySem.Challenge.pw_kincalls_k11_sure_refused
def top (i : Nat) : Stmt := P.main.body.getD i (.Pass ⟨0, 0, 0, 0⟩)
def inCls (i j : Nat) : Stmt := match top i with
  | .ClassDef _ _ _ b _ _ _ _ _ _ _ => b.getD j (.Pass ⟨0, 0, 0, 0⟩)
  | _ => .Pass ⟨0, 0, 0, 0⟩
def nm : Nm := ⟨((["_law_ask", "_law_draw", "_law_first", "_law_go", "_law_pick", "_law_speech", "_law_which", "_law_word", "all_pairs", "all_places", "are_unlike", "choices", "first_of", "firsts", "gone", "is_alike", "is_letters", "is_paper", "is_place", "is_sex", "is_speech", "is_whole", "is_word", "law", "led", "may_go", "need_speech", "next_pairs", "next_places", "paper"] : List PySem.Str) ++ (["sex_behind", "shown", "steps_from", "unsure", "way_behind", "where_unsure", "word_at"] : List PySem.Str)), ["LETTERS", "STEPS", "STANDS", "WAYS"], ["KinError", "NoFamily", "NotPlain", "NoName", "NoSex", "NoRow", "NoSpeech", "NotSure", "NoWord", "TooMany", "NoParent", "Taken", "Full", "NoDeed", "NoText", "ValueError"], ["Kin"], ["fathers", "mothers", "sexes"], ["__init__", "child", "more", "name", "told", "walk"], i_law_which, 1000⟩
def d_0 : Df := ⟨⟨("_law_ask", none), "_law_ask", "_law_ask", defArgs (top 61), defBody (top 61), defScope (top 61), [], []⟩, ["what", "one", "other", "e"], ["what", "one", "other"]⟩
theorem b_0 : BindO d_0 := .inl ⟨rfl, fun _ _ _ _ _ _ us hl => match us, hl with | [_, _, _], _ => by kernel_rfl⟩
def d_1 : Df := ⟨⟨("_law_draw", none), "_law_draw", "_law_draw", defArgs (top 54), defBody (top 54), defScope (top 54), [], []⟩, ["script", "town", "many", "at", "mixed", "one"], ["script", "town", "many"]⟩
theorem b_1 : BindO d_1 := .inl ⟨rfl, fun _ _ _ _ _ _ us hl => match us, hl with | [_, _, _], _ => by kernel_rfl⟩
def d_2 : Df := ⟨⟨("_law_first", none), "_law_first", "_law_first", defArgs (top 57), defBody (top 57), defScope (top 57), [], []⟩, ["speech", "sex"], ["speech", "sex"]⟩
theorem b_2 : BindO d_2 := .inl ⟨rfl, fun _ _ _ _ _ _ us hl => match us, hl with | [_, _], _ => by kernel_rfl⟩
def d_3 : Df := ⟨⟨("_law_go", none), "_law_go", "_law_go", defArgs (top 56), defBody (top 56), defScope (top 56), [], []⟩, ["speech", "stand", "row", "step"], ["speech", "stand", "row"]⟩
theorem b_3 : BindO d_3 := .inl ⟨rfl, fun _ _ _ _ _ _ us hl => match us, hl with | [_, _, _], _ => by kernel_rfl⟩
def d_4 : Df := ⟨⟨("_law_pick", none), "_law_pick", "_law_pick", defArgs (top 55), defBody (top 55), defScope (top 55), [], []⟩, ["script", "town", "some"], ["script", "town", "some"]⟩
theorem b_4 : BindO d_4 := .inl ⟨rfl, fun _ _ _ _ _ _ us hl => match us, hl with | [_, _, _], _ => by kernel_rfl⟩
def d_5 : Df := ⟨⟨("_law_speech", none), "_law_speech", "_law_speech", defArgs (top 59), defBody (top 59), defScope (top 59), [], []⟩, ["script", "town", "many", "stands", "k", "word", "step"], ["script", "town", "many"]⟩
theorem b_5 : BindO d_5 := .inl ⟨rfl, fun _ _ _ _ _ _ us hl => match us, hl with | [_, _, _], _ => by kernel_rfl⟩
def d_6 : Df := ⟨⟨("_law_which", none), "_law_which", "_law_which", defArgs (top 60), defBody (top 60), defScope (top 60), [], []⟩, ["e", "own"], ["e"]⟩
theorem b_6 : BindO d_6 := .inl ⟨rfl, fun _ _ _ _ _ _ us hl => match us, hl with | [_], _ => by kernel_rfl⟩
def d_7 : Df := ⟨⟨("_law_word", none), "_law_word", "_law_word", defArgs (top 58), defBody (top 58), defScope (top 58), [], []⟩, ["speech", "sex", "row"], ["speech", "sex", "row"]⟩
theorem b_7 : BindO d_7 := .inl ⟨rfl, fun _ _ _ _ _ _ us hl => match us, hl with | [_, _, _], _ => by kernel_rfl⟩
def d_8 : Df := ⟨⟨("all_pairs", none), "all_pairs", "all_pairs", defArgs (top 44), defBody (top 44), defScope (top 44), [], []⟩, ["speech", "place", "many", "book", "made", "work", "pair", "choice", "told", "other", "step"], ["speech"]⟩
theorem b_8 : BindO d_8 := .inl ⟨rfl, fun _ _ _ _ _ _ us hl => match us, hl with | [_], _ => by kernel_rfl⟩
def d_9 : Df := ⟨⟨("all_places", none), "all_places", "all_places", defArgs (top 43), defBody (top 43), defScope (top 43), [], []⟩, ["speech", "place", "at", "made", "work", "other", "step"], ["speech"]⟩
theorem b_9 : BindO d_9 := .inl ⟨rfl, fun _ _ _ _ _ _ us hl => match us, hl with | [_], _ => by kernel_rfl⟩
def d_10 : Df := ⟨⟨("are_unlike", none), "are_unlike", "are_unlike", defArgs (top 51), defBody (top 51), defScope (top 51), [], []⟩, ["speech", "thing", "many", "one"], ["speech", "thing", "many"]⟩
theorem b_10 : BindO d_10 := .inl ⟨rfl, fun _ _ _ _ _ _ us hl => match us, hl with | [_, _, _], _ => by kernel_rfl⟩
def d_11 : Df := ⟨⟨("choices", none), "choices", "choices", defArgs (top 41), defBody (top 41), defScope (top 41), [], []⟩, ["speech", "place", "some", "made", "sex", "way", "stand", "there", "how", "one", "other"], ["speech", "place"]⟩
theorem b_11 : BindO d_11 := .inl ⟨rfl, fun _ _ _ _ _ _ us hl => match us, hl with | [_, _], _ => by kernel_rfl⟩
def d_12 : Df := ⟨⟨("first_of", none), "first_of", "first_of", defArgs (top 33), defBody (top 33), defScope (top 33), [], []⟩, ["speech", "sex"], ["speech", "sex"]⟩
theorem b_12 : BindO d_12 := .inl ⟨rfl, fun _ _ _ _ _ _ us hl => match us, hl with | [_, _], _ => by kernel_rfl⟩
def d_13 : Df := ⟨⟨("firsts", none), "firsts", "firsts", defArgs (top 42), defBody (top 42), defScope (top 42), [], []⟩, ["speech", "sex"], ["speech"]⟩
theorem b_13 : BindO d_13 := .inl ⟨rfl, fun _ _ _ _ _ _ us hl => match us, hl with | [_], _ => by kernel_rfl⟩
def d_14 : Df := ⟨⟨("gone", none), "gone", "gone", defArgs (top 34), defBody (top 34), defScope (top 34), [], []⟩, ["speech", "stand", "step"], ["speech", "stand", "step"]⟩
theorem b_14 : BindO d_14 := .inl ⟨rfl, fun _ _ _ _ _ _ us hl => match us, hl with | [_, _, _], _ => by kernel_rfl⟩
def d_15 : Df := ⟨⟨("is_alike", none), "is_alike", "is_alike", defArgs (top 45), defBody (top 45), defScope (top 45), [], []⟩, ["speech", "pair"], ["speech", "pair"]⟩
theorem b_15 : BindO d_15 := .inl ⟨rfl, fun _ _ _ _ _ _ us hl => match us, hl with | [_, _], _ => by kernel_rfl⟩
def d_16 : Df := ⟨⟨("is_letters", none), "is_letters", "is_letters", defArgs (top 18), defBody (top 18), defScope (top 18), [], []⟩, ["thing", "least", "most", "sign"], ["thing", "least", "most"]⟩
theorem b_16 : BindO d_16 := .inl ⟨rfl, fun _ _ _ _ _ _ us hl => match us, hl with | [_, _, _], _ => by kernel_rfl⟩
def d_17 : Df := ⟨⟨("is_paper", none), "is_paper", "is_paper", defArgs (top 52), defBody (top 52), defScope (top 52), [], []⟩, ["speech", "thing", "place", "pair", "places", "pairs", "one", "step", "choice"], ["speech", "thing"]⟩
theorem b_17 : BindO d_17 := .inl ⟨rfl, fun _ _ _ _ _ _ us hl => match us, hl with | [_, _], _ => by kernel_rfl⟩
def d_18 : Df := ⟨⟨("is_place", none), "is_place", "is_place", defArgs (top 50), defBody (top 50), defScope (top 50), [], []⟩, ["speech", "thing", "many", "one"], ["speech", "thing", "many"]⟩
theorem b_18 : BindO d_18 := .inl ⟨rfl, fun _ _ _ _ _ _ us hl => match us, hl with | [_, _, _], _ => by kernel_rfl⟩
def d_19 : Df := ⟨⟨("is_sex", none), "is_sex", "is_sex", defArgs (top 19), defBody (top 19), defScope (top 19), [], []⟩, ["thing"], ["thing"]⟩
theorem b_19 : BindO d_19 := .inl ⟨rfl, fun _ _ _ _ _ _ us hl => match us, hl with | [_], _ => by kernel_rfl⟩
def d_20 : Df := ⟨⟨("is_speech", none), "is_speech", "is_speech", defArgs (top 31), defBody (top 31), defScope (top 31), [], []⟩, ["thing", "last", "stand", "one"], ["thing"]⟩
theorem b_20 : BindO d_20 := .inl ⟨rfl, fun _ _ _ _ _ _ us hl => match us, hl with | [_], _ => by kernel_rfl⟩
def d_21 : Df := ⟨⟨("is_whole", none), "is_whole", "is_whole", defArgs (top 29), defBody (top 29), defScope (top 29), [], []⟩, ["thing", "least", "most"], ["thing", "least", "most"]⟩
theorem b_21 : BindO d_21 := .inl ⟨rfl, fun _ _ _ _ _ _ us hl => match us, hl with | [_, _, _], _ => by kernel_rfl⟩
def d_22 : Df := ⟨⟨("is_word", none), "is_word", "is_word", defArgs (top 30), defBody (top 30), defScope (top 30), [], []⟩, ["thing"], ["thing"]⟩
theorem b_22 : BindO d_22 := .inl ⟨rfl, fun _ _ _ _ _ _ us hl => match us, hl with | [_], _ => by kernel_rfl⟩
def d_23 : Df := ⟨⟨("law", none), "law", "law", defArgs (top 62), defBody (top 62), defScope (top 62), [], []⟩, ["script", "town", "good", "kinds", "bad", "lone", "word", "stands", "apart", "told", "what"], ["script"]⟩
theorem b_23 : BindO d_23 := .inl ⟨rfl, fun _ _ _ _ _ _ us hl => match us, hl with | [_], _ => by kernel_rfl⟩
def d_24 : Df := ⟨⟨("led", none), "led", "led", defArgs (top 35), defBody (top 35), defScope (top 35), [], []⟩, ["speech", "stand", "row", "step"], ["speech", "stand", "row"]⟩
theorem b_24 : BindO d_24 := .inl ⟨rfl, fun _ _ _ _ _ _ us hl => match us, hl with | [_, _, _], _ => by kernel_rfl⟩
def d_25 : Df := ⟨⟨("may_go", none), "may_go", "may_go", defArgs (top 24), defBody (top 24), defScope (top 24), [], []⟩, ["way", "step"], ["way", "step"]⟩
theorem b_25 : BindO d_25 := .inl ⟨rfl, fun _ _ _ _ _ _ us hl => match us, hl with | [_, _], _ => by kernel_rfl⟩
def d_26 : Df := ⟨⟨("need_speech", none), "need_speech", "need_speech", defArgs (top 32), defBody (top 32), defScope (top 32), [], []⟩, ["thing"], ["thing"]⟩
theorem b_26 : BindO d_26 := .inl ⟨rfl, fun _ _ _ _ _ _ us hl => match us, hl with | [_], _ => by kernel_rfl⟩
def d_27 : Df := ⟨⟨("next_pairs", none), "next_pairs", "next_pairs", defArgs (top 40), defBody (top 40), defScope (top 40), [], []⟩, ["speech", "pair", "made", "step", "sex", "way", "one", "other", "both"], ["speech", "pair"]⟩
theorem b_27 : BindO d_27 := .inl ⟨rfl, fun _ _ _ _ _ _ us hl => match us, hl with | [_, _], _ => by kernel_rfl⟩
def d_28 : Df := ⟨⟨("next_places", none), "next_places", "next_places", defArgs (top 39), defBody (top 39), defScope (top 39), [], []⟩, ["speech", "place", "made", "step", "sex", "way", "stand"], ["speech", "place"]⟩
theorem b_28 : BindO d_28 := .inl ⟨rfl, fun _ _ _ _ _ _ us hl => match us, hl with | [_, _], _ => by kernel_rfl⟩
def d_29 : Df := ⟨⟨("paper", none), "paper", "paper", defArgs (top 49), defBody (top 49), defScope (top 49), [], []⟩, ["speech", "book", "pair"], ["speech"]⟩
theorem b_29 : BindO d_29 := .inl ⟨rfl, fun _ _ _ _ _ _ us hl => match us, hl with | [_], _ => by kernel_rfl⟩
def d_30 : Df := ⟨⟨("sex_behind", none), "sex_behind", "sex_behind", defArgs (top 22), defBody (top 22), defScope (top 22), [], []⟩, ["step"], ["step"]⟩
theorem b_30 : BindO d_30 := .inl ⟨rfl, fun _ _ _ _ _ _ us hl => match us, hl with | [_], _ => by kernel_rfl⟩
def d_31 : Df := ⟨⟨("shown", none), "shown", "shown", defArgs (top 46), defBody (top 46), defScope (top 46), [], []⟩, ["told", "kin", "here", "last", "sex", "row", "choice", "rest", "child", "father", "mother", "end", "son", "daughter"], ["told"]⟩
theorem b_31 : BindO d_31 := .inl ⟨rfl, fun _ _ _ _ _ _ us hl => match us, hl with | [_], _ => by kernel_rfl⟩
def d_32 : Df := ⟨⟨("steps_from", none), "steps_from", "steps_from", defArgs (top 25), defBody (top 25), defScope (top 25), [], []⟩, ["way", "step"], ["way"]⟩
theorem b_32 : BindO d_32 := .inl ⟨rfl, fun _ _ _ _ _ _ us hl => match us, hl with | [_], _ => by kernel_rfl⟩
def d_33 : Df := ⟨⟨("unsure", none), "unsure", "unsure", defArgs (top 48), defBody (top 48), defScope (top 48), [], []⟩, ["speech"], ["speech"]⟩
theorem b_33 : BindO d_33 := .inl ⟨rfl, fun _ _ _ _ _ _ us hl => match us, hl with | [_], _ => by kernel_rfl⟩
def d_34 : Df := ⟨⟨("way_behind", none), "way_behind", "way_behind", defArgs (top 23), defBody (top 23), defScope (top 23), [], []⟩, ["sex", "step"], ["sex", "step"]⟩
theorem b_34 : BindO d_34 := .inl ⟨rfl, fun _ _ _ _ _ _ us hl => match us, hl with | [_, _], _ => by kernel_rfl⟩
def d_35 : Df := ⟨⟨("where_unsure", none), "where_unsure", "where_unsure", defArgs (top 47), defBody (top 47), defScope (top 47), [], []⟩, ["speech", "pair", "book", "best", "here"], ["speech"]⟩
theorem b_35 : BindO d_35 := .inl ⟨rfl, fun _ _ _ _ _ _ us hl => match us, hl with | [_], _ => by kernel_rfl⟩
def d_36 : Df := ⟨⟨("word_at", none), "word_at", "word_at", defArgs (top 36), defBody (top 36), defScope (top 36), [], []⟩, ["speech", "stand"], ["speech", "stand"]⟩
theorem b_36 : BindO d_36 := .inl ⟨rfl, fun _ _ _ _ _ _ us hl => match us, hl with | [_, _], _ => by kernel_rfl⟩
def d_37 : Df := ⟨⟨("Kin", some "__init__"), "__init__", "Kin.__init__", defArgs (inCls 26 0), defBody (inCls 26 0), defScope (inCls 26 0), [], []⟩, ["self", "sex"], ["self", "sex"]⟩
theorem b_37 : BindO d_37 := .inl ⟨rfl, fun _ _ _ _ _ _ us hl => match us, hl with | [_, _], _ => by kernel_rfl⟩
def d_38 : Df := ⟨⟨("Kin", some "child"), "child", "Kin.child", defArgs (inCls 26 2), defBody (inCls 26 2), defScope (inCls 26 2), [], []⟩, ["self", "one", "parent"], ["self", "one", "parent"]⟩
theorem b_38 : BindO d_38 := .inl ⟨rfl, fun _ _ _ _ _ _ us hl => match us, hl with | [_, _, _], _ => by kernel_rfl⟩
def d_39 : Df := ⟨⟨("Kin", some "more"), "more", "Kin.more", defArgs (inCls 26 1), defBody (inCls 26 1), defScope (inCls 26 1), [], []⟩, ["self", "sex"], ["self", "sex"]⟩
theorem b_39 : BindO d_39 := .inl ⟨rfl, fun _ _ _ _ _ _ us hl => match us, hl with | [_, _], _ => by kernel_rfl⟩
def d_40 : Df := ⟨⟨("Kin", some "name"), "name", "Kin.name", defArgs (inCls 26 4), defBody (inCls 26 4), defScope (inCls 26 4), [], []⟩, ["self", "one", "first", "second"], ["self", "one"]⟩
theorem b_40 : BindO d_40 := .inl ⟨rfl, fun _ _ _ _ _ _ us hl => match us, hl with | [_, _], _ => by kernel_rfl⟩
def d_41 : Df := ⟨⟨("Kin", some "told"), "told", "Kin.told", defArgs (inCls 26 5), defBody (inCls 26 5), defScope (inCls 26 5), [], []⟩, ["self", "made", "done", "one", "elders", "parents", "book", "elder"], ["self"]⟩
theorem b_41 : BindO d_41 := .inl ⟨rfl, fun _ _ _ _ _ _ us hl => match us, hl with | [_], _ => by kernel_rfl⟩
def d_42 : Df := ⟨⟨("Kin", some "walk"), "walk", "Kin.walk", defArgs (inCls 26 3), defBody (inCls 26 3), defScope (inCls 26 3), [], []⟩, ["self", "here", "row", "step", "other"], ["self", "here", "row"]⟩
theorem b_42 : BindO d_42 := .inl ⟨rfl, fun _ _ _ _ _ _ us hl => match us, hl with | [_, _, _], _ => by kernel_rfl⟩
def defs : List Df := [d_0, d_1, d_2, d_3, d_4, d_5, d_6, d_7, d_8, d_9, d_10, d_11, d_12, d_13, d_14, d_15, d_16, d_17, d_18, d_19, d_20, d_21, d_22, d_23, d_24, d_25, d_26, d_27, d_28, d_29, d_30, d_31, d_32, d_33, d_34, d_35, d_36, d_37, d_38, d_39, d_40, d_41, d_42]
theorem bs : ∀ D ∈ defs, BindO D := (List.forall_mem_cons.mpr ⟨b_0, (List.forall_mem_cons.mpr ⟨b_1, (List.forall_mem_cons.mpr ⟨b_2, (List.forall_mem_cons.mpr ⟨b_3, (List.forall_mem_cons.mpr ⟨b_4, (List.forall_mem_cons.mpr ⟨b_5, (List.forall_mem_cons.mpr ⟨b_6, (List.forall_mem_cons.mpr ⟨b_7, (List.forall_mem_cons.mpr ⟨b_8, (List.forall_mem_cons.mpr ⟨b_9, (List.forall_mem_cons.mpr ⟨b_10, (List.forall_mem_cons.mpr ⟨b_11, (List.forall_mem_cons.mpr ⟨b_12, (List.forall_mem_cons.mpr ⟨b_13, (List.forall_mem_cons.mpr ⟨b_14, (List.forall_mem_cons.mpr ⟨b_15, (List.forall_mem_cons.mpr ⟨b_16, (List.forall_mem_cons.mpr ⟨b_17, (List.forall_mem_cons.mpr ⟨b_18, (List.forall_mem_cons.mpr ⟨b_19, (List.forall_mem_cons.mpr ⟨b_20, (List.forall_mem_cons.mpr ⟨b_21, (List.forall_mem_cons.mpr ⟨b_22, (List.forall_mem_cons.mpr ⟨b_23, (List.forall_mem_cons.mpr ⟨b_24, (List.forall_mem_cons.mpr ⟨b_25, (List.forall_mem_cons.mpr ⟨b_26, (List.forall_mem_cons.mpr ⟨b_27, (List.forall_mem_cons.mpr ⟨b_28, (List.forall_mem_cons.mpr ⟨b_29, (List.forall_mem_cons.mpr ⟨b_30, (List.forall_mem_cons.mpr ⟨b_31, (List.forall_mem_cons.mpr ⟨b_32, (List.forall_mem_cons.mpr ⟨b_33, (List.forall_mem_cons.mpr ⟨b_34, (List.forall_mem_cons.mpr ⟨b_35, (List.forall_mem_cons.mpr ⟨b_36, (List.forall_mem_cons.mpr ⟨b_37, (List.forall_mem_cons.mpr ⟨b_38, (List.forall_mem_cons.mpr ⟨b_39, (List.forall_mem_cons.mpr ⟨b_40, (List.forall_mem_cons.mpr ⟨b_41, (List.forall_mem_cons.mpr ⟨b_42, (fun _ h => absurd h List.not_mem_nil)⟩)⟩)⟩)⟩)⟩)⟩)⟩)⟩)⟩)⟩)⟩)⟩)⟩)⟩)⟩)⟩)⟩)⟩)⟩)⟩)⟩)⟩)⟩)⟩)⟩)⟩)⟩)⟩)⟩)⟩)⟩)⟩)⟩)⟩)⟩)⟩)⟩)⟩)⟩)⟩)⟩)⟩)⟩)
def nms0 : List PySem.Str := ["KinError", "NoFamily", "NotPlain", "NoName", "NoSex", "NoRow", "NoSpeech", "NotSure", "NoWord", "TooMany", "NoParent", "Taken", "Full", "NoDeed", "NoText", "LETTERS", "is_letters", "is_sex", "STEPS", "sex_behind", "way_behind", "may_go", "steps_from", "Kin", "STANDS", "is_whole", "is_word", "is_speech", "need_speech", "first_of"]
def nms1 : List PySem.Str := ["gone", "led", "word_at", "WAYS", "next_places", "next_pairs", "choices", "firsts", "all_places", "all_pairs", "is_alike", "shown", "where_unsure", "unsure", "paper", "is_place", "are_unlike", "is_paper", "_law_draw", "_law_pick", "_law_go", "_law_first", "_law_word", "_law_speech", "_law_which", "_law_ask"]
def nms : List PySem.Str := nms0 ++ nms1
abbrev R : PySem.W.OpenRow := PySem.W.OpenLaw.row PySem.Challenge.rw_kincalls_k11_sure_refused
theorem fldOk : fldB nm.fld = true := by kernel_rfl
theorem namOk : namB G nm defs = true := by kernel_rfl
abbrev hk : PySem.W.Hook := He.hookX 6 (faOf G nm) (defs.map (·.d)) [] [] (exB G nm)
def ob (s : PySem.W.SharedT) : He.AlX := He.obsX 6 (faOf G nm) (defs.map (·.d)) [] [] (exB G nm) (HandSHeadRun.getT s)
theorem ob_eq (s : PySem.W.SharedT) : ob s = hk.obs s.abs := He.obsX_eq (HandSHeadRun.getT_eq s)
abbrev qv : PySem.Program := PySem.W.view R.prog [62]
theorem run (w : World) : HandSHeadRun.RunEq R qv hk ob 9000 nms w := by
  intro os
  kernel_rfl
end KP
open PySem PySem.W PySem.Calls PyProof.Rows
theorem PySem.Challenge.cw_kincalls_k11_sure_refused_holds : PySem.Challenge.rw_kincalls_k11_sure_refused.Holds := by
  w_on; o_law
  refine HandSHeadRun.head_any (r := OpenLaw.row PySem.Challenge.rw_kincalls_k11_sure_refused) (q := KP.qv) (H := KP.hk) (ob := KP.ob) (M := 9000) (loose := KP.nms) (d := HandSHeadRun.topDef (OpenLaw.row PySem.Challenge.rw_kincalls_k11_sure_refused).prog 62) (kwd := []) KP.ob_eq
    (by kernel_rfl) (fun s => by kernel_rfl) KP.run (by kernel_rfl) (by kernel_rfl) (by kernel_rfl) (by rfl) (by first | assumption | decide +kernel) (by decide +kernel) ⟨rfl, rfl, rfl, rfl, rfl, by decide +kernel⟩ ?hw ?hc
  case hw => w_witness2
  case hc =>
    exact Kn.law_end (G := KP.G) (nm := KP.nm) (defs := KP.defs) (l := PySem.Challenge.rw_kincalls_k11_sure_refused) (k := 20) (lawId := KP.i_law_k11) (x := "script") 6 KP.fldOk KP.namOk rfl (by kernel_rfl) ⟨rfl, by decide, by decide⟩ rfl rfl rfl rfl (by kernel_rfl) KP.bs KP.says
