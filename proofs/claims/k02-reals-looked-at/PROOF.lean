import PyProof.Rows.All
import Wide.All
import OpenK.AllK
import Wide.FinOn
import HandS.ForMost
import HandS.ForExc
import HandS.Defaults
import HandS.WideBits
import HandS.Wide
import HandS.Zip
import HandS.TupAny
import HandS.Small
import HandS.IsInst
import HandS.Style
import HandS.More
import HandS.TupLe
import HandS.Text
import KE.IntTextLaws
import KE.KDictOf
import PyProof.ReprRoads
import PyProof.ReprText
import PyProof.CallFns
import HandS.Flow
import HandS.Codes
import HandS.Exc
import HandS.Comp
import HandS.ExcOwn
import HandS.Iter
import HandS.TryOnly
import HandS.TryMany
import HandS.Lambda
import HandS.Head0
import HandS.Head1
import HandS.Head2
import HandS.HeadEnd
import HandS.HeadHook4
import KE.KStateDown
import Lean
import PySem.Challenge.RW_viewlease_k02_reals_looked_at
set_option Elab.async false
set_option linter.all false
namespace Vl
/-! A small machine of our own for the Python that the laws use: values, heap, expressions, statements. -/

inductive BT where
  | int | bool | str | tuple | list | dict
  deriving DecidableEq, Repr

inductive W where
  | non | bl (b : Bool) | int (i : Int) | str (s : List Nat) | tup (xs : List W) | ref (r : Nat)
  | ty (t : BT) | cls (c : Nat) (subs : List Nat) | kd (d : Nat) | frz (xs : List W)
  deriving Repr

inductive O where
  | lst (xs : List W) | dic (kvs : List (List Nat × W)) | ins (c : Nat) (fs : List (List Nat × W)) | exn (c : Nat) (fs : List (List Nat × W))
  deriving Repr

abbrev L := List O

mutual
def W.beq : W → W → Bool
  | .non, .non => true
  | .bl a, .bl b => a == b
  | .int a, .int b => a == b
  | .str a, .str b => a == b
  | .tup a, .tup b => W.beqs a b
  | .ref a, .ref b => a == b
  | .ty a, .ty b => decide (a = b)
  | .cls a s, .cls b s' => a == b && s == s'
  | .kd a, .kd b => a == b
  | .frz a, .frz b => W.beqs a b
  | _, _ => false
def W.beqs : List W → List W → Bool
  | [], [] => true
  | x :: xs, y :: ys => W.beq x y && W.beqs xs ys
  | _, _ => false
end

inductive R (α : Type) where
  | ok (a : α) (h : L) | exc (c : Nat) (fs : List (List Nat × W)) (h : L) | stuck
def R.bind {α β : Type} : R α → (α → L → R β) → R β
  | .ok a h, f => f a h
  | .exc c fs h, _ => .exc c fs h
  | .stuck, _ => .stuck
@[simp] theorem R.bind_ok {α β : Type} (a : α) (h : L) (f : α → L → R β) : (R.ok a h).bind f = f a h := (rfl)
@[simp] theorem R.bind_exc {α β : Type} (c fs h) (f : α → L → R β) : (R.exc c fs h : R α).bind f = .exc c fs h := (rfl)
@[simp] theorem R.bind_stuck {α β : Type} (f : α → L → R β) : (R.stuck : R α).bind f = .stuck := (rfl)

/-- nothing may be raised here -/
def R.calm {α : Type} : R α → R α
  | .ok a h => .ok a h
  | _ => .stuck
@[simp] theorem R.calm_ok {α : Type} (a : α) (h : L) : (R.ok a h).calm = .ok a h := (rfl)

inductive BOp where
  | add | sub | mul | fdiv | mod | pow | shl | shr | band
  deriving DecidableEq, Repr
inductive COp where
  | eq | ne | lt | le | gt | ge | is | isnot | inn | notin
  deriving DecidableEq, Repr
/-- built-in functions and types that are called -/
inductive BF where
  | len | isinst | toint | tostr | abs | min | max | tolist | totup | todict | tobool | repr | all | any | sum
  deriving DecidableEq, Repr
/-- methods of built-in types -/
inductive MT where
  | append | extend | pop | bits | get
  deriving DecidableEq, Repr

mutual
inductive E where
  | cst (w : W) | var (i : Nat)
  | bin (o : BOp) (a b : E) | neg (a : E) | not (a : E) | and (a b : E) | or (a b : E)
  | cmp (o : COp) (a b : E) | cmp2 (o o' : COp) (a b c : E)
  | ite (c a b : E) | tup (es : Es) | lst (es : Es) | dic (ks : List (List Nat)) (es : Es)
  | sub (a i : E) | slc (a lo hi : E) | rev (a : E)
  | call (g : Nat) (es : Es) | bf (f : BF) (es : Es) | mt (m : MT) (o : E) (es : Es)
  | lc (c : Cp) | bfc (f : BF) (c : Cp) | idx (a : E)
  deriving Repr
inductive Es where
  | nil | cons (e : E) (es : Es)
  deriving Repr
/-- what a for walks -/
inductive It where
  | of (e : E) | rng1 (es : Es) | rng2 (es : Es) | zip (es : Es) | enum (e : E)
  deriving Repr
/-- targets -/
inductive T where
  | nm (i : Nat) | tp (ts : Ts) | sb (a i : E)
  deriving Repr
inductive Ts where
  | nil | cons (t : T) (ts : Ts)
  deriving Repr
/-- a comprehension: the slots of its own, target, source, tests, element -/
inductive Cp where
  | mk (own : List Nat) (tg : T) (it : It) (cs : Es) (elt : E)
  deriving Repr
end
mutual
inductive S where
  | asg (t : T) (e : E) | aug (i : Nat) (o : BOp) (e : E) | ife (c : E) (a b : Ss) | whl (c : E) (b : Ss)
  | for (t : T) (it : It) (b : Ss) | ret (e : E) | retn | expr (e : E) | pass | brk | cont | raise | try (b : Ss)
  deriving Repr
inductive Ss where
  | nil | cons (s : S) (ss : Ss)
  deriving Repr
end

abbrev Env := List (Option W)
def gets : Env → Nat → Option W
  | [], _ => none
  | x :: _, 0 => x
  | _ :: r, n + 1 => gets r n
def sets : Env → Nat → Option W → Env
  | [], _, _ => []
  | _ :: r, 0, v => v :: r
  | x :: r, n + 1, v => x :: sets r n v
def wipes (σ : Env) : List Nat → Env
  | [] => σ
  | v :: vs => sets (wipes σ vs) v none

/-- the line of sizes -/
def LINE : Nat := 16777216

/-! ### what things are worth -/
def truth : W → L → Option Bool
  | .non, _ => some false
  | .bl b, _ => some b
  | .int i, _ => some (i != 0)
  | .str s, _ => if s.length ≤ LINE then some (!s.isEmpty) else none
  | .tup xs, _ => some (!xs.isEmpty)
  | .ref r, h => match h[r]? with
    | some (.lst xs) => some (!xs.isEmpty)
    | some (.dic kvs) => some (!kvs.isEmpty)
    | _ => none
  | _, _ => none

/-! == of data -/
mutual
/-- data all through, of a depth of at most n, its texts of proper signs -/
def isD (n : Nat) : W → Bool
  | .non => true
  | .bl _ => true
  | .int _ => true
  | .str s => s.all fun c => decide (c < 1114112)
  | .tup xs => decide (n ≠ 0) && isDs (n - 1) xs
  | _ => false
def isDs (n : Nat) : List W → Bool
  | [] => true
  | x :: xs => isD n x && isDs n xs
end
mutual
def eqvB : W → W → Bool
  | .non, .non => true
  | .bl a, .bl b => a == b
  | .bl a, .int j => (if a then 1 else 0) == j
  | .int i, .bl b => i == (if b then 1 else 0)
  | .int i, .int j => i == j
  | .str x, .str y => x == y
  | .tup xs, .tup ys => eqvs xs ys
  | _, _ => false
def eqvs : List W → List W → Bool
  | [], [] => true
  | x :: xs, y :: ys => eqvB x y && eqvs xs ys
  | _, _ => false
end
def eqv (a b : W) : Option Bool := match a, b with
  | .str x, .str y => some (x == y)
  | a, b => if isD 60 a && isD 60 b then some (eqvB a b) else none
/-- == of two values, the heap at hand: lists of flat data too -/
def eqh (h : L) : W → W → Option Bool
  | .ref a, .ref b => match h[a]?, h[b]? with
    | some (.lst xs), some (.lst ys) => if isDs 60 xs && isDs 60 ys then some (eqvs xs ys) else none
    | _, _ => none
  | x, y => eqv x y

def ixN (n : Nat) (i : Int) : Option Nat := if 0 ≤ i then (if i < n then some i.toNat else none) else if -(n : Int) ≤ i then some (i + n).toNat else none
def atI {α : Type} (xs : List α) (i : Int) : Option α := (ixN xs.length i).bind fun j => xs[j]?
/-- the place of an index, in bounds -/
def seqI (i : Int) (n : Nat) : Option Nat := if -(2 ^ 63) ≤ i ∧ i < 2 ^ 63 then ixN n i else none
def sIx (n d : Nat) : W → Option Nat
  | .non => some d
  | .int v => some (if v < 0 then (v + (n : Int)).toNat else min v.toNat n)
  | _ => none
def cut {α : Type} (xs : List α) (lo hi : W) : Option (List α) := match sIx xs.length 0 lo, sIx xs.length xs.length hi with
  | some a, some b => some ((xs.drop a).take (b - a))
  | _, _ => none
def alloc (o : O) (h : L) : R W := .ok (.ref h.length) (h ++ [o])

def lookK (kvs : List (List Nat × W)) (k : List Nat) : Option W := match kvs with
  | [] => none
  | (a, v) :: r => if k = a then some v else lookK r k
def putK (kvs : List (List Nat × W)) (k : List Nat) (v : W) : List (List Nat × W) :=
  if (kvs.any fun p => decide (p.1 = k)) = true then kvs.map fun p => if p.1 = k then (p.1, v) else p else kvs ++ [(k, v)]

/-- the size of an int in bits -/
def ibits (x : Int) : Nat := if x = 0 then 0 else x.natAbs.log2 + 1
def band (x y : Int) : Int :=
  match decide (0 ≤ x), decide (0 ≤ y) with
  | true, true => ((x.toNat &&& y.toNat : Nat) : Int)
  | true, false => x - ((x.toNat &&& (-y - 1).toNat : Nat) : Int)
  | false, true => y - ((y.toNat &&& (-x - 1).toNat : Nat) : Int)
  | false, false => -(((-x - 1).toNat ||| (-y - 1).toNat : Nat) : Int) - 1

/-- the tables of the top, by number: dicts with text keys -/
abbrev Kd := List (List (List Nat × W))

def binop (o : BOp) (x y : W) (h : L) : R W := match o, x, y with
  | .add, .int a, .int b => .ok (.int (a + b)) h
  | .add, .str a, .str b => if a.length + b.length ≤ LINE then .ok (.str (a ++ b)) h else .stuck
  | .add, .tup a, .tup b => if a.length + b.length ≤ LINE then .ok (.tup (a ++ b)) h else .stuck
  | .add, .ref a, .ref b => match h[a]?, h[b]? with
    | some (.lst xs), some (.lst ys) => if xs.length + ys.length ≤ LINE then alloc (.lst (xs ++ ys)) h else .stuck
    | _, _ => .stuck
  | .sub, .int a, .int b => .ok (.int (a - b)) h
  | .mul, .int a, .int b => if ibits a + ibits b ≤ 134217728 then .ok (.int (a * b)) h else .stuck
  | .mul, .str a, .int k => if a.length * k.toNat ≤ 1000000 ∧ -1000000 ≤ k ∧ k ≤ 1000000 then .ok (.str (List.replicate k.toNat a).flatten) h else .stuck
  | .mul, .ref l, .int k => match h[l]? with
    | some (.lst xs) => if xs.length * k.toNat ≤ LINE ∧ -1000000 ≤ k ∧ k ≤ 1000000 then alloc (.lst (List.replicate k.toNat xs).flatten) h else .stuck
    | _ => .stuck
  | .fdiv, .int a, .int b => if 0 < b ∧ b.natAbs.log2 < 9000 then .ok (.int (a / b)) h else .stuck
  | .mod, .int a, .int b => if 0 < b then .ok (.int (a % b)) h else .stuck
  | .pow, .int a, .int b => if 0 ≤ b ∧ b ≤ 1000000 ∧ a.natAbs < 2 ^ 64 then .ok (.int (a ^ b.toNat)) h else .stuck
  | .shl, .int a, .int b => if 0 ≤ b ∧ (ibits a : Int) + b ≤ 134217728 then .ok (.int (a * 2 ^ b.toNat)) h else .stuck
  | .shr, .int a, .int b => if 0 ≤ b then .ok (.int (a / 2 ^ b.toNat)) h else .stuck
  | .band, .int a, .int b => .ok (.int (band a b)) h
  | _, _, _ => .stuck

/-- op= -/
def augop (o : BOp) (x y : W) (h : L) : R W := match o, x, y with
  | .add, .int a, .int b => .ok (.int (a + b)) h
  | .sub, .int a, .int b => .ok (.int (a - b)) h
  | .fdiv, .int a, .int b => if 0 < b ∧ b < 1073741824 then .ok (.int (a / b)) h else .stuck
  | _, _, _ => .stuck

def ofB (o : Option Bool) (neg : Bool) (h : L) : R W := match o with
  | some b => .ok (.bl (if neg then !b else b)) h
  | none => .stuck
def isFlat : W → Bool
  | .non => true | .bl _ => true | .int _ => true | .str _ => true
  | _ => false
def anyEq (x : W) (ys : List W) : Option Bool := if isFlat x && ys.all isFlat then some (ys.any fun y => eqvB y x) else none
def isIn (kd : Kd) (h : L) (x y : W) : Option Bool := match y with
  | .tup ys => anyEq x ys
  | .ref r => match h[r]? with
    | some (.lst ys) => anyEq x ys
    | some (.dic kvs) => match x with
      | .str k => some (lookK kvs k).isSome
      | _ => none
    | _ => none
  | .kd d => match x, kd[d]? with
    | .str k, some kvs => some (lookK kvs k).isSome
    | _, _ => none
  | .str s => match x with
    | .str [c] => some (decide (c ∈ s))
    | _ => none
  | _ => none
/-- is: None, and the two truths -/
def isv : W → W → Option Bool
  | .non, .non => some true
  | .bl _, .non => some false | .int _, .non => some false | .str _, .non => some false | .tup _, .non => some false | .ref _, .non => some false
  | .bl a, .bl b => some (decide (a = b))
  | _, _ => none
def cmpop (kd : Kd) (o : COp) (x y : W) (h : L) : R W := match o with
  | .eq => ofB (eqh h x y) false h
  | .ne => ofB (eqh h x y) true h
  | .lt => match x, y with | .int a, .int b => .ok (.bl (decide (a < b))) h | _, _ => .stuck
  | .le => match x, y with | .int a, .int b => .ok (.bl (decide (a ≤ b))) h | _, _ => .stuck
  | .gt => match x, y with | .int a, .int b => .ok (.bl (decide (b < a))) h | _, _ => .stuck
  | .ge => match x, y with | .int a, .int b => .ok (.bl (decide (b ≤ a))) h | _, _ => .stuck
  | .is => ofB (isv x y) false h
  | .isnot => ofB (isv x y) true h
  | .inn => ofB (isIn kd h x y) false h
  | .notin => ofB (isIn kd h x y) true h

/-- the types' names -/
inductive TN where
  | non | bool | int | str | tuple | list | dict
  deriving DecidableEq, Repr
def tyN : W → L → Option TN
  | .non, _ => some .non | .bl _, _ => some .bool | .int _, _ => some .int | .str _, _ => some .str | .tup _, _ => some .tuple
  | .ref r, h => match h[r]? with
    | some (.lst _) => some .list
    | some (.dic _) => some .dict
    | _ => none
  | _, _ => none
def TN.is : TN → BT → Bool
  | .bool, .bool => true | .bool, .int => true | .int, .int => true | .str, .str => true | .tuple, .tuple => true | .list, .list => true | .dict, .dict => true
  | _, _ => false
def isT (h : L) (x : W) (t : BT) : Option Bool := match tyN x h with
  | some n => some (n.is t)
  | none => none
def tysOf : List W → Option (List BT)
  | [] => some []
  | .ty t :: r => (tysOf r).map (t :: ·)
  | _ => none
def isTs (h : L) (x : W) (ts : List W) : Option Bool := match tyN x h, tysOf ts with
  | some n, some l => some (l.any n.is)
  | _, _ => none

/-- the text of a number -/
def strI (i : Int) : List Nat := (toString i).toList.map Char.toNat

def intsW : List W → Option (List Int)
  | [] => some []
  | .int i :: r => (intsW r).map (i :: ·)
  | _ => none
def boolsW : List W → Option (List Bool)
  | [] => some []
  | .bl i :: r => (boolsW r).map (i :: ·)
  | _ => none
def items (h : L) : W → Option (List W)
  | .tup xs => some xs
  | .frz xs => some xs
  | .ref r => match h[r]? with
    | some (.lst xs) => some xs
    | _ => none
  | _ => none

def bLen (x : W) (h : L) : R W := match x with
  | .str s => if s.length ≤ LINE then .ok (.int s.length) h else .stuck
  | x => match items h x with
    | some xs => .ok (.int xs.length) h
    | none => .stuck
def isDig (c : Nat) : Bool := decide (48 ≤ c) && decide (c ≤ 57)
/-- the number of a text of digits -/
def decV (s : List Nat) : Nat := s.foldl (fun a c => a * 10 + (c - 48)) 0
def bInt (x : W) (h : L) : R W := match x with
  | .int i => .ok (.int i) h
  | .bl b => .ok (.int (if b then 1 else 0)) h
  | .str s => if s.all isDig = true ∧ s ≠ [] ∧ s.length ≤ 640 then .ok (.int (decV s : Nat)) h else .stuck
  | _ => .stuck
def bIsi (x t : W) (h : L) : R W := match t with
  | .ty t => ofB (isT h x t) false h
  | .tup ts => ofB (isTs h x ts) false h
  | _ => .stuck
/-- a built-in of a list's items -/
def cfn (f : BF) (xs : List W) (h : L) : R W := match f with
  | .all => match boolsW xs with
    | some bs => .ok (.bl (bs.all id)) h
    | none => .stuck
  | .any => match boolsW xs with
    | some bs => .ok (.bl (bs.any id)) h
    | none => .stuck
  | .sum => match intsW xs with
    | some ns => .ok (.int ns.sum) h
    | none => .stuck
  | .totup => .ok (.tup xs) h
  | .len => .ok (.int xs.length) h
  | _ => .stuck
def bLst (f : BF) (x : W) (h : L) : R W := match x with
  | .ref r => match h[r]? with
    | some (.lst xs) => cfn f xs h
    | _ => .stuck
  | _ => .stuck
def bTup (x : W) (h : L) : R W := match x with
  | .tup xs => .ok (.tup xs) h
  | x => bLst .totup x h
/-! repr -/
def joinC : List (List Nat) → List Nat
  | [] => []
  | [x] => x
  | x :: y :: r => x ++ [44, 32] ++ joinC (y :: r)
def tupT (ts : List (List Nat)) : List Nat := [40] ++ joinC ts ++ (if ts.length == 1 then [44, 41] else [41])
def lstT (ts : List (List Nat)) : List Nat := [91] ++ joinC ts ++ [93]
/-- a text whose repr is itself between two signs -/
def strT (s : List Nat) : Option (List Nat) := if s.all (fun c => decide (32 ≤ c) && decide (c ≤ 126) && c != 39 && c != 92) then some (39 :: s ++ [39]) else none
def mapO {α β : Type} (f : α → Option β) : List α → Option (List β)
  | [] => some []
  | x :: xs => match f x with
    | some y => (mapO f xs).map (y :: ·)
    | none => none
def shw (h : L) : Nat → W → Option (List Nat)
  | _, .non => some [78, 111, 110, 101]
  | _, .bl true => some [84, 114, 117, 101]
  | _, .bl false => some [70, 97, 108, 115, 101]
  | _, .int i => if i.natAbs.log2 < 1920 then some (strI i) else none
  | _, .str s => strT s
  | n + 1, .tup xs => (mapO (shw h n) xs).map tupT
  | n + 1, .frz xs => (mapO (shw h n) xs).map lstT
  | n + 1, .ref r => match h[r]? with
    | some (.lst xs) => (mapO (shw h n) xs).map lstT
    | _ => none
  | _, _ => none
def bfn (kd : Kd) (f : BF) (vs : List W) (h : L) : R W := match f with
  | .len => match vs with
    | [x] => bLen x h
    | _ => .stuck
  | .isinst => match vs with
    | [x, t] => bIsi x t h
    | _ => .stuck
  | .toint => match vs with
    | [x] => bInt x h
    | _ => .stuck
  | .tostr => match vs with
    | [.int i] => if i.natAbs.log2 < 1920 then .ok (.str (strI i)) h else .stuck
    | _ => .stuck
  | .abs => match vs with
    | [.int i] => .ok (.int (if i < 0 then -i else i)) h
    | _ => .stuck
  | .max => match vs with
    | [.int i, .int j] => .ok (.int (if j > i then j else i)) h
    | _ => .stuck
  | .min => match vs with
    | [.int i, .int j] => .ok (.int (if j < i then j else i)) h
    | _ => .stuck
  | .tolist => match vs with
    | [x] => match items h x with
      | some xs => alloc (.lst xs) h
      | none => .stuck
    | _ => .stuck
  | .totup => match vs with
    | [x] => bTup x h
    | _ => .stuck
  | .all => match vs with
    | [x] => bLst .all x h
    | _ => .stuck
  | .any => match vs with
    | [x] => bLst .any x h
    | _ => .stuck
  | .sum => match vs with
    | [x] => bLst .sum x h
    | _ => .stuck
  | .todict => match vs with
    | [.kd d] => match kd[d]? with
      | some kvs => if kvs.length ≤ 1000 then alloc (.dic kvs) h else .stuck
      | none => .stuck
    | _ => .stuck
  | .repr => match vs with
    | [x] => match shw h 60 x with
      | some s => if s.length ≤ LINE then .ok (.str s) h else .stuck
      | none => .stuck
    | _ => .stuck
  | _ => .stuck

def mAppend (r : Nat) (y : W) (h : L) : R W := match h[r]? with
  | some (.lst xs) => if xs.length < LINE then .ok .non (h.set r (.lst (xs ++ [y]))) else .stuck
  | _ => .stuck
def mExtend (r q : Nat) (h : L) : R W := match h[r]?, h[q]? with
  | some (.lst xs), some (.lst ys) => if xs.length + ys.length ≤ LINE then .ok .non (h.set r (.lst (xs ++ ys))) else .stuck
  | _, _ => .stuck
def mPop (r : Nat) (i : Int) (h : L) : R W := match h[r]? with
  | some (.lst xs) => match seqI i xs.length with
    | some k => match xs[k]? with
      | some y => .ok y (h.set r (.lst (xs.eraseIdx k)))
      | none => .stuck
    | none => .stuck
  | _ => .stuck
def bmt (m : MT) (o : W) (vs : List W) (h : L) : R W := match o with
  | .ref r => match m, vs with
    | .append, [y] => mAppend r y h
    | .extend, [.ref q] => mExtend r q h
    | .pop, [.int i] => mPop r i h
    | _, _ => .stuck
  | .int i => match m, vs with
    | .bits, [] => .ok (.int (ibits i)) h
    | _, _ => .stuck
  | _ => .stuck

def isLst (h : L) (r : Nat) : Bool := match h[r]? with
  | some (.lst _) => true
  | _ => false
def mtOk (m : MT) (x : W) (h : L) : Bool := match x with
  | .int _ => decide (m = .bits)
  | .ref r => isLst h r
  | _ => false
def subv (kd : Kd) (a i : W) (h : L) : R W := match a, i with
  | .tup xs, .int i => match atI xs i with | some v => .ok v h | none => .stuck
  | .str s, .int i => if s.length ≤ LINE then (match atI s i with | some c => .ok (.str [c]) h | none => .stuck) else .stuck
  | .ref r, .int i => match h[r]? with
    | some (.lst xs) => match atI xs i with | some v => .ok v h | none => .stuck
    | _ => .stuck
  | .ref r, .str k => match h[r]? with
    | some (.dic kvs) => match lookK kvs k with | some v => .ok v h | none => .stuck
    | _ => .stuck
  | .kd d, .str k => match kd[d]? with
    | some kvs => match lookK kvs k with | some v => .ok v h | none => .stuck
    | none => .stuck
  | _, _ => .stuck
def slcv (a lo hi : W) (h : L) : R W := match a with
  | .tup xs => match cut xs lo hi with | some ys => .ok (.tup ys) h | none => .stuck
  | .str s => if s.length ≤ LINE then (match cut s lo hi with | some ys => .ok (.str ys) h | none => .stuck) else .stuck
  | .ref r => match h[r]? with
    | some (.lst xs) => match cut xs lo hi with | some ys => alloc (.lst ys) h | none => .stuck
    | _ => .stuck
  | _ => .stuck
def revv (a : W) (h : L) : R W := match a with
  | .tup xs => .ok (.tup xs.reverse) h
  | .ref r => match h[r]? with
    | some (.lst xs) => alloc (.lst xs.reverse) h
    | _ => .stuck
  | _ => .stuck

/-- what a for walks: its items, the lists that must stay as they are -/
structure Src where
  items : List W
  held : List (Nat × List W)
  deriving Repr
def ranges (lo : Int) : Nat → List W
  | 0 => []
  | n + 1 => .int lo :: ranges (lo + 1) n
def srcOf (h : L) : W → Option Src
  | .tup xs => some ⟨xs, []⟩
  | .ref r => match h[r]? with
    | some (.lst xs) => some ⟨xs, [(r, xs)]⟩
    | _ => none
  | .str s => some ⟨s.map fun c => .str [c], []⟩
  | _ => none
def zips : List W → List W → List W
  | x :: xs, y :: ys => .tup [x, y] :: zips xs ys
  | _, _ => []
def enums (k : Int) : List W → List W
  | [] => []
  | x :: xs => .tup [.int k, x] :: enums (k + 1) xs
def zipS (h : L) (x y : W) : Option Src := match x, y with
  | .tup xs, .tup ys => some ⟨zips xs ys, []⟩
  | .ref r, .ref q => match h[r]?, h[q]? with
    | some (.lst xs), some (.lst ys) => some ⟨zips xs ys, [(r, xs), (q, ys)]⟩
    | _, _ => none
  | _, _ => none
def heldB (h : L) : List (Nat × List W) → Bool
  | [] => true
  | (r, xs) :: l => (match h[r]? with
    | some (.lst ys) => W.beqs xs ys
    | _ => false) && heldB h l

abbrev Orc := Nat → List W → L → R W

def isNone : W → Bool | .non => true | _ => false

/-- o[i] = v by values -/
def putv (x y v : W) (h : L) : R Unit := match x, y with
  | .ref r, .int i => match h[r]? with
    | some (.lst xs) => match ixN xs.length i with
      | some k => .ok () (h.set r (.lst (xs.set k v)))
      | none => .stuck
    | _ => .stuck
  | .ref r, .str k => match h[r]? with
    | some (.dic kvs) => if kvs.length < 1000 then .ok () (h.set r (.dic (putK kvs k v))) else .stuck
    | _ => .stuck
  | _, _ => .stuck

/-- the turns of a comprehension; f: one turn, from the wiped slots -/
def turns (held : List (Nat × List W)) (f : W → L → R (Option W)) : List W → L → List W → R (List W)
  | [], h, acc => if heldB h held then .ok acc h else .stuck
  | x :: xs, h, acc => if heldB h held then ((f x h).calm.bind fun r h => match r with
    | some y => if acc.length < LINE then turns held f xs h (acc ++ [y]) else .stuck
    | none => turns held f xs h acc)
    else .stuck

mutual
def ev (C : Orc) (kd : Kd) : E → Env → L → R W
  | .cst w, _, h => .ok w h
  | .var i, σ, h => match gets σ i with | some v => .ok v h | none => .stuck
  | .bin o a b, σ, h => (ev C kd a σ h).bind fun x h => (ev C kd b σ h).bind fun y h => binop o x y h
  | .neg a, σ, h => (ev C kd a σ h).bind fun x h => match x with | .int i => .ok (.int (-i)) h | _ => .stuck
  | .not a, σ, h => (ev C kd a σ h).bind fun x h => match truth x h with | some b => .ok (.bl (!b)) h | none => .stuck
  | .and a b, σ, h => (ev C kd a σ h).bind fun x h => match truth x h with
    | some true => ev C kd b σ h
    | some false => .ok x h
    | none => .stuck
  | .or a b, σ, h => (ev C kd a σ h).bind fun x h => match truth x h with
    | some true => .ok x h
    | some false => ev C kd b σ h
    | none => .stuck
  | .cmp o a b, σ, h => (ev C kd a σ h).bind fun x h => (ev C kd b σ h).bind fun y h => cmpop kd o x y h
  | .cmp2 o o' a b c, σ, h => (ev C kd a σ h).bind fun x h => (ev C kd b σ h).bind fun y h => (cmpop kd o x y h).bind fun z h => match z with
    | .bl true => (ev C kd c σ h).bind fun u h => cmpop kd o' y u h
    | .bl false => .ok (.bl false) h
    | _ => .stuck
  | .ite c a b, σ, h => (ev C kd c σ h).bind fun x h => match truth x h with
    | some true => ev C kd a σ h
    | some false => ev C kd b σ h
    | none => .stuck
  | .tup es, σ, h => (evs C kd es σ h).bind fun xs h => if xs.length ≤ LINE then .ok (.tup xs) h else .stuck
  | .lst es, σ, h => (evs C kd es σ h).bind fun xs h => if xs.length ≤ LINE then alloc (.lst xs) h else .stuck
  | .dic ks es, σ, h => (evs C kd es σ h).bind fun xs h => if ks.length = xs.length ∧ xs.length ≤ 1000 then alloc (.dic ((ks.zip xs).foldl (fun kvs p => putK kvs p.1 p.2) [])) h else .stuck
  | .sub a i, σ, h => (ev C kd a σ h).bind fun x h => (ev C kd i σ h).bind fun y h => subv kd x y h
  | .slc a lo hi, σ, h => (ev C kd a σ h).bind fun x h => (ev C kd lo σ h).bind fun y h => (ev C kd hi σ h).bind fun z h => slcv x y z h
  | .rev a, σ, h => (ev C kd a σ h).bind fun x h => revv x h
  | .call g es, σ, h => (evs C kd es σ h).bind fun xs h => C g xs h
  | .bf f es, σ, h => (evs C kd es σ h).bind fun xs h => bfn kd f xs h
  | .mt m o es, σ, h => (ev C kd o σ h).bind fun x h => if mtOk m x h then (evs C kd es σ h).bind fun xs h => bmt m x xs h else .stuck
  | .lc c, σ, h => (evc C kd c σ h).bind fun xs h => alloc (.lst xs) h
  | .bfc f c, σ, h => (evc C kd c σ h).bind fun xs h => cfn f xs h
  | .idx a, σ, h => (ev C kd a σ h).bind fun x h => match x with | .int i => .ok (.int i) h | _ => .stuck
def evs (C : Orc) (kd : Kd) : Es → Env → L → R (List W)
  | .nil, _, h => .ok [] h
  | .cons e es, σ, h => (ev C kd e σ h).bind fun x h => (evs C kd es σ h).bind fun xs h => .ok (x :: xs) h
def evi (C : Orc) (kd : Kd) : It → Env → L → R Src
  | .of e, σ, h => (ev C kd e σ h).bind fun x h => match srcOf h x with | some s => .ok s h | none => .stuck
  | .rng1 es, σ, h => (evs C kd es σ h).bind fun xs h => match xs with
    | [.int n] => if -(2 ^ 62) ≤ n ∧ n < 2 ^ 62 then .ok ⟨ranges 0 n.toNat, []⟩ h else .stuck
    | _ => .stuck
  | .rng2 es, σ, h => (evs C kd es σ h).bind fun xs h => match xs with
    | [.int a, .int b] => if -(2 ^ 62) ≤ a ∧ a < 2 ^ 62 ∧ -(2 ^ 62) ≤ b ∧ b < 2 ^ 62 then .ok ⟨ranges a (b - a).toNat, []⟩ h else .stuck
    | _ => .stuck
  | .zip es, σ, h => (evs C kd es σ h).bind fun xs h => match xs with
    | [x, y] => match zipS h x y with
      | some s => .ok s h
      | none => .stuck
    | _ => .stuck
  | .enum e, σ, h => (ev C kd e σ h).bind fun x h => match x with
    | .ref r => match h[r]? with
      | some (.lst xs) => .ok ⟨enums 0 xs, [(r, xs)]⟩ h
      | _ => .stuck
    | _ => .stuck
/-- a store -/
def sto (C : Orc) (kd : Kd) : T → W → Env → L → R Env
  | .nm i, v, σ, h => .ok (sets σ i (some v)) h
  | .tp ts, v, σ, h => match v with
    | .tup xs => stos C kd ts xs σ h
    | .ref r => match h[r]? with
      | some (.lst xs) => stos C kd ts xs σ h
      | _ => .stuck
    | _ => .stuck
  | .sb a i, v, σ, h => (ev C kd a σ h).bind fun x h => (ev C kd i σ h).bind fun y h => (putv x y v h).bind fun _ h => .ok σ h
def stos (C : Orc) (kd : Kd) : Ts → List W → Env → L → R Env
  | .nil, [], σ, h => .ok σ h
  | .cons t ts, x :: xs, σ, h => (sto C kd t x σ h).bind fun σ h => stos C kd ts xs σ h
  | _, _, _, _ => .stuck
def evt (C : Orc) (kd : Kd) : Es → Env → L → R Bool
  | .nil, _, h => .ok true h
  | .cons e es, σ, h => (ev C kd e σ h).bind fun x h => match truth x h with
    | some true => evt C kd es σ h
    | some false => .ok false h
    | none => .stuck
def evc (C : Orc) (kd : Kd) : Cp → Env → L → R (List W)
  | .mk own tg it cs elt, σ, h => (evi C kd it σ h).bind fun s h => turns s.held (fun x h => (sto C kd tg x (wipes σ own) h).bind fun σ h =>
      (evt C kd cs σ h).bind fun b h => match b with
        | true => (ev C kd elt σ h).bind fun y h => .ok (some y) h
        | false => .ok none h) s.items h []
end

/-- one turn of a comprehension -/
def cturn (C : Orc) (kd : Kd) (own : List Nat) (t : T) (cs : Es) (ca : E) (ε : Env) (x : W) (h : L) : R (Option W) :=
  (sto C kd t x (wipes ε own) h).bind fun σ h => (evt C kd cs σ h).bind fun b h => match b with
    | true => (ev C kd ca σ h).bind fun y h => .ok (some y) h
    | false => .ok none h
theorem evc_eq {C : Orc} {kd : Kd} {t : T} {it : It} {cs : Es} {ca : E} {own : List Nat} {ε : Env} {h : L} : evc C kd (.mk own t it cs ca) ε h = (evi C kd it ε h).bind fun s h => turns s.held (cturn C kd own t cs ca ε) s.items h [] := by
  simp only [evc]
  rfl
/-- how a statement ends -/
inductive F where
  | nx (σ : Env) | rt (v : W) | bk (σ : Env) | ct (σ : Env)
def whiles (t : Env → L → R Bool) (b : Env → L → R F) : Nat → Env → L → R F
  | 0, _, _ => .stuck
  | n + 1, σ, h => (t σ h).bind fun x h => match x with
    | false => .ok (.nx σ) h
    | true => (b σ h).bind fun f h => match f with
      | .nx σ => whiles t b n σ h
      | .ct σ => whiles t b n σ h
      | .bk σ => .ok (.nx σ) h
      | .rt v => .ok (.rt v) h
def fors (held : List (Nat × List W)) (g : W → Env → L → R Env) (b : Env → L → R F) : List W → Env → L → R F
  | [], σ, h => if heldB h held then .ok (.nx σ) h else .stuck
  | x :: xs, σ, h => if heldB h held then ((g x σ h).calm.bind fun σ h => (b σ h).bind fun f h => match f with
      | .nx σ => fors held g b xs σ h
      | .ct σ => fors held g b xs σ h
      | .bk σ => .ok (.nx σ) h
      | .rt v => .ok (.rt v) h)
    else .stuck
/-- the bound of a while's turns -/
def FUEL : Nat := 1000000
mutual
def ex (C : Orc) (kd : Kd) : S → Env → L → R F
  | .asg t e, σ, h => (ev C kd e σ h).bind fun x h => (sto C kd t x σ h).calm.bind fun σ h => .ok (.nx σ) h
  | .aug i o e, σ, h => match gets σ i with
    | some x => (ev C kd e σ h).bind fun y h => (augop o x y h).bind fun z h => .ok (.nx (sets σ i (some z))) h
    | none => .stuck
  | .ife c a b, σ, h => (ev C kd c σ h).bind fun x h => match truth x h with
    | some true => exs C kd a σ h
    | some false => exs C kd b σ h
    | none => .stuck
  | .whl c b, σ, h => whiles (fun σ h => (ev C kd c σ h).bind fun x h => match truth x h with
      | some k => .ok k h
      | none => .stuck) (fun σ h => exs C kd b σ h) FUEL σ h
  | .for t it b, σ, h => (evi C kd it σ h).bind fun s h => fors s.held (fun x σ h => sto C kd t x σ h) (fun σ h => exs C kd b σ h) s.items σ h
  | .ret e, σ, h => (ev C kd e σ h).bind fun x h => .ok (.rt x) h
  | .retn, _, h => .ok (.rt .non) h
  | .expr e, σ, h => (ev C kd e σ h).bind fun _ h => .ok (.nx σ) h
  | .pass, σ, h => .ok (.nx σ) h
  | .brk, σ, h => .ok (.bk σ) h
  | .cont, σ, h => .ok (.ct σ) h
  | .raise, _, _ => .stuck
  | .try b, σ, h => (exs C kd b σ h).calm
def exs (C : Orc) (kd : Kd) : Ss → Env → L → R F
  | .nil, σ, h => .ok (.nx σ) h
  | .cons s ss, σ, h => (ex C kd s σ h).bind fun f h => match f with
    | .nx σ => exs C kd ss σ h
    | .rt v => .ok (.rt v) h
    | .bk σ => .ok (.bk σ) h
    | .ct σ => .ok (.ct σ) h
end

/-- a def: parameters, slots, body -/
structure Fn where
  np : Nat
  nn : Nat
  body : Ss
def fin (r : R F) : R W := r.bind fun f h => match f with
  | .nx _ => .ok .non h
  | .rt v => .ok v h
  | _ => .stuck
def call (kd : Kd) (P : List Fn) : Nat → Orc
  | 0, _, _, _ => .stuck
  | d + 1, g, ws, h => match P[g]? with
    | some f => if ws.length = f.np then fin (exs (call kd P d) kd f.body (ws.map some ++ List.replicate (f.nn - f.np) none) h) else .stuck
    | none => .stuck
end Vl
set_option maxRecDepth 100000
set_option maxHeartbeats 4000000
namespace Vl
/-! ### a run of the machine that ends well -/
def Ok {α : Type} (r : R α) (P : α → L → Prop) : Prop := ∃ v h, r = .ok v h ∧ P v h
theorem Ok.of {α : Type} {P : α → L → Prop} {v : α} {h : L} (p : P v h) : Ok (.ok v h) P := ⟨v, h, rfl, p⟩
theorem Ok.bind {α β : Type} {r : R α} {f : α → L → R β} {P : α → L → Prop} {Q : β → L → Prop} (o : Ok r P) (k : ∀ v h, P v h → Ok (f v h) Q) : Ok (r.bind f) Q := by
  obtain ⟨v, h, rfl, p⟩ := o
  exact k v h p
theorem Ok.mono {α : Type} {r : R α} {P Q : α → L → Prop} (o : Ok r P) (k : ∀ v h, P v h → Q v h) : Ok r Q := by
  obtain ⟨v, h, rfl, p⟩ := o
  exact ⟨v, h, rfl, k v h p⟩
theorem Ok.bindE {α β : Type} {r : R α} {f : α → L → R β} {v : α} {h : L} {Q : β → L → Prop} (o : r = .ok v h) (k : Ok (f v h) Q) : Ok (r.bind f) Q := by
  rw [o]
  exact k
theorem call_at {kd : Kd} {P : List Fn} {d g : Nat} {f : Fn} (hP : P[g]? = some f) (ws : List W) (h : L) : call kd P (d + 1) g ws h = if ws.length = f.np then fin (exs (call kd P d) kd f.body (ws.map some ++ List.replicate (f.nn - f.np) none) h) else .stuck := by
  simp only [call, hP]
theorem call_in {kd : Kd} {P : List Fn} {d g : Nat} {f : Fn} (hP : P[g]? = some f) {ws : List W} {h : L} (hl : ws.length = f.np) : call kd P (d + 1) g ws h = fin (exs (call kd P d) kd f.body (ws.map some ++ List.replicate (f.nn - f.np) none) h) := by
  rw [call_at hP, if_pos hl]
@[simp] theorem le_LINE0 : 0 ≤ LINE := by decide
@[simp] theorem le_LINE1 : 1 ≤ LINE := by decide
@[simp] theorem le_LINE2 : 2 ≤ LINE := by decide
@[simp] theorem le_LINE3 : 3 ≤ LINE := by decide
@[simp] theorem le_LINE4 : 4 ≤ LINE := by decide
@[simp] theorem le_LINE5 : 5 ≤ LINE := by decide
@[simp] theorem le_LINE6 : 6 ≤ LINE := by decide
@[simp] theorem le_LINE7 : 7 ≤ LINE := by decide
@[simp] theorem le_LINE8 : 8 ≤ LINE := by decide
@[simp] theorem le_LINE9 : 9 ≤ LINE := by decide
@[simp] theorem le_LINE10 : 10 ≤ LINE := by decide
@[simp] theorem le_LINE11 : 11 ≤ LINE := by decide
@[simp] theorem le_LINE12 : 12 ≤ LINE := by decide
@[simp] theorem lt_LINE0 : 0 < LINE := by decide
/-! ### == of leaves -/
@[simp] theorem eqvB_non_non : eqvB .non .non = true := rfl
@[simp] theorem eqvB_non_bl (y : Bool) : eqvB .non (.bl y) = false := rfl
@[simp] theorem eqvB_non_int (y : Int) : eqvB .non (.int y) = false := rfl
@[simp] theorem eqvB_non_str (y : List Nat) : eqvB .non (.str y) = false := rfl
@[simp] theorem eqvB_non_tup (y : List W) : eqvB .non (.tup y) = false := rfl
@[simp] theorem eqvB_bl_non (x : Bool) : eqvB (.bl x) .non = false := rfl
@[simp] theorem eqvB_bl_bl (x : Bool) (y : Bool) : eqvB (.bl x) (.bl y) = (x == y) := rfl
@[simp] theorem eqvB_bl_int (x : Bool) (y : Int) : eqvB (.bl x) (.int y) = ((if x then (1 : Int) else 0) == y) := rfl
@[simp] theorem eqvB_bl_str (x : Bool) (y : List Nat) : eqvB (.bl x) (.str y) = false := rfl
@[simp] theorem eqvB_bl_tup (x : Bool) (y : List W) : eqvB (.bl x) (.tup y) = false := rfl
@[simp] theorem eqvB_int_non (x : Int) : eqvB (.int x) .non = false := rfl
@[simp] theorem eqvB_int_bl (x : Int) (y : Bool) : eqvB (.int x) (.bl y) = (x == (if y then (1 : Int) else 0)) := rfl
@[simp] theorem eqvB_int_int (x : Int) (y : Int) : eqvB (.int x) (.int y) = (x == y) := rfl
@[simp] theorem eqvB_int_str (x : Int) (y : List Nat) : eqvB (.int x) (.str y) = false := rfl
@[simp] theorem eqvB_int_tup (x : Int) (y : List W) : eqvB (.int x) (.tup y) = false := rfl
@[simp] theorem eqvB_str_non (x : List Nat) : eqvB (.str x) .non = false := rfl
@[simp] theorem eqvB_str_bl (x : List Nat) (y : Bool) : eqvB (.str x) (.bl y) = false := rfl
@[simp] theorem eqvB_str_int (x : List Nat) (y : Int) : eqvB (.str x) (.int y) = false := rfl
@[simp] theorem eqvB_str_str (x : List Nat) (y : List Nat) : eqvB (.str x) (.str y) = (x == y) := rfl
@[simp] theorem eqvB_str_tup (x : List Nat) (y : List W) : eqvB (.str x) (.tup y) = false := rfl
@[simp] theorem eqvB_tup_non (x : List W) : eqvB (.tup x) .non = false := rfl
@[simp] theorem eqvB_tup_bl (x : List W) (y : Bool) : eqvB (.tup x) (.bl y) = false := rfl
@[simp] theorem eqvB_tup_int (x : List W) (y : Int) : eqvB (.tup x) (.int y) = false := rfl
@[simp] theorem eqvB_tup_str (x : List W) (y : List Nat) : eqvB (.tup x) (.str y) = false := rfl
@[simp] theorem eqvB_tup_tup (x : List W) (y : List W) : eqvB (.tup x) (.tup y) = eqvs x y := rfl
@[simp] theorem eqvs_nn : eqvs [] [] = true := rfl
@[simp] theorem eqvs_nc (y : W) (ys : List W) : eqvs [] (y :: ys) = false := rfl
@[simp] theorem eqvs_cn (x : W) (xs : List W) : eqvs (x :: xs) [] = false := rfl
@[simp] theorem eqvs_cc (x y : W) (xs ys : List W) : eqvs (x :: xs) (y :: ys) = (eqvB x y && eqvs xs ys) := rfl
@[simp] theorem isD_non (n : Nat) : isD n .non = true := rfl
@[simp] theorem isD_bl (n : Nat) (b : Bool) : isD n (.bl b) = true := rfl
@[simp] theorem isD_int (n : Nat) (b : Int) : isD n (.int b) = true := rfl
@[simp] theorem isD_str (n : Nat) (s : List Nat) : isD n (.str s) = s.all (fun c => decide (c < 1114112)) := rfl
@[simp] theorem isD_tup (n : Nat) (xs : List W) : isD n (.tup xs) = (decide (n ≠ 0) && isDs (n - 1) xs) := rfl
@[simp] theorem isDs_nil (n : Nat) : isDs n [] = true := rfl
@[simp] theorem isDs_cons (n : Nat) (x : W) (xs : List W) : isDs n (x :: xs) = (isD n x && isDs n xs) := rfl
/-! ### sizes -/
theorem ibits_le {x : Int} {n : Nat} (h : x.natAbs < 2 ^ n) : ibits x ≤ n := by
  unfold ibits
  by_cases hx : x = 0
  · rw [if_pos hx]; omega
  · rw [if_neg hx]
    have : x.natAbs ≠ 0 := by omega
    have := (Nat.log2_lt this).mpr h
    omega
/-! ### data -/
theorem isDs_ints (n : Nat) : ∀ l : List Int, isDs n (l.map W.int) = true
  | [] => rfl
  | i :: l => by
    show (isD n (.int i) && isDs n (l.map W.int)) = true
    rw [isDs_ints n l]
    rfl
theorem eqvs_nil (l : List W) : eqvs l [] = l.isEmpty := by
  cases l <;> rfl
theorem eqv_int (i j : Int) : eqv (.int i) (.int j) = some (i == j) := rfl
theorem eqv_str (x y : List Nat) : eqv (.str x) (.str y) = some (x == y) := rfl
theorem eqh_int (h : L) (i j : Int) : eqh h (.int i) (.int j) = some (i == j) := rfl
theorem eqh_str (h : L) (x y : List Nat) : eqh h (.str x) (.str y) = some (x == y) := rfl
theorem eqh_bl (h : L) (x y : Bool) : eqh h (.bl x) (.bl y) = some (x == y) := rfl
theorem sub_lst0 {kd : Kd} {h : L} {r : Nat} {x : W} {xs : List W} (e : h[r]? = some (.lst (x :: xs))) : subv kd (.ref r) (.int 0) h = .ok x h := by
  simp [subv, e, atI, ixN]
theorem ixN_lt {n : Nat} {i : Nat} (h : i < n) : ixN n (i : Int) = some i := by
  unfold ixN
  rw [if_pos (by omega), if_pos (by omega)]
  simp
theorem sub_lst {kd : Kd} {h : L} {r : Nat} {xs : List W} (e : h[r]? = some (.lst xs)) (i : Nat) {x : W} (hx : xs[i]? = some x) : subv kd (.ref r) (.int (i : Int)) h = .ok x h := by
  have := (List.getElem?_eq_some_iff.mp hx).1
  simp only [subv, e, atI, ixN_lt this, Option.bind_some, hx]
theorem sub_tup {kd : Kd} {h : L} {xs : List W} (i : Nat) {x : W} (hx : xs[i]? = some x) : subv kd (.tup xs) (.int (i : Int)) h = .ok x h := by
  have := (List.getElem?_eq_some_iff.mp hx).1
  simp only [subv, atI, ixN_lt this, Option.bind_some, hx]
@[simp] theorem sub_t0 {kd : Kd} {h : L} {x : W} {xs : List W} : subv kd (.tup (x :: xs)) (.int 0) h = .ok x h := by simp [subv, atI, ixN]
@[simp] theorem sub_t1 {kd : Kd} {h : L} {x y : W} {xs : List W} : subv kd (.tup (x :: y :: xs)) (.int 1) h = .ok y h := by
  have : (1 : Int) < (xs.length : Int) + 1 + 1 := by omega
  simp [subv, atI, ixN, this]
@[simp] theorem sub_t2 {kd : Kd} {h : L} {x y z : W} {xs : List W} : subv kd (.tup (x :: y :: z :: xs)) (.int 2) h = .ok z h := by
  have : (2 : Int) < (xs.length : Int) + 1 + 1 + 1 := by omega
  simp [subv, atI, ixN, this]
/-! ### the heap grows, r and q apart -/
structure Grow (r q : Nat) (h h' : L) : Prop where
  len : h.length ≤ h'.length
  keep : ∀ i, i < h.length → i ≠ r → i ≠ q → h'[i]? = h[i]?
theorem Grow.refl {r q : Nat} {h : L} : Grow r q h h := ⟨Nat.le_refl _, fun _ _ _ _ => rfl⟩
theorem Grow.trans {r q : Nat} {h h' h'' : L} (a : Grow r q h h') (b : Grow r q h' h'') : Grow r q h h'' :=
  ⟨Nat.le_trans a.len b.len, fun i hi h1 h2 => (b.keep i (Nat.lt_of_lt_of_le hi a.len) h1 h2).trans (a.keep i hi h1 h2)⟩
theorem Grow.app {r q : Nat} {h : L} {t : L} : Grow r q h (h ++ t) :=
  ⟨by simp, fun i hi _ _ => List.getElem?_append_left hi⟩
theorem Grow.set {r q : Nat} {h : L} {o : O} : Grow r q h (h.set r o) :=
  ⟨by simp, fun i hi h1 _ => List.getElem?_set_ne (fun e => h1 e.symm)⟩
theorem Grow.set' {r q : Nat} {h : L} {o : O} : Grow r q h (h.set q o) :=
  ⟨by simp, fun i hi _ h1 => List.getElem?_set_ne (fun e => h1 e.symm)⟩
theorem Grow.at {r q i : Nat} {h h' : L} {o : O} (g : Grow r q h h') (e : h[i]? = some o) (h1 : i ≠ r) (h2 : i ≠ q) : h'[i]? = some o := by
  rw [g.keep i (List.getElem?_eq_some_iff.mp e).1 h1 h2]
  exact e
/-- nothing of the old heap is changed -/
structure Ap (h h' : L) : Prop where
  ex : ∃ t, h' = h ++ t
theorem Ap.refl {h : L} : Ap h h := ⟨[], by simp⟩
theorem Ap.trans {h h' h'' : L} (a : Ap h h') (b : Ap h' h'') : Ap h h'' := by
  obtain ⟨t, rfl⟩ := a.ex
  obtain ⟨u, rfl⟩ := b.ex
  exact ⟨t ++ u, by simp⟩
theorem Ap.app {h : L} {t : L} : Ap h (h ++ t) := ⟨t, rfl⟩
theorem Ap.grow {r q : Nat} {h h' : L} (a : Ap h h') : Grow r q h h' := by
  obtain ⟨t, rfl⟩ := a.ex
  exact Grow.app
theorem Ap.at {h h' : L} {i : Nat} {o : O} (a : Ap h h') (e : h[i]? = some o) : h'[i]? = some o := by
  obtain ⟨t, rfl⟩ := a.ex
  rw [List.getElem?_append_left (List.getElem?_eq_some_iff.mp e).1]
  exact e
/-! ### the law's stream -/
structure Strm (h : L) (r q : Nat) (n : Nat) : Prop where
  ex : ∃ (sc : List Int) (a b c : Int), h[r]? = some (.lst [.ref q, .int a, .int b, .int c]) ∧ h[q]? = some (.lst (sc.map W.int)) ∧ 0 ≤ b ∧ b ≤ n ∧ 0 ≤ c ∧ c < 2147483647 ∧ r ≠ q
theorem Strm.ap {h h' : L} {r q n : Nat} (S : Strm h r q n) (a : Ap h h') : Strm h' r q n := by
  obtain ⟨sc, x, y, z, h1, h2, h3⟩ := S.ex
  exact ⟨sc, x, y, z, a.at h1, a.at h2, h3⟩
theorem Strm.mono {h : L} {r q n m : Nat} (S : Strm h r q n) (l : n ≤ m) : Strm h r q m := by
  obtain ⟨sc, x, y, z, h1, h2, h3, h4, h5⟩ := S.ex
  exact ⟨sc, x, y, z, h1, h2, h3, by omega, h5⟩
/-! ### statement by statement -/
theorem exs_nx {C : Orc} {kd : Kd} {s : S} {ss : Ss} {σ σ' : Env} {h h' : L} (e : ex C kd s σ h = .ok (.nx σ') h') : exs C kd (.cons s ss) σ h = exs C kd ss σ' h' := by
  simp only [exs, e, R.bind_ok, R.calm_ok]
theorem exs_rt {C : Orc} {kd : Kd} {s : S} {ss : Ss} {σ : Env} {v : W} {h h' : L} (e : ex C kd s σ h = .ok (.rt v) h') : exs C kd (.cons s ss) σ h = .ok (.rt v) h' := by
  simp only [exs, e, R.bind_ok, R.calm_ok]
theorem fin_rt {v : W} {h : L} : fin (.ok (.rt v) h) = .ok v h := rfl
theorem fin_nx {σ : Env} {h : L} : fin (.ok (.nx σ) h) = .ok .non h := rfl
/-! ### loops -/
def tst (C : Orc) (kd : Kd) (c : E) (σ : Env) (h : L) : R Bool := (ev C kd c σ h).bind fun x h => match truth x h with
  | some k => .ok k h
  | none => .stuck
theorem ex_whl {C : Orc} {kd : Kd} {c : E} {b : Ss} {σ : Env} {h : L} : ex C kd (.whl c b) σ h = whiles (tst C kd c) (exs C kd b) FUEL σ h := by
  simp only [ex]
  rfl
theorem whiles_stop {t : Env → L → R Bool} {b : Env → L → R F} {n : Nat} {σ : Env} {h : L} (e : t σ h = .ok false h) : whiles t b (n + 1) σ h = .ok (.nx σ) h := by
  simp only [whiles, e, R.bind_ok, R.calm_ok]
theorem ex_for {C : Orc} {kd : Kd} {t : T} {it : It} {b : Ss} {σ : Env} {h : L} : ex C kd (.for t it b) σ h = (evi C kd it σ h).bind fun s h => fors s.held (fun x σ h => sto C kd t x σ h) (fun σ h => exs C kd b σ h) s.items σ h := by
  simp only [ex]
end Vl
set_option maxRecDepth 100000
namespace Vl
def c_law_start : Fn := ⟨1, 1, (.cons (.ret (.lst (.cons (.bf .tolist (.cons (.var 0) .nil)) (.cons (.cst (.int 0)) (.cons (.cst (.int 0)) (.cons (.cst (.int 0)) .nil)))))) .nil)⟩
def c_law_draw : Fn := ⟨2, 4, (.cons (.asg (.sb (.var 0) (.cst (.int 2))) (.bin .add (.sub (.var 0) (.cst (.int 2))) (.cst (.int 1)))) (.cons (.ife (.and (.cmp .eq (.sub (.var 0) (.cst (.int 1))) (.cst (.int 0))) (.cmp .ne (.sub (.var 0) (.cst (.int 0))) (.lst .nil))) (.cons (.asg (.sb (.var 0) (.cst (.int 1))) (.mt .pop (.sub (.var 0) (.cst (.int 0))) (.cons (.cst (.int 0)) .nil))) (.cons (.ife (.cmp .lt (.sub (.var 0) (.cst (.int 1))) (.bin .pow (.cst (.int 10)) (.cst (.int 18)))) (.cons (.asg (.sb (.var 0) (.cst (.int 3))) (.bin .mod (.bin .add (.bin .add (.bin .mul (.sub (.var 0) (.cst (.int 3))) (.cst (.int 31))) (.sub (.var 0) (.cst (.int 1)))) (.cst (.int 7))) (.cst (.int 2147483647)))) (.cons (.asg (.sb (.var 0) (.cst (.int 1))) (.cst (.int 0))) .nil)) .nil) .nil)) .nil) (.cons (.ife (.cmp .gt (.sub (.var 0) (.cst (.int 1))) (.cst (.int 0))) (.cons (.asg (.nm 3) (.bin .mod (.bf .toint (.cons (.sub (.var 0) (.cst (.int 1))) .nil)) (.var 1))) (.cons (.asg (.sb (.var 0) (.cst (.int 1))) (.bin .fdiv (.sub (.var 0) (.cst (.int 1))) (.var 1))) (.cons (.ret (.var 3)) .nil))) .nil) (.cons (.asg (.nm 2) (.bin .mod (.bin .pow (.bin .add (.bin .add (.sub (.var 0) (.cst (.int 3))) (.bin .mul (.cst (.int 104729)) (.sub (.var 0) (.cst (.int 2))))) (.cst (.int 17))) (.cst (.int 5))) (.cst (.int 2147483629)))) (.cons (.ret (.bin .mod (.bin .mod (.bin .pow (.bin .add (.bin .add (.bin .mul (.var 2) (.cst (.int 48271))) (.bin .mul (.bin .mul (.cst (.int 40503)) (.sub (.var 0) (.cst (.int 2)))) (.sub (.var 0) (.cst (.int 2))))) (.cst (.int 13))) (.cst (.int 3))) (.cst (.int 1000000007))) (.var 1))) .nil)))))⟩
def c_law_pick (g0 : Nat) : Fn := ⟨2, 2, (.cons (.ret (.sub (.var 1) (.call g0 (.cons (.var 0) (.cons (.bf .len (.cons (.var 1) .nil)) .nil))))) .nil)⟩
def c_law_v_float : Fn := ⟨1, 1, (.cons (.ret (.sub (.dic [[101], [102], [100]] (.cons (.tup (.cons (.cst (.int 11)) (.cons (.neg (.cst (.int 24))) (.cons (.cst (.int 5)) .nil)))) (.cons (.tup (.cons (.cst (.int 24)) (.cons (.neg (.cst (.int 149))) (.cons (.cst (.int 8)) .nil)))) (.cons (.tup (.cons (.cst (.int 53)) (.cons (.neg (.cst (.int 1074))) (.cons (.cst (.int 11)) .nil)))) .nil)))) (.var 0))) .nil)⟩
def c_law_v_great (g0 : Nat) : Fn := ⟨2, 3, (.cons (.ret (.bin .mod (.bfc .sum (.mk [2] (.nm 2) (.rng1 (.cons (.cst (.int 8)) .nil)) .nil (.bin .shl (.call g0 (.cons (.var 0) (.cons (.cst (.int 65536)) .nil))) (.bin .mul (.cst (.int 16)) (.var 2))))) (.var 1))) .nil)⟩
def c_law_v_sizes : Fn := ⟨1, 7, (.cons (.asg (.tp (.cons (.nm 2) (.cons (.nm 3) .nil))) (.tup (.cons (.cmp .inn (.var 0) (.tup (.cons (.cst (.str [])) (.cons (.cst (.str [64])) .nil)))) (.cons (.dic [] .nil) .nil)))) (.cons (.asg (.nm 1) (.lst (.cons (.tup (.cons (.cst (.int 1)) (.cons (.cst (.str [120, 99, 98, 66, 63, 115, 112])) .nil))) (.cons (.tup (.cons (.cst (.int 2)) (.cons (.cst (.str [104, 72, 101])) .nil))) (.cons (.tup (.cons (.cst (.int 4)) (.cons (.cst (.str [105, 73, 102])) .nil))) (.cons (.tup (.cons (.cst (.int 8)) (.cons (.cst (.str [113, 81, 100])) .nil))) (.cons (.tup (.cons (.sub (.lst (.cons (.cst (.int 4)) (.cons (.cst (.int 8)) .nil))) (.bf .toint (.cons (.var 2) .nil))) (.cons (.cst (.str [108, 76])) .nil))) .nil))))))) (.cons (.for (.tp (.cons (.nm 4) (.cons (.nm 5) .nil))) (.of (.bin .add (.var 1) (.bin .mul (.lst (.cons (.tup (.cons (.cst (.int 8)) (.cons (.cst (.str [110, 78, 80])) .nil))) .nil)) (.bf .toint (.cons (.var 2) .nil))))) (.cons (.for (.nm 6) (.of (.var 5)) (.cons (.asg (.sb (.var 3) (.var 6)) (.var 4)) .nil)) .nil)) (.cons (.ret (.var 3)) .nil))))⟩
def c_law_v_at (g0 : Nat) : Fn := ⟨2, 7, (.cons (.asg (.tp (.cons (.nm 2) (.cons (.nm 3) (.cons (.nm 4) .nil)))) (.call g0 (.cons (.var 0) .nil))) (.cons (.asg (.tp (.cons (.nm 5) (.cons (.nm 6) .nil))) (.tup (.cons (.bin .fdiv (.var 1) (.bin .shl (.cst (.int 1)) (.bin .sub (.var 2) (.cst (.int 1))))) (.cons (.bin .mod (.bf .toint (.cons (.var 1) .nil)) (.bin .shl (.cst (.int 1)) (.bin .sub (.var 2) (.cst (.int 1))))) .nil)))) (.cons (.ret (.ite (.cmp .eq (.var 5) (.cst (.int 0))) (.tup (.cons (.var 6) (.cons (.var 3) .nil))) (.tup (.cons (.bin .add (.var 6) (.bin .shl (.cst (.int 1)) (.bin .sub (.var 2) (.cst (.int 1))))) (.cons (.bin .sub (.bin .add (.var 3) (.var 5)) (.cst (.int 1))) .nil))))) .nil)))⟩
def c_law_v_form : Fn := ⟨3, 3, (.cons (.whl (.and (.cmp .gt (.var 0) (.cst (.int 0))) (.cmp .eq (.bin .mod (.bf .toint (.cons (.var 0) .nil)) (.cst (.int 2))) (.cst (.int 0)))) (.cons (.asg (.tp (.cons (.nm 0) (.cons (.nm 1) .nil))) (.tup (.cons (.bin .fdiv (.var 0) (.cst (.int 2))) (.cons (.bin .add (.var 1) (.cst (.int 1))) .nil)))) .nil)) (.cons (.ife (.cmp .eq (.var 0) (.cst (.int 0))) (.cons (.ret (.ite (.var 2) (.tup (.cons (.cst (.str [114, 101, 97, 108])) (.cons (.cst (.str [45, 48])) .nil))) (.tup (.cons (.cst (.str [114, 101, 97, 108])) (.cons (.cst (.int 0)) (.cons (.cst (.int 0)) .nil)))))) .nil) .nil) (.cons (.ret (.tup (.cons (.cst (.str [114, 101, 97, 108])) (.cons (.ite (.var 2) (.neg (.var 0)) (.var 0)) (.cons (.var 1) .nil))))) .nil)))⟩
def c_law_v_real (g0 g1 g2 : Nat) : Fn := ⟨2, 10, (.cons (.asg (.tp (.cons (.nm 3) (.cons (.nm 4) (.cons (.nm 5) .nil)))) (.call g0 (.cons (.var 0) .nil))) (.cons (.asg (.nm 2) (.bin .shl (.cst (.int 1)) (.bin .add (.bin .sub (.var 3) (.cst (.int 1))) (.var 5)))) (.cons (.asg (.tp (.cons (.nm 6) (.cons (.nm 7) .nil))) (.tup (.cons (.bin .shl (.bin .sub (.bin .shl (.cst (.int 1)) (.var 5)) (.cst (.int 1))) (.bin .sub (.var 3) (.cst (.int 1)))) (.cons (.bin .mod (.bf .toint (.cons (.var 1) .nil)) (.var 2)) .nil)))) (.cons (.ife (.cmp .gt (.var 7) (.var 6)) (.cons (.ret (.tup (.cons (.cst (.str [114, 101, 97, 108])) (.cons (.cst (.str [110, 97, 110])) .nil)))) .nil) .nil) (.cons (.ife (.cmp .eq (.var 7) (.var 6)) (.cons (.ret (.ite (.cmp .ge (.var 1) (.var 2)) (.tup (.cons (.cst (.str [114, 101, 97, 108])) (.cons (.cst (.str [45, 105, 110, 102])) .nil))) (.tup (.cons (.cst (.str [114, 101, 97, 108])) (.cons (.cst (.str [105, 110, 102])) .nil))))) .nil) .nil) (.cons (.asg (.tp (.cons (.nm 8) (.cons (.nm 9) .nil))) (.call g1 (.cons (.var 0) (.cons (.var 7) .nil)))) (.cons (.ret (.call g2 (.cons (.var 8) (.cons (.var 9) (.cons (.cmp .ge (.var 1) (.var 2)) .nil))))) .nil)))))))⟩
def c_law_v_digits : Fn := ⟨3, 5, (.cons (.asg (.nm 3) (.bfc .totup (.mk [4] (.nm 4) (.rng1 (.cons (.var 1) .nil)) .nil (.bin .mod (.bin .fdiv (.var 0) (.bin .shl (.cst (.int 1)) (.bin .mul (.cst (.int 8)) (.var 4)))) (.cst (.int 256)))))) (.cons (.ret (.ite (.var 2) (.rev (.var 3)) (.var 3))) .nil))⟩
def c_number_from : Fn := ⟨2, 4, (.cons (.asg (.nm 2) (.cst (.int 0))) (.cons (.for (.nm 3) (.of (.ite (.var 1) (.var 0) (.rev (.var 0)))) (.cons (.asg (.nm 2) (.bin .add (.bin .mul (.var 2) (.cst (.int 256))) (.var 3))) .nil)) (.cons (.ret (.var 2)) .nil)))⟩
def c_as_real : Fn := ⟨2, 3, (.cons (.ife (.cmp .eq (.var 0) (.cst (.int 0))) (.cons (.ret (.tup (.cons (.cst (.str [114, 101, 97, 108])) (.cons (.cst (.int 0)) (.cons (.cst (.int 0)) .nil))))) .nil) .nil) (.cons (.asg (.nm 2) (.bin .sub (.mt .bits (.bin .band (.var 0) (.neg (.var 0))) .nil) (.cst (.int 1)))) (.cons (.ret (.tup (.cons (.cst (.str [114, 101, 97, 108])) (.cons (.bin .shr (.var 0) (.var 2)) (.cons (.bin .add (.var 1) (.var 2)) .nil))))) .nil)))⟩
def c_real_from_bits (g0 k0 k1 : Nat) : Fn := ⟨2, 10, (.cons (.asg (.tp (.cons (.nm 5) (.cons (.nm 6) (.cons (.nm 7) .nil)))) (.sub (.cst (.kd k0)) (.var 1))) (.cons (.asg (.nm 2) (.bin .sub (.bin .shl (.cst (.int 1)) (.sub (.cst (.kd k1)) (.var 1))) (.cst (.int 1)))) (.cons (.asg (.nm 3) (.bin .band (.var 0) (.bin .sub (.bin .shl (.cst (.int 1)) (.bin .sub (.var 5) (.cst (.int 1)))) (.cst (.int 1))))) (.cons (.asg (.tp (.cons (.nm 8) (.cons (.nm 9) .nil))) (.tup (.cons (.bin .band (.bin .shr (.var 0) (.bin .sub (.var 5) (.cst (.int 1)))) (.var 2)) (.cons (.cmp .eq (.bin .shr (.var 0) (.bin .add (.bin .sub (.var 5) (.cst (.int 1))) (.sub (.cst (.kd k1)) (.var 1)))) (.cst (.int 1))) .nil)))) (.cons (.ife (.cmp .eq (.var 8) (.var 2)) (.cons (.ret (.ite (.cmp .gt (.var 3) (.cst (.int 0))) (.tup (.cons (.cst (.str [114, 101, 97, 108])) (.cons (.cst (.str [110, 97, 110])) .nil))) (.tup (.cons (.cst (.str [114, 101, 97, 108])) (.cons (.sub (.lst (.cons (.cst (.str [105, 110, 102])) (.cons (.cst (.str [45, 105, 110, 102])) .nil))) (.bf .toint (.cons (.var 9) .nil))) .nil))))) .nil) .nil) (.cons (.asg (.nm 4) (.bin .add (.var 3) (.bin .mul (.bin .shl (.cst (.int 1)) (.bin .sub (.var 5) (.cst (.int 1)))) (.bf .toint (.cons (.cmp .gt (.var 8) (.cst (.int 0))) .nil))))) (.cons (.ife (.cmp .eq (.var 4) (.cst (.int 0))) (.cons (.ret (.ite (.var 9) (.tup (.cons (.cst (.str [114, 101, 97, 108])) (.cons (.cst (.str [45, 48])) .nil))) (.tup (.cons (.cst (.str [114, 101, 97, 108])) (.cons (.cst (.int 0)) (.cons (.cst (.int 0)) .nil)))))) .nil) .nil) (.cons (.ret (.call g0 (.cons (.ite (.var 9) (.neg (.var 4)) (.var 4)) (.cons (.bin .sub (.bin .add (.var 6) (.bf .max (.cons (.var 8) (.cons (.cst (.int 1)) .nil)))) (.cst (.int 1))) .nil)))) .nil))))))))⟩
def c_value_of (g0 g1 : Nat) : Fn := ⟨3, 4, (.cons (.ife (.cmp .inn (.var 0) (.tup (.cons (.cst (.str [99])) (.cons (.cst (.str [115])) .nil)))) (.cons (.ret (.var 1)) .nil) .nil) (.cons (.ife (.cmp .eq (.var 0) (.cst (.str [112]))) (.cons (.ret (.ite (.cmp .ne (.var 1) (.tup .nil)) (.slc (.var 1) (.idx (.cst (.int 1))) (.idx (.bin .add (.cst (.int 1)) (.bf .min (.cons (.sub (.var 1) (.cst (.int 0))) (.cons (.bin .sub (.bf .len (.cons (.var 1) .nil)) (.cst (.int 1))) .nil)))))) (.tup .nil))) .nil) .nil) (.cons (.ife (.cmp .eq (.var 0) (.cst (.str [63]))) (.cons (.ret (.cmp .ne (.var 1) (.tup (.cons (.cst (.int 0)) .nil)))) .nil) .nil) (.cons (.asg (.nm 3) (.call g0 (.cons (.var 1) (.cons (.var 2) .nil)))) (.cons (.ife (.cmp .inn (.var 0) (.cst (.tup [.str [101], .str [102], .str [100]]))) (.cons (.ret (.call g1 (.cons (.var 3) (.cons (.var 0) .nil)))) .nil) .nil) (.cons (.ret (.ite (.and (.cmp .inn (.var 0) (.cst (.tup [.str [98], .str [104], .str [105], .str [108], .str [113], .str [110]]))) (.cmp .gt (.sub (.var 1) (.ite (.not (.var 2)) (.neg (.cst (.int 1))) (.cst (.int 0)))) (.cst (.int 127)))) (.bin .sub (.var 3) (.bin .shl (.cst (.int 1)) (.bin .mul (.cst (.int 8)) (.bf .len (.cons (.var 1) .nil))))) (.var 3))) .nil))))))⟩
def c_code_of (k0 : Nat) : Fn := ⟨1, 2, (.cons (.ife (.not (.bf .isinst (.cons (.var 0) (.cons (.cst (.ty .str)) .nil)))) (.cons (.ret (.cst (.non))) .nil) .nil) (.cons (.asg (.nm 1) (.ite (.cmp .eq (.slc (.var 0) (.cst .non) (.idx (.cst (.int 1)))) (.cst (.str [64]))) (.slc (.var 0) (.idx (.cst (.int 1))) (.cst .non)) (.var 0))) (.cons (.ret (.ite (.and (.cmp .inn (.var 1) (.cst (.kd k0))) (.cmp .notin (.var 1) (.cst (.tup [.str [120], .str [115], .str [112]])))) (.var 1) (.cst (.non)))) .nil)))⟩
def c_native_code (g0 : Nat) : Fn := ⟨1, 2, (.cons (.asg (.nm 1) (.call g0 (.cons (.var 0) .nil))) (.cons (.ife (.cmp .is (.var 1) (.cst (.non))) (.cons (.raise) .nil) .nil) (.cons (.ret (.var 1)) .nil)))⟩
def c_read_item (g0 g1 : Nat) : Fn := ⟨2, 3, (.cons (.ret (.call g0 (.cons (.call g1 (.cons (.var 0) .nil)) (.cons (.bfc .totup (.mk [2] (.nm 2) (.of (.var 1)) .nil (.bf .toint (.cons (.var 2) .nil)))) (.cons (.cst (.bl false)) .nil))))) .nil)⟩
def c_fits_double : Fn := ⟨2, 2, (.cons (.ife (.or (.bf .isinst (.cons (.var 0) (.cons (.cst (.ty .bool)) .nil))) (.or (.bf .isinst (.cons (.var 1) (.cons (.cst (.ty .bool)) .nil))) (.cmp .eq (.bin .mod (.var 0) (.cst (.int 2))) (.cst (.int 0))))) (.cons (.ret (.and (.not (.bf .isinst (.cons (.var 0) (.cons (.cst (.ty .bool)) .nil)))) (.and (.not (.bf .isinst (.cons (.var 1) (.cons (.cst (.ty .bool)) .nil)))) (.and (.cmp .eq (.var 0) (.cst (.int 0))) (.cmp .eq (.var 1) (.cst (.int 0))))))) .nil) .nil) (.cons (.ret (.and (.cmp .le (.mt .bits (.var 0) .nil) (.cst (.int 53))) (.and (.cmp .ge (.var 1) (.neg (.cst (.int 1074)))) (.cmp .le (.bin .add (.mt .bits (.var 0) .nil) (.var 1)) (.cst (.int 1024)))))) .nil))⟩
def c_is_integer : Fn := ⟨1, 1, (.cons (.ret (.bf .isinst (.cons (.var 0) (.cons (.cst (.ty .int)) .nil)))) .nil)⟩
def c_is_real (g0 g1 : Nat) : Fn := ⟨1, 1, (.cons (.ife (.or (.not (.bf .isinst (.cons (.var 0) (.cons (.cst (.ty .tuple)) .nil)))) (.or (.cmp .notin (.bf .len (.cons (.var 0) .nil)) (.tup (.cons (.cst (.int 2)) (.cons (.cst (.int 3)) .nil)))) (.or (.not (.bf .isinst (.cons (.sub (.var 0) (.cst (.int 0))) (.cons (.cst (.ty .str)) .nil)))) (.cmp .ne (.sub (.var 0) (.cst (.int 0))) (.cst (.str [114, 101, 97, 108])))))) (.cons (.ret (.cst (.bl false))) .nil) .nil) (.cons (.ife (.cmp .eq (.bf .len (.cons (.var 0) .nil)) (.cst (.int 2))) (.cons (.ret (.and (.bf .isinst (.cons (.sub (.var 0) (.cst (.int 1))) (.cons (.cst (.ty .str)) .nil))) (.cmp .inn (.sub (.var 0) (.cst (.int 1))) (.cst (.tup [.str [45, 48], .str [105, 110, 102], .str [45, 105, 110, 102], .str [110, 97, 110]]))))) .nil) .nil) (.cons (.ret (.and (.call g1 (.cons (.sub (.var 0) (.cst (.int 1))) .nil)) (.and (.call g1 (.cons (.sub (.var 0) (.cst (.int 2))) .nil)) (.call g0 (.cons (.sub (.var 0) (.cst (.int 1))) (.cons (.sub (.var 0) (.cst (.int 2))) .nil)))))) .nil)))⟩
def c_law_same (g0 : Nat) : Fn := ⟨2, 4, (.cons (.ife (.bf .isinst (.cons (.var 1) (.cons (.tup (.cons (.cst (.ty .list)) (.cons (.cst (.ty .tuple)) .nil))) .nil))) (.cons (.ife (.or (.cmp .ne (.bf .isinst (.cons (.var 0) (.cons (.cst (.ty .list)) .nil))) (.bf .isinst (.cons (.var 1) (.cons (.cst (.ty .list)) .nil)))) (.cmp .ne (.bf .isinst (.cons (.var 0) (.cons (.cst (.ty .tuple)) .nil))) (.bf .isinst (.cons (.var 1) (.cons (.cst (.ty .tuple)) .nil))))) (.cons (.ret (.cst (.bl false))) .nil) .nil) (.cons (.ret (.and (.cmp .eq (.bf .len (.cons (.var 0) .nil)) (.bf .len (.cons (.var 1) .nil))) (.bfc .all (.mk [2, 3] (.tp (.cons (.nm 2) (.cons (.nm 3) .nil))) (.zip (.cons (.var 0) (.cons (.var 1) .nil))) .nil (.call g0 (.cons (.var 2) (.cons (.var 3) .nil))))))) .nil)) .nil) (.cons (.ife (.bf .isinst (.cons (.var 1) (.cons (.cst (.ty .int)) .nil))) (.cons (.ret (.and (.bf .isinst (.cons (.var 0) (.cons (.cst (.ty .int)) .nil))) (.and (.cmp .eq (.bf .isinst (.cons (.var 0) (.cons (.cst (.ty .bool)) .nil))) (.bf .isinst (.cons (.var 1) (.cons (.cst (.ty .bool)) .nil)))) (.cmp .eq (.var 0) (.var 1))))) .nil) .nil) (.cons (.ret (.and (.cmp .eq (.var 0) (.var 1)) (.cmp .is (.bf .isinst (.cons (.var 0) (.cons (.tup (.cons (.cst (.ty .int)) (.cons (.cst (.ty .list)) (.cons (.cst (.ty .tuple)) .nil)))) .nil))) (.cst (.bl false))))) .nil)))⟩
def c_is_byte : Fn := ⟨1, 1, (.cons (.ret (.and (.bf .isinst (.cons (.var 0) (.cons (.cst (.ty .int)) .nil))) (.cmp2 .le .lt (.cst (.int 0)) (.var 0) (.cst (.int 256))))) .nil)⟩
def c_is_bytes (g0 : Nat) : Fn := ⟨1, 2, (.cons (.ret (.and (.bf .isinst (.cons (.var 0) (.cons (.cst (.ty .tuple)) .nil))) (.bfc .all (.mk [1] (.nm 1) (.of (.var 0)) .nil (.call g0 (.cons (.var 1) .nil)))))) .nil)⟩
def c_rounded : Fn := ⟨4, 8, (.cons (.asg (.nm 4) (.bf .max (.cons (.bin .sub (.mt .bits (.var 0) .nil) (.var 2)) (.cons (.bin .sub (.var 3) (.var 1)) .nil)))) (.cons (.ife (.cmp .le (.var 4) (.cst (.int 0))) (.cons (.ret (.tup (.cons (.var 0) (.cons (.var 1) .nil)))) .nil) .nil) (.cons (.asg (.nm 5) (.bin .shr (.var 0) (.var 4))) (.cons (.asg (.tp (.cons (.nm 6) (.cons (.nm 7) .nil))) (.tup (.cons (.bin .sub (.var 0) (.bin .shl (.var 5) (.var 4))) (.cons (.bin .shl (.cst (.int 1)) (.bin .sub (.var 4) (.cst (.int 1)))) .nil)))) (.cons (.ife (.or (.cmp .gt (.var 6) (.var 7)) (.and (.cmp .eq (.var 6) (.var 7)) (.cmp .eq (.bin .mod (.var 5) (.cst (.int 2))) (.cst (.int 1))))) (.cons (.aug 5 .add (.cst (.int 1))) .nil) .nil) (.cons (.ret (.tup (.cons (.var 5) (.cons (.bin .add (.var 1) (.var 4)) .nil)))) .nil))))))⟩
def c_real_of (g0 g1 g2 g3 : Nat) : Fn := ⟨1, 3, (.cons (.ife (.call g0 (.cons (.var 0) .nil)) (.cons (.ret (.var 0)) .nil) .nil) (.cons (.ife (.not (.call g1 (.cons (.var 0) .nil))) (.cons (.raise) .nil) .nil) (.cons (.asg (.tp (.cons (.nm 1) (.cons (.nm 2) .nil))) (.call g2 (.cons (.bf .abs (.cons (.var 0) .nil)) (.cons (.cst (.int 0)) (.cons (.cst (.int 53)) (.cons (.cst (.int 0)) .nil)))))) (.cons (.ife (.cmp .gt (.bin .add (.mt .bits (.var 1) .nil) (.var 2)) (.cst (.int 1024))) (.cons (.raise) .nil) .nil) (.cons (.ret (.call g3 (.cons (.ite (.cmp .gt (.var 0) (.cst (.int 0))) (.var 1) (.neg (.var 1))) (.cons (.var 2) .nil)))) .nil)))))⟩
def c_is_too_large (g0 k0 : Nat) : Fn := ⟨2, 7, (.cons (.ife (.cmp .eq (.bf .len (.cons (.var 0) .nil)) (.cst (.int 2))) (.cons (.ret (.cst (.bl false))) .nil) .nil) (.cons (.asg (.tp (.cons (.nm 2) (.cons (.nm 3) (.cons (.nm 4) .nil)))) (.sub (.cst (.kd k0)) (.var 1))) (.cons (.asg (.tp (.cons (.nm 5) (.cons (.nm 6) .nil))) (.call g0 (.cons (.bf .abs (.cons (.sub (.var 0) (.cst (.int 1))) .nil)) (.cons (.sub (.var 0) (.cst (.int 2))) (.cons (.var 2) (.cons (.var 3) .nil)))))) (.cons (.ret (.and (.cmp .gt (.var 5) (.cst (.int 0))) (.cmp .gt (.bin .add (.mt .bits (.var 5) .nil) (.var 6)) (.var 4)))) .nil))))⟩
def c_float_fault (g0 g1 g2 g3 : Nat) : Fn := ⟨2, 3, (.cons (.ife (.and (.not (.call g1 (.cons (.var 1) .nil))) (.not (.call g0 (.cons (.var 1) .nil)))) (.cons (.ret (.cst (.str [107, 105, 110, 100]))) .nil) .nil) (.cons (.try (.cons (.asg (.nm 2) (.call g2 (.cons (.var 1) .nil))) .nil)) (.cons (.ret (.ite (.call g3 (.cons (.var 2) (.cons (.var 0) .nil))) (.cst (.str [108, 97, 114, 103, 101])) (.cst (.non)))) .nil)))⟩
def c_bounds_of : Fn := ⟨2, 2, (.cons (.ife (.cmp .inn (.var 0) (.cst (.tup [.str [98], .str [104], .str [105], .str [108], .str [113], .str [110]]))) (.cons (.ret (.tup (.cons (.neg (.bin .shl (.cst (.int 1)) (.bin .sub (.bin .mul (.cst (.int 8)) (.var 1)) (.cst (.int 1))))) (.cons (.bin .sub (.bin .shl (.cst (.int 1)) (.bin .sub (.bin .mul (.cst (.int 8)) (.var 1)) (.cst (.int 1)))) (.cst (.int 1))) .nil)))) .nil) .nil) (.cons (.ret (.tup (.cons (.ite (.cmp .eq (.var 0) (.cst (.str [80]))) (.neg (.bin .shl (.cst (.int 1)) (.bin .sub (.bin .mul (.cst (.int 8)) (.var 1)) (.cst (.int 1))))) (.cst (.int 0))) (.cons (.bin .sub (.bin .shl (.cst (.int 1)) (.bin .mul (.cst (.int 8)) (.var 1))) (.cst (.int 1))) .nil)))) .nil))⟩
def c_fault_of (g0 g1 g2 g3 : Nat) : Fn := ⟨3, 5, (.cons (.ife (.cmp .eq (.var 0) (.cst (.str [63]))) (.cons (.ret (.cst (.non))) .nil) .nil) (.cons (.ife (.cmp .eq (.var 0) (.cst (.str [99]))) (.cons (.ret (.ite (.not (.call g0 (.cons (.var 2) .nil))) (.cst (.str [107, 105, 110, 100])) (.ite (.cmp .eq (.bf .len (.cons (.var 2) .nil)) (.cst (.int 1))) (.cst (.non)) (.cst (.str [118, 97, 108, 117, 101]))))) .nil) .nil) (.cons (.ife (.cmp .inn (.var 0) (.cst (.tup [.str [101], .str [102], .str [100]]))) (.cons (.ret (.call g1 (.cons (.var 0) (.cons (.var 2) .nil)))) .nil) .nil) (.cons (.ife (.not (.call g2 (.cons (.var 2) .nil))) (.cons (.ret (.cst (.str [107, 105, 110, 100]))) .nil) .nil) (.cons (.asg (.tp (.cons (.nm 3) (.cons (.nm 4) .nil))) (.call g3 (.cons (.var 0) (.cons (.var 1) .nil)))) (.cons (.ret (.ite (.cmp2 .le .le (.var 3) (.var 2) (.var 4)) (.cst (.non)) (.cst (.str [118, 97, 108, 117, 101])))) .nil))))))⟩
def c_truth (g0 : Nat) : Fn := ⟨1, 1, (.cons (.ife (.call g0 (.cons (.var 0) .nil)) (.cons (.ret (.cmp .notin (.var 0) (.tup (.cons (.tup (.cons (.cst (.str [114, 101, 97, 108])) (.cons (.cst (.int 0)) (.cons (.cst (.int 0)) .nil)))) (.cons (.tup (.cons (.cst (.str [114, 101, 97, 108])) (.cons (.cst (.str [45, 48])) .nil))) .nil))))) .nil) .nil) (.cons (.ret (.and (.not (.and (.bf .isinst (.cons (.var 0) (.cons (.tup (.cons (.cst (.ty .int)) (.cons (.cst (.ty .str)) (.cons (.cst (.ty .tuple)) (.cons (.cst (.ty .list)) .nil))))) .nil))) (.cmp .inn (.var 0) (.tup (.cons (.cst (.int 0)) (.cons (.cst (.str [])) (.cons (.tup .nil) (.cons (.lst .nil) .nil)))))))) (.cmp .isnot (.var 0) (.cst (.non))))) .nil))⟩
def c_placed : Fn := ⟨3, 3, (.cons (.ret (.ite (.cmp .eq (.mt .bits (.var 0) .nil) (.var 2)) (.tup (.cons (.bin .add (.var 1) (.cst (.int 1))) (.cons (.bin .sub (.var 0) (.bin .shl (.cst (.int 1)) (.bin .sub (.var 2) (.cst (.int 1))))) .nil))) (.tup (.cons (.cst (.int 0)) (.cons (.var 0) .nil))))) .nil)⟩
def c_bits_of (g0 g1 g2 k0 k1 : Nat) : Fn := ⟨2, 12, (.cons (.asg (.tp (.cons (.nm 4) (.cons (.nm 5) (.cons (.nm 6) .nil)))) (.sub (.cst (.kd k0)) (.var 1))) (.cons (.asg (.nm 2) (.bin .sub (.bin .shl (.cst (.int 1)) (.sub (.cst (.kd k1)) (.var 1))) (.cst (.int 1)))) (.cons (.asg (.nm 3) (.bf .toint (.cons (.ite (.cmp .eq (.bf .len (.cons (.var 0) .nil)) (.cst (.int 2))) (.cmp .inn (.sub (.var 0) (.cst (.int 1))) (.tup (.cons (.cst (.str [45, 48])) (.cons (.cst (.str [45, 105, 110, 102])) .nil)))) (.cmp .lt (.sub (.var 0) (.cst (.int 1))) (.cst (.int 0)))) .nil))) (.cons (.asg (.tp (.cons (.nm 7) (.cons (.nm 8) .nil))) (.tup (.cons (.cst (.int 0)) (.cons (.cst (.int 0)) .nil)))) (.cons (.ife (.cmp .eq (.var 0) (.tup (.cons (.cst (.str [114, 101, 97, 108])) (.cons (.cst (.str [110, 97, 110])) .nil)))) (.cons (.asg (.tp (.cons (.nm 7) (.cons (.nm 8) .nil))) (.tup (.cons (.var 2) (.cons (.bin .shl (.cst (.int 1)) (.bin .sub (.var 4) (.cst (.int 2)))) .nil)))) .nil) (.cons (.ife (.or (.cmp .inn (.sub (.var 0) (.cst (.int 1))) (.tup (.cons (.cst (.str [105, 110, 102])) (.cons (.cst (.str [45, 105, 110, 102])) .nil)))) (.call g0 (.cons (.var 0) (.cons (.var 1) .nil)))) (.cons (.asg (.nm 7) (.var 2)) .nil) (.cons (.ife (.cmp .eq (.bf .len (.cons (.var 0) .nil)) (.cst (.int 3))) (.cons (.asg (.tp (.cons (.nm 10) (.cons (.nm 11) .nil))) (.call g1 (.cons (.bf .abs (.cons (.sub (.var 0) (.cst (.int 1))) .nil)) (.cons (.sub (.var 0) (.cst (.int 2))) (.cons (.var 4) (.cons (.var 5) .nil)))))) (.cons (.asg (.nm 9) (.bf .min (.cons (.bin .sub (.var 4) (.mt .bits (.var 10) .nil)) (.cons (.bin .sub (.var 11) (.var 5)) .nil)))) (.cons (.asg (.tp (.cons (.nm 7) (.cons (.nm 8) .nil))) (.call g2 (.cons (.ite (.cmp .gt (.var 9) (.cst (.int 0))) (.bin .shl (.var 10) (.var 9)) (.bin .shr (.var 10) (.neg (.var 9)))) (.cons (.bin .sub (.bin .sub (.var 11) (.var 9)) (.var 5)) (.cons (.var 4) .nil))))) .nil))) .nil) .nil)) .nil)) (.cons (.ret (.bin .add (.bin .shl (.bin .add (.bin .shl (.var 3) (.sub (.cst (.kd k1)) (.var 1))) (.var 7)) (.bin .sub (.var 4) (.cst (.int 1)))) (.var 8))) .nil))))))⟩
def c_digits_of : Fn := ⟨3, 5, (.cons (.asg (.nm 3) (.lst .nil)) (.cons (.for (.nm 4) (.rng1 (.cons (.var 1) .nil)) (.cons (.expr (.mt .append (.var 3) (.cons (.bin .mod (.var 0) (.cst (.int 256))) .nil))) (.cons (.aug 0 .fdiv (.cst (.int 256))) .nil))) (.cons (.ret (.ite (.var 2) (.bf .totup (.cons (.rev (.var 3)) .nil)) (.bf .totup (.cons (.var 3) .nil)))) .nil)))⟩
def c_bytes_of_value (g0 g1 g2 g3 : Nat) : Fn := ⟨4, 6, (.cons (.ife (.cmp .eq (.var 0) (.cst (.str [99]))) (.cons (.ret (.bfc .totup (.mk [5] (.nm 5) (.of (.var 2)) .nil (.bf .toint (.cons (.var 5) .nil))))) .nil) .nil) (.cons (.ife (.cmp .eq (.var 0) (.cst (.str [63]))) (.cons (.ret (.tup (.cons (.bf .toint (.cons (.call g0 (.cons (.var 2) .nil)) .nil)) .nil))) .nil) .nil) (.cons (.asg (.nm 4) (.ite (.cmp .inn (.var 0) (.cst (.tup [.str [101], .str [102], .str [100]]))) (.call g1 (.cons (.call g2 (.cons (.var 2) .nil)) (.cons (.var 0) .nil))) (.bin .mod (.bf .toint (.cons (.var 2) .nil)) (.bin .shl (.cst (.int 1)) (.bin .mul (.cst (.int 8)) (.var 1)))))) (.cons (.ret (.call g3 (.cons (.var 4) (.cons (.var 1) (.cons (.var 3) .nil))))) .nil))))⟩
def c_item_bytes (g0 g1 g2 k0 : Nat) : Fn := ⟨2, 4, (.cons (.asg (.nm 2) (.call g0 (.cons (.var 0) .nil))) (.cons (.asg (.nm 3) (.call g1 (.cons (.var 2) (.cons (.sub (.cst (.kd k0)) (.var 2)) (.cons (.var 1) .nil))))) (.cons (.ife (.cmp .eq (.var 3) (.cst (.str [107, 105, 110, 100]))) (.cons (.raise) .nil) .nil) (.cons (.ife (.or (.cmp .eq (.var 3) (.cst (.str [118, 97, 108, 117, 101]))) (.and (.cmp .eq (.var 3) (.cst (.str [108, 97, 114, 103, 101]))) (.cmp .eq (.var 2) (.cst (.str [101]))))) (.cons (.raise) .nil) .nil) (.cons (.ret (.call g2 (.cons (.var 2) (.cons (.sub (.cst (.kd k0)) (.var 2)) (.cons (.var 1) (.cons (.cst (.bl false)) .nil)))))) .nil)))))⟩
def c_law_is_right (g0 g1 g2 g3 g4 g5 g6 g7 : Nat) : Fn := ⟨2, 10, (.cons (.asg (.nm 2) (.sub (.call g0 (.cons (.cst (.str [64])) .nil)) (.var 0))) (.cons (.asg (.tp (.cons (.nm 5) (.cons (.nm 6) .nil))) (.tup (.cons (.call g2 (.cons (.var 1) (.cons (.var 2) (.cons (.cst (.bl false)) .nil)))) (.cons (.call g1 (.cons (.var 0) (.cons (.var 1) .nil))) .nil)))) (.cons (.asg (.nm 3) (.call g3 (.cons (.var 0) (.cons (.var 5) .nil)))) (.cons (.ife (.or (.not (.call g5 (.cons (.var 3) (.cons (.var 6) .nil)))) (.cmp .isnot (.call g4 (.cons (.var 3) .nil)) (.cst (.bl true)))) (.cons (.ret (.cst (.bl false))) .nil) .nil) (.cons (.asg (.tp (.cons (.nm 7) (.cons (.nm 8) (.cons (.nm 9) .nil)))) (.call g6 (.cons (.var 0) .nil))) (.cons (.asg (.nm 4) (.call g2 (.cons (.bin .add (.bin .shl (.bin .sub (.bin .shl (.cst (.int 1)) (.var 9)) (.cst (.int 1))) (.bin .sub (.var 7) (.cst (.int 1)))) (.bin .shl (.cst (.int 1)) (.bin .sub (.var 7) (.cst (.int 2))))) (.cons (.var 2) (.cons (.cst (.bl false)) .nil))))) (.cons (.ret (.call g5 (.cons (.call g7 (.cons (.var 0) (.cons (.var 3) .nil))) (.cons (.ite (.cmp .eq (.var 6) (.tup (.cons (.cst (.str [114, 101, 97, 108])) (.cons (.cst (.str [110, 97, 110])) .nil)))) (.var 4) (.var 5)) .nil)))) .nil)))))))⟩
def c_count_from : Fn := ⟨2, 3, (.cons (.asg (.nm 2) (.var 1)) (.cons (.whl (.and (.cmp .lt (.var 2) (.bf .len (.cons (.var 0) .nil))) (.cmp .inn (.sub (.var 0) (.var 2)) (.cst (.str [48, 49, 50, 51, 52, 53, 54, 55, 56, 57])))) (.cons (.aug 2 .add (.cst (.int 1))) .nil)) (.cons (.ret (.tup (.cons (.ite (.cmp .gt (.var 2) (.var 1)) (.bf .toint (.cons (.slc (.var 0) (.idx (.var 1)) (.idx (.var 2))) .nil)) (.cst (.int 1))) (.cons (.var 2) .nil)))) .nil)))⟩
def c_field_of : Fn := ⟨4, 5, (.cons (.ife (.cmp .eq (.var 0) (.cst (.str [120]))) (.cons (.ret (.tup (.cons (.lst .nil) (.cons (.bin .add (.var 3) (.var 2)) .nil)))) .nil) .nil) (.cons (.ife (.cmp .inn (.var 0) (.tup (.cons (.cst (.str [115])) (.cons (.cst (.str [112])) .nil)))) (.cons (.ret (.tup (.cons (.lst (.cons (.tup (.cons (.var 0) (.cons (.var 3) (.cons (.var 2) .nil)))) .nil)) (.cons (.bin .add (.var 3) (.var 2)) .nil)))) .nil) .nil) (.cons (.ret (.tup (.cons (.lc (.mk [4] (.nm 4) (.rng1 (.cons (.var 2) .nil)) .nil (.tup (.cons (.var 0) (.cons (.bin .add (.var 3) (.bin .mul (.var 1) (.var 4))) (.cons (.var 1) .nil)))))) (.cons (.bin .add (.var 3) (.bin .mul (.var 1) (.var 2))) .nil)))) .nil)))⟩
def c_read_layout (g0 g1 k0 k1 : Nat) : Fn := ⟨1, 9, (.cons (.ife (.not (.bf .isinst (.cons (.var 0) (.cons (.cst (.ty .str)) .nil)))) (.cons (.raise) .nil) .nil) (.cons (.asg (.nm 1) (.ite (.cmp .inn (.slc (.var 0) (.cst .non) (.idx (.cst (.int 1)))) (.cst (.tup [.str [64], .str [61], .str [60], .str [62], .str [33]]))) (.sub (.var 0) (.cst (.int 0))) (.cst (.str [64])))) (.cons (.asg (.nm 2) (.ite (.cmp .eq (.var 1) (.cst (.str [64]))) (.bf .todict (.cons (.cst (.kd k0)) .nil)) (.bf .todict (.cons (.cst (.kd k1)) .nil)))) (.cons (.asg (.tp (.cons (.nm 3) (.cons (.nm 4) (.cons (.nm 5) .nil)))) (.tup (.cons (.bf .toint (.cons (.cmp .inn (.slc (.var 0) (.cst .non) (.idx (.cst (.int 1)))) (.cst (.tup [.str [64], .str [61], .str [60], .str [62], .str [33]]))) .nil)) (.cons (.cst (.int 0)) (.cons (.lst .nil) .nil))))) (.cons (.whl (.cmp .lt (.var 3) (.bf .len (.cons (.var 0) .nil))) (.cons (.ife (.cmp .eq (.sub (.var 0) (.var 3)) (.cst (.str [32]))) (.cons (.aug 3 .add (.cst (.int 1))) (.cons (.cont) .nil)) .nil) (.cons (.asg (.tp (.cons (.nm 7) (.cons (.nm 3) .nil))) (.call g0 (.cons (.var 0) (.cons (.var 3) .nil)))) (.cons (.ife (.or (.cmp .eq (.var 3) (.bf .len (.cons (.var 0) .nil))) (.cmp .notin (.sub (.var 0) (.var 3)) (.var 2))) (.cons (.raise) .nil) .nil) (.cons (.asg (.nm 6) (.sub (.var 2) (.sub (.var 0) (.var 3)))) (.cons (.ife (.cmp .eq (.var 1) (.cst (.str [64]))) (.cons (.aug 4 .add (.bin .mod (.neg (.var 4)) (.var 6))) .nil) .nil) (.cons (.asg (.tp (.cons (.nm 8) (.cons (.nm 4) .nil))) (.call g1 (.cons (.sub (.var 0) (.var 3)) (.cons (.var 6) (.cons (.var 7) (.cons (.var 4) .nil)))))) (.cons (.expr (.mt .extend (.var 5) (.cons (.var 8) .nil))) (.cons (.aug 3 .add (.cst (.int 1))) .nil))))))))) (.cons (.ret (.tup (.cons (.cmp .inn (.var 1) (.tup (.cons (.cst (.str [62])) (.cons (.cst (.str [33])) .nil)))) (.cons (.var 4) (.cons (.var 5) .nil))))) .nil))))))⟩
def c_calcsize (g0 : Nat) : Fn := ⟨1, 1, (.cons (.ret (.sub (.call g0 (.cons (.var 0) .nil)) (.cst (.int 1)))) .nil)⟩
def c_law_v_layout (g0 g1 : Nat) : Fn := ⟨3, 8, (.cons (.asg (.nm 3) (.call g0 (.cons (.var 0) (.cons (.lst (.cons (.cst (.str [])) (.cons (.cst (.str [64])) (.cons (.cst (.str [61])) (.cons (.cst (.str [60])) (.cons (.cst (.str [62])) (.cons (.cst (.str [33])) .nil))))))) .nil)))) (.cons (.asg (.nm 4) (.lc (.mk [7] (.nm 7) (.of (.var 2)) (.cons (.or (.cmp .inn (.var 3) (.tup (.cons (.cst (.str [])) (.cons (.cst (.str [64])) .nil)))) (.cmp .notin (.var 7) (.cst (.str [110, 78, 80])))) .nil) (.var 7)))) (.cons (.for (.nm 5) (.rng1 (.cons (.call g1 (.cons (.var 0) (.cons (.bin .add (.var 1) (.cst (.int 1))) .nil))) .nil)) (.cons (.asg (.nm 6) (.call g0 (.cons (.var 0) (.cons (.lst (.cons (.cst (.str [])) (.cons (.cst (.str [])) (.cons (.cst (.str [])) (.cons (.cst (.str [48])) (.cons (.cst (.str [49])) (.cons (.cst (.str [50])) (.cons (.cst (.str [51])) (.cons (.cst (.str [48, 50])) (.cons (.bf .tostr (.cons (.call g1 (.cons (.var 0) (.cons (.cst (.int 12)) .nil))) .nil)) .nil)))))))))) .nil)))) (.cons (.asg (.nm 3) (.bin .add (.bin .add (.bin .add (.var 3) (.bin .mul (.cst (.str [32])) (.bin .fdiv (.call g1 (.cons (.var 0) (.cons (.cst (.int 5)) .nil))) (.cst (.int 3))))) (.var 6)) (.call g0 (.cons (.var 0) (.cons (.var 4) .nil))))) .nil))) (.cons (.ret (.bin .add (.var 3) (.bin .mul (.cst (.str [32])) (.bf .toint (.cons (.cmp .eq (.call g1 (.cons (.var 0) (.cons (.cst (.int 6)) .nil))) (.cst (.int 0))) .nil))))) .nil))))⟩
def c_law_v_codes : Fn := ⟨0, 0, (.cons (.ret (.cst (.str [120, 99, 98, 66, 63, 104, 72, 105, 73, 108, 76, 113, 81, 110, 78, 80, 101, 102, 100, 115, 112]))) .nil)⟩
def c_law_v_read (g0 : Nat) : Fn := ⟨1, 10, (.cons (.asg (.nm 1) (.ite (.cmp .inn (.slc (.var 0) (.cst .non) (.idx (.cst (.int 1)))) (.tup (.cons (.cst (.str [64])) (.cons (.cst (.str [61])) (.cons (.cst (.str [60])) (.cons (.cst (.str [62])) (.cons (.cst (.str [33])) .nil))))))) (.slc (.var 0) (.cst .non) (.idx (.cst (.int 1)))) (.cst (.str [])))) (.cons (.asg (.tp (.cons (.nm 3) (.cons (.nm 4) (.cons (.nm 5) (.cons (.nm 6) .nil))))) (.tup (.cons (.call g0 (.cons (.var 1) .nil)) (.cons (.cst (.int 0)) (.cons (.lst .nil) (.cons (.cst (.str [])) .nil)))))) (.cons (.for (.nm 2) (.rng2 (.cons (.bf .len (.cons (.var 1) .nil)) (.cons (.bf .len (.cons (.var 0) .nil)) .nil))) (.cons (.asg (.nm 7) (.sub (.var 0) (.var 2))) (.cons (.ife (.cmp .inn (.var 7) (.cst (.str [48, 49, 50, 51, 52, 53, 54, 55, 56, 57]))) (.cons (.asg (.nm 6) (.bin .add (.var 6) (.var 7))) .nil) (.cons (.ife (.and (.cmp .notin (.var 7) (.var 3)) (.or (.cmp .ne (.var 7) (.cst (.str [32]))) (.cmp .ne (.var 6) (.cst (.str []))))) (.cons (.ret (.var 2)) .nil) (.cons (.ife (.cmp .ne (.var 7) (.cst (.str [32]))) (.cons (.asg (.nm 8) (.ite (.cmp .ne (.var 6) (.cst (.str []))) (.bf .toint (.cons (.var 6) .nil)) (.cst (.int 1)))) (.cons (.whl (.and (.cmp .inn (.var 1) (.tup (.cons (.cst (.str [])) (.cons (.cst (.str [64])) .nil)))) (.cmp .gt (.bin .mod (.bf .toint (.cons (.var 4) .nil)) (.sub (.var 3) (.var 7))) (.cst (.int 0)))) (.cons (.asg (.nm 4) (.bin .add (.var 4) (.cst (.int 1)))) .nil)) (.cons (.for (.nm 9) (.rng1 (.cons (.ite (.cmp .inn (.var 7) (.tup (.cons (.cst (.str [115])) (.cons (.cst (.str [112])) .nil)))) (.cst (.int 1)) (.bin .mul (.var 8) (.bf .toint (.cons (.cmp .ne (.var 7) (.cst (.str [120]))) .nil)))) .nil)) (.cons (.expr (.mt .append (.var 5) (.cons (.tup (.cons (.var 7) (.cons (.bin .add (.var 4) (.bin .mul (.var 9) (.sub (.var 3) (.var 7)))) (.cons (.ite (.cmp .inn (.var 7) (.tup (.cons (.cst (.str [115])) (.cons (.cst (.str [112])) .nil)))) (.var 8) (.sub (.var 3) (.var 7))) .nil)))) .nil))) .nil)) (.cons (.asg (.tp (.cons (.nm 4) (.cons (.nm 6) .nil))) (.tup (.cons (.bin .add (.var 4) (.bin .mul (.var 8) (.sub (.var 3) (.var 7)))) (.cons (.cst (.str [])) .nil)))) .nil)))) .nil) .nil)) .nil)) .nil))) (.cons (.ret (.ite (.cmp .ne (.var 6) (.cst (.str []))) (.bf .len (.cons (.var 0) .nil)) (.tup (.cons (.cmp .inn (.var 1) (.tup (.cons (.cst (.str [62])) (.cons (.cst (.str [33])) .nil)))) (.cons (.var 4) (.cons (.var 5) .nil)))))) .nil))))⟩
def c_fields_of (g0 : Nat) : Fn := ⟨1, 1, (.cons (.ret (.sub (.call g0 (.cons (.var 0) .nil)) (.cst (.int 2)))) .nil)⟩
def c_law_v_drawn_real (g0 g1 g2 g3 g4 g5 : Nat) : Fn := ⟨1, 12, (.cons (.asg (.tp (.cons (.nm 3) (.cons (.nm 4) .nil))) (.tup (.cons (.call g0 (.cons (.var 0) (.cons (.cst (.int 8)) .nil))) (.cons (.cmp .eq (.call g0 (.cons (.var 0) (.cons (.cst (.int 2)) .nil))) (.cst (.int 1))) .nil)))) (.cons (.ife (.cmp .eq (.var 3) (.cst (.int 0))) (.cons (.ret (.call g1 (.cons (.var 0) (.cons (.lst (.cons (.tup (.cons (.cst (.str [114, 101, 97, 108])) (.cons (.cst (.str [45, 48])) .nil))) (.cons (.tup (.cons (.cst (.str [114, 101, 97, 108])) (.cons (.cst (.str [105, 110, 102])) .nil))) (.cons (.tup (.cons (.cst (.str [114, 101, 97, 108])) (.cons (.cst (.str [45, 105, 110, 102])) .nil))) (.cons (.tup (.cons (.cst (.str [114, 101, 97, 108])) (.cons (.cst (.str [110, 97, 110])) .nil))) (.cons (.tup (.cons (.cst (.str [114, 101, 97, 108])) (.cons (.cst (.int 0)) (.cons (.cst (.int 0)) .nil)))) .nil)))))) .nil)))) .nil) .nil) (.cons (.ife (.cmp .eq (.var 3) (.cst (.int 1))) (.cons (.ret (.call g2 (.cons (.call g0 (.cons (.var 0) (.cons (.cst (.int 40)) .nil))) (.cons (.bin .sub (.call g0 (.cons (.var 0) (.cons (.cst (.int 9)) .nil))) (.cst (.int 4))) (.cons (.var 4) .nil))))) .nil) .nil) (.cons (.asg (.nm 1) (.call g1 (.cons (.var 0) (.cons (.cst (.str [101, 101, 102, 102, 102, 100])) .nil)))) (.cons (.asg (.tp (.cons (.nm 5) (.cons (.nm 6) (.cons (.nm 7) .nil)))) (.call g3 (.cons (.var 1) .nil))) (.cons (.asg (.tp (.cons (.nm 8) (.cons (.nm 9) .nil))) (.tup (.cons (.bin .shl (.bin .sub (.bin .shl (.cst (.int 1)) (.var 7)) (.cst (.int 1))) (.bin .sub (.var 5) (.cst (.int 1)))) (.cons (.bin .shl (.cst (.int 1)) (.bin .sub (.var 5) (.cst (.int 1)))) .nil)))) (.cons (.asg (.nm 2) (.call g1 (.cons (.var 0) (.cons (.lst (.cons (.cst (.int 0)) (.cons (.cst (.int 1)) (.cons (.cst (.int 2)) (.cons (.bin .sub (.var 8) (.cst (.int 1))) (.cons (.bin .sub (.var 8) (.cst (.int 2))) (.cons (.var 9) (.cons (.bin .sub (.var 9) (.cst (.int 1))) (.cons (.call g4 (.cons (.var 0) (.cons (.var 8) .nil))) .nil))))))))) .nil)))) (.cons (.asg (.tp (.cons (.nm 10) (.cons (.nm 11) .nil))) (.call g5 (.cons (.var 1) (.cons (.var 2) .nil)))) (.cons (.ife (.or (.cmp .eq (.var 1) (.cst (.str [100]))) (.cmp .lt (.var 3) (.cst (.int 4)))) (.cons (.ret (.call g2 (.cons (.var 10) (.cons (.var 11) (.cons (.var 4) .nil))))) .nil) .nil) (.cons (.ret (.call g2 (.cons (.bin .add (.bin .shl (.bin .add (.bin .mul (.cst (.int 2)) (.var 10)) (.cst (.int 1))) (.cst (.int 20))) (.call g1 (.cons (.var 0) (.cons (.lst (.cons (.cst (.int 0)) (.cons (.cst (.int 0)) (.cons (.cst (.int 1)) (.cons (.neg (.cst (.int 1))) .nil))))) .nil)))) (.cons (.bin .sub (.var 11) (.cst (.int 21))) (.cons (.var 4) .nil))))) .nil))))))))))⟩
def c_law_bent (g0 g1 : Nat) : Fn := ⟨2, 7, (.cons (.asg (.nm 2) (.call g0 (.cons (.var 0) (.cons (.cst (.int 12)) .nil)))) (.cons (.asg (.nm 3) (.lst (.cons (.bf .tolist (.cons (.var 1) .nil)) (.cons (.bin .add (.var 1) (.tup (.cons (.cst (.int 0)) .nil))) (.cons (.slc (.var 1) (.cst .non) (.idx (.neg (.cst (.int 1))))) (.cons (.slc (.var 1) (.idx (.cst (.int 1))) (.cst .non)) (.cons (.bin .add (.tup (.cons (.cst (.str [82, 101, 97, 108])) .nil)) (.slc (.var 1) (.idx (.cst (.int 1))) (.cst .non))) (.cons (.bin .add (.tup (.cons (.tup (.cons (.cst (.str [114, 101, 97, 108])) .nil)) .nil)) (.slc (.var 1) (.idx (.cst (.int 1))) (.cst .non))) .nil)))))))) (.cons (.ife (.cmp .lt (.var 2) (.cst (.int 6))) (.cons (.ret (.sub (.var 3) (.var 2))) .nil) .nil) (.cons (.ife (.or (.cmp .eq (.bf .len (.cons (.var 1) .nil)) (.cst (.int 2))) (.cmp .gt (.var 2) (.cst (.int 9)))) (.cons (.ret (.call g1 (.cons (.var 0) (.cons (.lst (.cons (.var 1) (.cons (.tup (.cons (.cst (.str [114, 101, 97, 108])) (.cons (.cst (.str [43, 48])) .nil))) (.cons (.tup (.cons (.cst (.str [114, 101, 97, 108])) (.cons (.cst (.str [48])) .nil))) (.cons (.tup (.cons (.cst (.str [114, 101, 97, 108])) (.cons (.cst (.str [73, 110, 102])) .nil))) (.cons (.tup (.cons (.cst (.str [114, 101, 97, 108])) (.cons (.cst (.str [])) .nil))) (.cons (.tup (.cons (.cst (.str [114, 101, 97, 108])) (.cons (.cst (.non)) .nil))) .nil))))))) .nil)))) .nil) .nil) (.cons (.asg (.tp (.cons (.nm 5) (.cons (.nm 4) (.cons (.nm 6) .nil)))) (.var 1)) (.cons (.asg (.nm 4) (.call g1 (.cons (.var 0) (.cons (.lst (.cons (.bin .mul (.var 4) (.cst (.int 2))) (.cons (.bin .add (.var 4) (.bin .shl (.cst (.int 1)) (.cst (.int 53)))) (.cons (.bin .sub (.cst (.int 1)) (.bin .shl (.cst (.int 1)) (.cst (.int 53)))) (.cons (.bin .add (.bin .shl (.cst (.int 1)) (.cst (.int 53))) (.cst (.int 1))) (.cons (.cst (.bl true)) (.cons (.bf .tostr (.cons (.var 4) .nil)) (.cons (.cst (.int 0)) (.cons (.neg (.var 4)) (.cons (.var 4) .nil)))))))))) .nil)))) (.cons (.ret (.tup (.cons (.var 5) (.cons (.var 4) (.cons (.ite (.cmp .eq (.var 2) (.cst (.int 6))) (.var 6) (.call g1 (.cons (.var 0) (.cons (.lst (.cons (.var 6) (.cons (.cst (.int 0)) (.cons (.neg (.cst (.int 1074))) (.cons (.neg (.cst (.int 1075))) (.cons (.cst (.int 971)) (.cons (.cst (.int 972)) (.cons (.cst (.int 1023)) (.cons (.cst (.int 1024)) (.cons (.cst (.bl false)) (.cons (.bin .pow (.cst (.int 10)) (.cst (.int 29))) .nil))))))))))) .nil)))) .nil))))) .nil)))))))⟩
def c_law_v_odd (g0 : Nat) : Fn := ⟨1, 2, (.cons (.asg (.nm 1) (.lst (.cons (.cst (.non)) (.cons (.cst (.str [])) (.cons (.cst (.str [97])) (.cons (.cst (.str [97, 98, 99])) (.cons (.tup .nil) (.cons (.tup (.cons (.cst (.int 0)) .nil)) (.cons (.tup (.cons (.cst (.int 1)) (.cons (.cst (.int 2)) .nil))) (.cons (.tup (.cons (.cst (.int 300)) .nil)) (.cons (.tup (.cons (.cst (.non)) .nil)) (.cons (.lst .nil) (.cons (.lst (.cons (.cst (.int 0)) .nil)) (.cons (.cst (.int 5)) (.cons (.neg (.cst (.int 1))) (.cons (.cst (.int 256)) (.cons (.bin .pow (.cst (.int 10)) (.cst (.int 29))) (.cons (.cst (.bl true)) (.cons (.cst (.bl false)) .nil))))))))))))))))))) (.cons (.asg (.nm 1) (.bin .add (.var 1) (.lst (.cons (.tup (.cons (.cst (.str [114, 101, 97, 108])) (.cons (.cst (.int 1)) (.cons (.cst (.int 0)) .nil)))) (.cons (.tup (.cons (.cst (.str [114, 101, 97, 108])) (.cons (.cst (.str [110, 97, 110])) .nil))) (.cons (.tup (.cons (.cst (.str [114, 101, 97, 108])) (.cons (.cst (.str [45, 48])) .nil))) (.cons (.tup (.cons (.cst (.str [114, 101, 97, 108])) (.cons (.cst (.int 2)) (.cons (.cst (.int 0)) .nil)))) (.cons (.tup (.cons (.cst (.str [114, 101, 97, 108])) .nil)) (.cons (.tup (.cons (.cst (.str [114, 101, 97, 108])) (.cons (.cst (.str [120])) .nil))) .nil))))))))) (.cons (.asg (.nm 1) (.bin .add (.var 1) (.lst (.cons (.lst (.cons (.cst (.str [114, 101, 97, 108])) (.cons (.cst (.int 1)) (.cons (.cst (.int 0)) .nil)))) (.cons (.tup (.cons (.cst (.str [114, 101, 97, 108])) (.cons (.cst (.bl true)) (.cons (.cst (.int 0)) .nil)))) (.cons (.tup (.cons (.cst (.str [114, 101, 97, 108])) (.cons (.cst (.int 1)) (.cons (.cst (.bl false)) .nil)))) (.cons (.tup (.cons (.cst (.str [114, 101, 97, 108])) (.cons (.cst (.int 1)) (.cons (.cst (.int 1024)) .nil)))) (.cons (.tup (.cons (.cst (.str [114, 101, 97, 108])) (.cons (.cst (.int 1)) (.cons (.neg (.cst (.int 1075))) .nil)))) .nil)))))))) (.cons (.asg (.nm 1) (.bin .add (.var 1) (.lst (.cons (.tup (.cons (.cst (.str [114, 101, 97, 108])) (.cons (.cst (.int 0)) (.cons (.cst (.int 1)) .nil)))) .nil)))) (.cons (.ret (.call g0 (.cons (.var 0) (.cons (.bin .add (.var 1) (.lst (.cons (.tup (.cons (.cst (.str [114, 101, 97, 108])) (.cons (.cst (.int 3)) (.cons (.neg (.cst (.int 1))) (.cons (.cst (.int 0)) .nil))))) (.cons (.tup (.cons (.cst (.str [82, 101, 97, 108])) (.cons (.cst (.int 1)) (.cons (.cst (.int 0)) .nil)))) (.cons (.tup (.cons (.cst (.str [114, 101, 97, 108])) (.cons (.cst (.non)) .nil))) (.cons (.tup (.cons (.tup (.cons (.cst (.str [114, 101, 97, 108])) (.cons (.cst (.int 1)) (.cons (.cst (.int 0)) .nil)))) .nil)) (.cons (.cst (.int 0)) .nil))))))) .nil)))) .nil)))))⟩
def c_law_v_compared : Fn := ⟨2, 3, (.cons (.asg (.nm 2) (.bf .min (.cons (.sub (.var 0) (.cst (.int 1))) (.cons (.sub (.var 1) (.cst (.int 1))) .nil)))) (.cons (.ret (.bin .sub (.bin .shl (.sub (.var 0) (.cst (.int 0))) (.bin .sub (.sub (.var 0) (.cst (.int 1))) (.var 2))) (.bin .shl (.sub (.var 1) (.cst (.int 0))) (.bin .sub (.sub (.var 1) (.cst (.int 1))) (.var 2))))) .nil))⟩
def c_law_v_is_real (g0 : Nat) : Fn := ⟨1, 4, (.cons (.ife (.or (.not (.bf .isinst (.cons (.var 0) (.cons (.cst (.ty .tuple)) .nil)))) (.or (.cmp .lt (.bf .len (.cons (.var 0) .nil)) (.cst (.int 2))) (.or (.cmp .gt (.bf .len (.cons (.var 0) .nil)) (.cst (.int 3))) (.cmp .ne (.bf .repr (.cons (.sub (.var 0) (.cst (.int 0))) .nil)) (.cst (.str [39, 114, 101, 97, 108, 39])))))) (.cons (.ret (.cst (.bl false))) .nil) .nil) (.cons (.ife (.cmp .eq (.bf .len (.cons (.var 0) .nil)) (.cst (.int 2))) (.cons (.ret (.cmp .inn (.bf .repr (.cons (.sub (.var 0) (.cst (.int 1))) .nil)) (.tup (.cons (.cst (.str [39, 45, 48, 39])) (.cons (.cst (.str [39, 105, 110, 102, 39])) (.cons (.cst (.str [39, 45, 105, 110, 102, 39])) (.cons (.cst (.str [39, 110, 97, 110, 39])) .nil))))))) .nil) .nil) (.cons (.asg (.tp (.cons (.nm 1) (.cons (.nm 2) .nil))) (.slc (.var 0) (.idx (.cst (.int 1))) (.cst .non))) (.cons (.ife (.not (.bfc .all (.mk [3] (.nm 3) (.of (.tup (.cons (.var 1) (.cons (.var 2) .nil)))) .nil (.and (.bf .isinst (.cons (.var 3) (.cons (.cst (.ty .int)) .nil))) (.not (.bf .isinst (.cons (.var 3) (.cons (.cst (.ty .bool)) .nil)))))))) (.cons (.ret (.cst (.bl false))) .nil) .nil) (.cons (.ife (.or (.cmp .eq (.var 1) (.cst (.int 0))) (.or (.cmp .lt (.var 2) (.neg (.cst (.int 1074)))) (.cmp .gt (.var 2) (.cst (.int 1023))))) (.cons (.ret (.and (.cmp .eq (.var 1) (.cst (.int 0))) (.cmp .eq (.var 2) (.cst (.int 0))))) .nil) .nil) (.cons (.ret (.and (.cmp .eq (.bin .mod (.bf .toint (.cons (.var 1) .nil)) (.cst (.int 2))) (.cst (.int 1))) (.and (.cmp .lt (.bf .abs (.cons (.var 1) .nil)) (.bin .shl (.cst (.int 1)) (.cst (.int 53)))) (.cmp .lt (.call g0 (.cons (.tup (.cons (.bf .abs (.cons (.var 1) .nil)) (.cons (.var 2) .nil))) (.cons (.tup (.cons (.cst (.int 1)) (.cons (.cst (.int 1024)) .nil))) .nil))) (.cst (.int 0)))))) .nil))))))⟩
def K_FLOATS : Nat := 0
def t_FLOATS : List (List Nat × W) := [([101], .tup [.int 11, .int (-24), .int 16]), ([102], .tup [.int 24, .int (-149), .int 128]), ([100], .tup [.int 53, .int (-1074), .int 1024])]
def K_WIDTHS : Nat := 1
def t_WIDTHS : List (List Nat × W) := [([101], .int 5), ([102], .int 8), ([100], .int 11)]
def K_NATIVE : Nat := 2
def t_NATIVE : List (List Nat × W) := [([120], .int 1), ([99], .int 1), ([98], .int 1), ([66], .int 1), ([63], .int 1), ([104], .int 2), ([72], .int 2), ([105], .int 4), ([73], .int 4), ([108], .int 8), ([76], .int 8), ([113], .int 8), ([81], .int 8), ([110], .int 8), ([78], .int 8), ([80], .int 8), ([101], .int 2), ([102], .int 4), ([100], .int 8), ([115], .int 1), ([112], .int 1)]
def K_STANDARD : Nat := 3
def t_STANDARD : List (List Nat × W) := [([120], .int 1), ([99], .int 1), ([98], .int 1), ([66], .int 1), ([63], .int 1), ([104], .int 2), ([72], .int 2), ([105], .int 4), ([73], .int 4), ([108], .int 4), ([76], .int 4), ([113], .int 8), ([81], .int 8), ([101], .int 2), ([102], .int 4), ([100], .int 8), ([115], .int 1), ([112], .int 1)]
def F_law_start : Nat := 0
def F_law_draw : Nat := 1
def F_law_pick : Nat := 2
def F_law_v_float : Nat := 3
def F_law_v_great : Nat := 4
def F_law_v_sizes : Nat := 5
def F_law_v_at : Nat := 6
def F_law_v_form : Nat := 7
def F_law_v_real : Nat := 8
def F_law_v_digits : Nat := 9
def F_number_from : Nat := 10
def F_as_real : Nat := 11
def F_real_from_bits : Nat := 12
def F_value_of : Nat := 13
def F_code_of : Nat := 14
def F_native_code : Nat := 15
def F_read_item : Nat := 16
def F_fits_double : Nat := 17
def F_is_integer : Nat := 18
def F_is_real : Nat := 19
def F_law_same : Nat := 20
def F_is_byte : Nat := 21
def F_is_bytes : Nat := 22
def F_rounded : Nat := 23
def F_real_of : Nat := 24
def F_is_too_large : Nat := 25
def F_float_fault : Nat := 26
def F_bounds_of : Nat := 27
def F_fault_of : Nat := 28
def F_truth : Nat := 29
def F_placed : Nat := 30
def F_bits_of : Nat := 31
def F_digits_of : Nat := 32
def F_bytes_of_value : Nat := 33
def F_item_bytes : Nat := 34
def F_law_is_right : Nat := 35
def F_count_from : Nat := 36
def F_field_of : Nat := 37
def F_read_layout : Nat := 38
def F_calcsize : Nat := 39
def F_law_v_layout : Nat := 40
def F_law_v_codes : Nat := 41
def F_law_v_read : Nat := 42
def F_fields_of : Nat := 43
def F_law_v_drawn_real : Nat := 44
def F_law_bent : Nat := 45
def F_law_v_odd : Nat := 46
def F_law_v_compared : Nat := 47
def F_law_v_is_real : Nat := 48
def TAB : List Fn := [c_law_start, c_law_draw, c_law_pick F_law_draw, c_law_v_float, c_law_v_great F_law_draw, c_law_v_sizes, c_law_v_at F_law_v_float, c_law_v_form, c_law_v_real F_law_v_float F_law_v_at F_law_v_form, c_law_v_digits, c_number_from, c_as_real, c_real_from_bits F_as_real K_FLOATS K_WIDTHS, c_value_of F_number_from F_real_from_bits, c_code_of K_NATIVE, c_native_code F_code_of, c_read_item F_value_of F_native_code, c_fits_double, c_is_integer, c_is_real F_fits_double F_is_integer, c_law_same F_law_same, c_is_byte, c_is_bytes F_is_byte, c_rounded, c_real_of F_is_real F_is_integer F_rounded F_as_real, c_is_too_large F_rounded K_FLOATS, c_float_fault F_is_integer F_is_real F_real_of F_is_too_large, c_bounds_of, c_fault_of F_is_bytes F_float_fault F_is_integer F_bounds_of, c_truth F_is_real, c_placed, c_bits_of F_is_too_large F_rounded F_placed K_FLOATS K_WIDTHS, c_digits_of, c_bytes_of_value F_truth F_bits_of F_real_of F_digits_of, c_item_bytes F_native_code F_fault_of F_bytes_of_value K_NATIVE, c_law_is_right F_law_v_sizes F_law_v_real F_law_v_digits F_read_item F_is_real F_law_same F_law_v_float F_item_bytes, c_count_from, c_field_of, c_read_layout F_count_from F_field_of K_NATIVE K_STANDARD, c_calcsize F_read_layout, c_law_v_layout F_law_pick F_law_draw, c_law_v_codes, c_law_v_read F_law_v_sizes, c_fields_of F_read_layout, c_law_v_drawn_real F_law_draw F_law_pick F_law_v_form F_law_v_float F_law_v_great F_law_v_at, c_law_bent F_law_draw F_law_pick, c_law_v_odd F_law_pick, c_law_v_compared, c_law_v_is_real F_law_v_compared]
def KTAB : Kd := [t_FLOATS, t_WIDTHS, t_NATIVE, t_STANDARD]
/-- the functions, the tables are there -/
class Tab (P : List Fn) : Prop where
  at_ : ∀ (i : Nat) (f : Fn), TAB[i]? = some f → P[i]? = some f
class KTab (kd : Kd) : Prop where
  at_ : ∀ (i : Nat) (t : List (List Nat × W)), KTAB[i]? = some t → kd[i]? = some t
section
variable {kd : Kd} {P : List Fn} [Tab P] [KTab kd]
theorem h_law_start : P[F_law_start]? = some (c_law_start) := Tab.at_ _ _ rfl
theorem h_law_draw : P[F_law_draw]? = some (c_law_draw) := Tab.at_ _ _ rfl
theorem h_law_pick : P[F_law_pick]? = some (c_law_pick F_law_draw) := Tab.at_ _ _ rfl
theorem h_law_v_float : P[F_law_v_float]? = some (c_law_v_float) := Tab.at_ _ _ rfl
theorem h_law_v_great : P[F_law_v_great]? = some (c_law_v_great F_law_draw) := Tab.at_ _ _ rfl
theorem h_law_v_sizes : P[F_law_v_sizes]? = some (c_law_v_sizes) := Tab.at_ _ _ rfl
theorem h_law_v_at : P[F_law_v_at]? = some (c_law_v_at F_law_v_float) := Tab.at_ _ _ rfl
theorem h_law_v_form : P[F_law_v_form]? = some (c_law_v_form) := Tab.at_ _ _ rfl
theorem h_law_v_real : P[F_law_v_real]? = some (c_law_v_real F_law_v_float F_law_v_at F_law_v_form) := Tab.at_ _ _ rfl
theorem h_law_v_digits : P[F_law_v_digits]? = some (c_law_v_digits) := Tab.at_ _ _ rfl
theorem h_number_from : P[F_number_from]? = some (c_number_from) := Tab.at_ _ _ rfl
theorem h_as_real : P[F_as_real]? = some (c_as_real) := Tab.at_ _ _ rfl
theorem h_real_from_bits : P[F_real_from_bits]? = some (c_real_from_bits F_as_real K_FLOATS K_WIDTHS) := Tab.at_ _ _ rfl
theorem h_value_of : P[F_value_of]? = some (c_value_of F_number_from F_real_from_bits) := Tab.at_ _ _ rfl
theorem h_code_of : P[F_code_of]? = some (c_code_of K_NATIVE) := Tab.at_ _ _ rfl
theorem h_native_code : P[F_native_code]? = some (c_native_code F_code_of) := Tab.at_ _ _ rfl
theorem h_read_item : P[F_read_item]? = some (c_read_item F_value_of F_native_code) := Tab.at_ _ _ rfl
theorem h_fits_double : P[F_fits_double]? = some (c_fits_double) := Tab.at_ _ _ rfl
theorem h_is_integer : P[F_is_integer]? = some (c_is_integer) := Tab.at_ _ _ rfl
theorem h_is_real : P[F_is_real]? = some (c_is_real F_fits_double F_is_integer) := Tab.at_ _ _ rfl
theorem h_law_same : P[F_law_same]? = some (c_law_same F_law_same) := Tab.at_ _ _ rfl
theorem h_is_byte : P[F_is_byte]? = some (c_is_byte) := Tab.at_ _ _ rfl
theorem h_is_bytes : P[F_is_bytes]? = some (c_is_bytes F_is_byte) := Tab.at_ _ _ rfl
theorem h_rounded : P[F_rounded]? = some (c_rounded) := Tab.at_ _ _ rfl
theorem h_real_of : P[F_real_of]? = some (c_real_of F_is_real F_is_integer F_rounded F_as_real) := Tab.at_ _ _ rfl
theorem h_is_too_large : P[F_is_too_large]? = some (c_is_too_large F_rounded K_FLOATS) := Tab.at_ _ _ rfl
theorem h_float_fault : P[F_float_fault]? = some (c_float_fault F_is_integer F_is_real F_real_of F_is_too_large) := Tab.at_ _ _ rfl
theorem h_bounds_of : P[F_bounds_of]? = some (c_bounds_of) := Tab.at_ _ _ rfl
theorem h_fault_of : P[F_fault_of]? = some (c_fault_of F_is_bytes F_float_fault F_is_integer F_bounds_of) := Tab.at_ _ _ rfl
theorem h_truth : P[F_truth]? = some (c_truth F_is_real) := Tab.at_ _ _ rfl
theorem h_placed : P[F_placed]? = some (c_placed) := Tab.at_ _ _ rfl
theorem h_bits_of : P[F_bits_of]? = some (c_bits_of F_is_too_large F_rounded F_placed K_FLOATS K_WIDTHS) := Tab.at_ _ _ rfl
theorem h_digits_of : P[F_digits_of]? = some (c_digits_of) := Tab.at_ _ _ rfl
theorem h_bytes_of_value : P[F_bytes_of_value]? = some (c_bytes_of_value F_truth F_bits_of F_real_of F_digits_of) := Tab.at_ _ _ rfl
theorem h_item_bytes : P[F_item_bytes]? = some (c_item_bytes F_native_code F_fault_of F_bytes_of_value K_NATIVE) := Tab.at_ _ _ rfl
theorem h_law_is_right : P[F_law_is_right]? = some (c_law_is_right F_law_v_sizes F_law_v_real F_law_v_digits F_read_item F_is_real F_law_same F_law_v_float F_item_bytes) := Tab.at_ _ _ rfl
theorem h_count_from : P[F_count_from]? = some (c_count_from) := Tab.at_ _ _ rfl
theorem h_field_of : P[F_field_of]? = some (c_field_of) := Tab.at_ _ _ rfl
theorem h_read_layout : P[F_read_layout]? = some (c_read_layout F_count_from F_field_of K_NATIVE K_STANDARD) := Tab.at_ _ _ rfl
theorem h_calcsize : P[F_calcsize]? = some (c_calcsize F_read_layout) := Tab.at_ _ _ rfl
theorem h_law_v_layout : P[F_law_v_layout]? = some (c_law_v_layout F_law_pick F_law_draw) := Tab.at_ _ _ rfl
theorem h_law_v_codes : P[F_law_v_codes]? = some (c_law_v_codes) := Tab.at_ _ _ rfl
theorem h_law_v_read : P[F_law_v_read]? = some (c_law_v_read F_law_v_sizes) := Tab.at_ _ _ rfl
theorem h_fields_of : P[F_fields_of]? = some (c_fields_of F_read_layout) := Tab.at_ _ _ rfl
theorem h_law_v_drawn_real : P[F_law_v_drawn_real]? = some (c_law_v_drawn_real F_law_draw F_law_pick F_law_v_form F_law_v_float F_law_v_great F_law_v_at) := Tab.at_ _ _ rfl
theorem h_law_bent : P[F_law_bent]? = some (c_law_bent F_law_draw F_law_pick) := Tab.at_ _ _ rfl
theorem h_law_v_odd : P[F_law_v_odd]? = some (c_law_v_odd F_law_pick) := Tab.at_ _ _ rfl
theorem h_law_v_compared : P[F_law_v_compared]? = some (c_law_v_compared) := Tab.at_ _ _ rfl
theorem h_law_v_is_real : P[F_law_v_is_real]? = some (c_law_v_is_real F_law_v_compared) := Tab.at_ _ _ rfl
theorem hk_FLOATS : kd[K_FLOATS]? = some t_FLOATS := KTab.at_ _ _ rfl
theorem hk_WIDTHS : kd[K_WIDTHS]? = some t_WIDTHS := KTab.at_ _ _ rfl
theorem hk_NATIVE : kd[K_NATIVE]? = some t_NATIVE := KTab.at_ _ _ rfl
theorem hk_STANDARD : kd[K_STANDARD]? = some t_STANDARD := KTab.at_ _ _ rfl
end
end Vl
set_option maxRecDepth 100000
namespace Vl
open PySem PySem.Spec PyProof.Rows L2

def BT.name : BT → String
  | .int => "int" | .bool => "bool" | .str => "str" | .tuple => "tuple" | .list => "list" | .dict => "dict"
/-- codes as a text -/
def tx (s : List Nat) : Str := ⟨s.toArray⟩
theorem tx_inj {a b : List Nat} (h : tx a = tx b) : a = b := by
  have h1 : a.toArray = b.toArray := congrArg Str.cps h
  simpa using h1
theorem tx_len (s : List Nat) : (tx s).length = s.length := by
  show (s.toArray).size = s.length
  simp

/-- a tuple, tracked or written -/
def TuL (K : PySem.W.Frag) (H : Hp) (a : Addr) (ys : List V) : Prop :=
  H a = some (.tup ys) ∨ ∃ (o : Obj) (its : Array Value) (n : Nat), K.lookup a = some o ∧ o.cls = .type "tuple" ∧ o.data = .seq its n ∧ its.size ≤ sizeLine ∧ Vals ys its.toList
theorem TuL.seq {K : PySem.W.Frag} {H : Hp} {a : Addr} {ys : List V} (h : TuL K H a ys) : SqT K H a ys := by
  rcases h with h | h
  · exact SqT.of h
  · exact .inr h
/-- a list that is read alone -/
def FzL (K : PySem.W.Frag) (ι : List Addr) (H : Hp) (a : Addr) (ys : List V) : Prop :=
  (∃ o, H a = some (.frz o (.lst ys)) ∧ a ∉ ι) ∨
    ∃ (o : Obj) (its : Array Value) (n : Nat), K.lookup a = some o ∧ o.cls = .type "list" ∧ o.dict = none ∧ o.data = .seq its n ∧ its.size ≤ sizeLine ∧ Vals ys its.toList
theorem FzL.seq {K : PySem.W.Frag} {ι : List Addr} {H : Hp} {a : Addr} {ys : List V} (h : FzL K ι H a ys) : SqL K H a ys := by
  rcases h with ⟨o, h, _⟩ | h
  · exact .inl (.inr ⟨o, h⟩)
  · exact .inr h
/-- where the tables and the classes stand; a class's subclasses, its fields' names -/
structure KT where
  kd : Nat → Option Addr
  cl : Nat → Option Addr
  subs : Nat → List Nat
/-- an exception object that is let go: its class, its dict -/
def exV (a C : Addr) (d : Option Addr) : HO := .ext fun h => ∃ (oe : Obj) (vs : Array Value), h.get? a = some oe ∧ oe.cls = .ref C ∧ oe.dict = d ∧ oe.data = .fields vs
section
variable (K : PySem.W.Frag) (kA : KT) (ι : List Addr)
mutual
/-- a value of ours, and what it is in the hand layer -/
def RW (H : Hp) : W → V → Prop
  | .non, v => v = .non
  | .bl b, v => v = .bl b
  | .int i, v => v = .int i
  | .str s, v => v = .str (tx s)
  | .tup xs, v => ∃ a ys, v = .ref a ∧ TuL K H a ys ∧ RWs H xs ys
  | .ref r, v => ∃ a, v = .ref a ∧ ι[r]? = some a
  | .ty t, v => v = .ty t.name
  | .cls c ss, v => ∃ C, v = .ref C ∧ kA.cl c = some C ∧ kA.subs c = ss
  | .kd d, v => ∃ a, v = .ref a ∧ kA.kd d = some a
  | .frz xs, v => ∃ a ys, v = .ref a ∧ FzL K ι H a ys ∧ RWs H xs ys
def RWs (H : Hp) : List W → List V → Prop
  | [], ys => ys = []
  | x :: xs, ys => ∃ y ys', ys = y :: ys' ∧ RW H x y ∧ RWs H xs ys'
end
def RK (H : Hp) : List (List Nat × W) → List (L2.Key × V) → Prop
  | [], ys => ys = []
  | (k, x) :: xs, ys => ∃ y ys', ys = (Sum.inr (tx k), y) :: ys' ∧ RW K kA ι H x y ∧ RK H xs ys'
/-- fields -/
def RF (H : Hp) : List (List Nat × W) → List (Str × V) → Prop
  | [], ys => ys = []
  | (k, x) :: xs, ys => ∃ y ys', ys = (tx k, y) :: ys' ∧ RW K kA ι H x y ∧ RF H xs ys'
def OR (H : Hp) (a : Addr) : O → Prop
  | .lst xs => ∃ ys, H a = some (.lst ys) ∧ RWs K kA ι H xs ys
  | .dic kvs => ∃ ys, H a = some (.dK ys) ∧ RK K kA ι H kvs ys
  | .ins c fs => ∃ C dx ys, kA.cl c = some C ∧ H a = some (.ins C dx ys) ∧ H dx = some (.own a) ∧ dx ∉ ι ∧ RF K kA ι H fs ys
  | .exn c fs => ∃ C d, kA.cl c = some C ∧ H a = some (exV a C d) ∧ ((d = none ∧ fs = []) ∨ ∃ dd ys, d = some dd ∧ H dd = some (.xd ys) ∧ dd ∉ ι ∧ RF K kA ι H fs ys)
structure Rep (h : L) (H : Hp) : Prop where
  len : ι.length = h.length
  nd : ι.Nodup
  at_ : ∀ (i : Nat) (o : O), h[i]? = some o → ∃ a, ι[i]? = some a ∧ OR K kA ι H a o
/-- slots -/
def RE (H : Hp) : Env → L2.St → Prop
  | [], σ => σ = []
  | e :: ε, σ => ∃ x σ', σ = x :: σ' ∧ (∀ w, e = some w → ∃ y, x = some y ∧ RW K kA ι H w y) ∧ RE H ε σ'
end
/-- what a step of ours leaves as it was -/
structure Ext (ι : List Addr) (H : Hp) (ι' : List Addr) (H' : Hp) : Prop where
  pre : ∃ t, ι' = ι ++ t
  keep : ∀ a o, H a = some o → a ∉ ι → (∀ ps, o ≠ .tbl ps) → H' a = some o ∧ a ∉ ι'

section
variable {K : PySem.W.Frag} {kA : KT} {ι ι' ι'' : List Addr} {H H' H'' : Hp}
theorem Ext.refl : Ext ι H ι H := ⟨⟨[], by simp⟩, fun _ _ h n _ => ⟨h, n⟩⟩
theorem Ext.trans (a : Ext ι H ι' H') (b : Ext ι' H' ι'' H'') : Ext ι H ι'' H'' := by
  obtain ⟨t, rfl⟩ := a.pre
  obtain ⟨u, rfl⟩ := b.pre
  exact ⟨⟨t ++ u, by simp⟩, fun x o h n nt => by
    obtain ⟨h1, n1⟩ := a.keep x o h n nt
    exact b.keep x o h1 n1 nt⟩
theorem Ext.at (e : Ext ι H ι' H') {r : Nat} {a : Addr} (h : ι[r]? = some a) : ι'[r]? = some a := by
  obtain ⟨t, rfl⟩ := e.pre
  rw [List.getElem?_append_left (List.getElem?_eq_some_iff.mp h).1]
  exact h
end
/-- lists that may be written or tuples: none of ours -/
structure Out (ι : List Addr) (H : Hp) : Prop where
  tup : ∀ a ys, Rd H a (.tup ys) → a ∉ ι
theorem Rep.out {K : PySem.W.Frag} {kA : KT} {ι : List Addr} {h : L} {H : Hp} (R : Rep K kA ι h H) : Out ι H := by
  refine ⟨fun a ys hr hm => ?_⟩
  obtain ⟨i, hi, e⟩ := List.mem_iff_getElem.mp hm
  have hi' : i < h.length := by rw [← R.len]; exact hi
  obtain ⟨b, e1, o1⟩ := R.at_ i h[i] (List.getElem?_eq_getElem hi')
  rw [List.getElem?_eq_getElem hi, e] at e1
  cases e1
  generalize h[i] = o at o1
  cases o with
  | lst xs =>
    obtain ⟨zs, q, _⟩ := o1
    rcases hr with z | ⟨_, z⟩ <;> rw [q] at z <;> cases z
  | dic xs =>
    obtain ⟨zs, q, _⟩ := o1
    rcases hr with z | ⟨_, z⟩ <;> rw [q] at z <;> cases z
  | ins c fs =>
    obtain ⟨C, dx, zs, _, q, _⟩ := o1
    rcases hr with z | ⟨_, z⟩ <;> rw [q] at z <;> cases z
  | exn c fs =>
    obtain ⟨C, d, _, q, _⟩ := o1
    rcases hr with z | ⟨_, z⟩ <;> rw [q] at z <;> cases z
section
variable {K : PySem.W.Frag} {kA : KT} {ι ι' : List Addr} {H H' : Hp}
theorem TuL.ext (o : Out ι H) (e : Ext ι H ι' H') {a : Addr} {ys : List V} (h : TuL K H a ys) : TuL K H' a ys := by
  rcases h with h | h
  · exact .inl (e.keep a _ h (o.tup a ys (.inl h)) (fun _ z => nomatch z)).1
  · exact .inr h
theorem FzL.ext (e : Ext ι H ι' H') {a : Addr} {ys : List V} (h : FzL K ι H a ys) : FzL K ι' H' a ys := by
  rcases h with ⟨o, h, n⟩ | h
  · obtain ⟨h1, n1⟩ := e.keep a _ h n (fun _ z => nomatch z)
    exact .inl ⟨o, h1, n1⟩
  · exact .inr h
mutual
theorem RW.ext (o : Out ι H) (e : Ext ι H ι' H') : ∀ {w : W} {v : V}, RW K kA ι H w v → RW K kA ι' H' w v
  | .non, _, h => h
  | .bl _, _, h => h
  | .int _, _, h => h
  | .str _, _, h => h
  | .tup xs, _, h => by
    obtain ⟨a, ys, rfl, q, r⟩ := h
    exact ⟨a, ys, rfl, TuL.ext o e q, RWs.ext o e r⟩
  | .ref _, _, h => by
    obtain ⟨a, rfl, q⟩ := h
    exact ⟨a, rfl, e.at q⟩
  | .ty _, _, h => h
  | .cls _ _, _, h => h
  | .kd _, _, h => h
  | .frz xs, _, h => by
    obtain ⟨a, ys, rfl, q, r⟩ := h
    exact ⟨a, ys, rfl, FzL.ext e q, RWs.ext o e r⟩
theorem RWs.ext (o : Out ι H) (e : Ext ι H ι' H') : ∀ {w : List W} {v : List V}, RWs K kA ι H w v → RWs K kA ι' H' w v
  | [], _, h => h
  | x :: xs, _, h => by
    obtain ⟨y, ys, rfl, q, r⟩ := h
    exact ⟨y, ys, rfl, RW.ext o e q, RWs.ext o e r⟩
end
theorem RK.ext (o : Out ι H) (e : Ext ι H ι' H') : ∀ {w : List (List Nat × W)} {v : List (L2.Key × V)}, RK K kA ι H w v → RK K kA ι' H' w v
  | [], _, h => h
  | (k, x) :: xs, _, h => by
    obtain ⟨y, ys, rfl, q, r⟩ := h
    exact ⟨y, ys, rfl, RW.ext o e q, RK.ext o e r⟩
theorem RF.ext (o : Out ι H) (e : Ext ι H ι' H') : ∀ {w : List (List Nat × W)} {v : List (Str × V)}, RF K kA ι H w v → RF K kA ι' H' w v
  | [], _, h => h
  | (k, x) :: xs, _, h => by
    obtain ⟨y, ys, rfl, q, r⟩ := h
    exact ⟨y, ys, rfl, RW.ext o e q, RF.ext o e r⟩
theorem RE.ext (o : Out ι H) (e : Ext ι H ι' H') : ∀ {ε : Env} {σ : L2.St}, RE K kA ι H ε σ → RE K kA ι' H' ε σ
  | [], _, h => h
  | x :: xs, _, h => by
    obtain ⟨y, ys, rfl, q, r⟩ := h
    refine ⟨y, ys, rfl, fun w hw => ?_, RE.ext o e r⟩
    obtain ⟨z, e1, q1⟩ := q w hw
    exact ⟨z, e1, RW.ext o e q1⟩
theorem RE.get : ∀ {ε : Env} {σ : L2.St} {i : Nat} {w : W}, RE K kA ι H ε σ → gets ε i = some w → ∃ y, σ[i]? = some (some y) ∧ RW K kA ι H w y
  | [], _, _, _, _, h => by cases h
  | x :: xs, _, 0, w, h, e => by
    obtain ⟨y, ys, rfl, q, r⟩ := h
    obtain ⟨z, e1, q1⟩ := q w e
    exact ⟨z, by rw [e1]; rfl, q1⟩
  | x :: xs, _, i + 1, w, h, e => by
    obtain ⟨y, ys, rfl, q, r⟩ := h
    obtain ⟨z, e1, q1⟩ := RE.get (i := i) r e
    exact ⟨z, e1, q1⟩
theorem RE.set {w : W} {y : V} (h : RW K kA ι H w y) : ∀ {ε : Env} {σ : L2.St} (i : Nat), RE K kA ι H ε σ → RE K kA ι H (sets ε i (some w)) (σ.set i (some y))
  | [], _, i, h => by cases (show _ = [] from h); exact rfl
  | x :: xs, _, 0, g => by
    obtain ⟨z, ys, rfl, q, r⟩ := g
    exact ⟨_, _, rfl, fun w' e => by cases e; exact ⟨y, rfl, h⟩, r⟩
  | x :: xs, _, i + 1, g => by
    obtain ⟨z, ys, rfl, q, r⟩ := g
    exact ⟨_, _, rfl, q, RE.set h i r⟩
theorem RE.setN : ∀ {ε : Env} {σ : L2.St} (i : Nat), RE K kA ι H ε σ → RE K kA ι H (sets ε i none) (σ.set i none)
  | [], _, i, h => by cases (show _ = [] from h); exact rfl
  | x :: xs, _, 0, g => by
    obtain ⟨z, ys, rfl, q, r⟩ := g
    exact ⟨_, _, rfl, fun w' e => (by cases e), r⟩
  | x :: xs, _, i + 1, g => by
    obtain ⟨z, ys, rfl, q, r⟩ := g
    exact ⟨_, _, rfl, q, RE.setN i r⟩
theorem RE.wipe {ε : Env} {σ : L2.St} (g : RE K kA ι H ε σ) : ∀ vs : List Nat, RE K kA ι H (wipes ε vs) (L2.wipe σ vs)
  | [] => g
  | v :: vs => RE.setN v (RE.wipe g vs)
/-- lookups -/
theorem RWs.len : ∀ {xs : List W} {ys : List V}, RWs K kA ι H xs ys → xs.length = ys.length
  | [], _, h => by cases (show _ = [] from h); rfl
  | x :: xs, _, h => by
    obtain ⟨y, ys, rfl, _, r⟩ := h
    exact congrArg Nat.succ (RWs.len r)
theorem RWs.get : ∀ {xs : List W} {ys : List V} {i : Nat} {w : W}, RWs K kA ι H xs ys → xs[i]? = some w → ∃ y, ys[i]? = some y ∧ RW K kA ι H w y
  | [], _, _, _, _, e => by simp at e
  | x :: xs, _, 0, w, h, e => by
    obtain ⟨y, ys, rfl, q, r⟩ := h
    simp at e
    subst e
    exact ⟨y, rfl, q⟩
  | x :: xs, _, i + 1, w, h, e => by
    obtain ⟨y, ys, rfl, q, r⟩ := h
    obtain ⟨z, e1, q1⟩ := RWs.get (i := i) r (by simpa using e)
    exact ⟨z, by simpa using e1, q1⟩
theorem RWs.app : ∀ {xs zs : List W} {ys us : List V}, RWs K kA ι H xs ys → RWs K kA ι H zs us → RWs K kA ι H (xs ++ zs) (ys ++ us)
  | [], _, _, _, h, g => by cases (show _ = [] from h); exact g
  | x :: xs, _, _, _, h, g => by
    obtain ⟨y, ys, rfl, q, r⟩ := h
    exact ⟨y, _, rfl, q, RWs.app r g⟩
theorem RWs.drop : ∀ {xs : List W} {ys : List V} (n : Nat), RWs K kA ι H xs ys → RWs K kA ι H (xs.drop n) (ys.drop n)
  | _, _, 0, h => h
  | [], _, n + 1, h => by cases (show _ = [] from h); exact rfl
  | x :: xs, _, n + 1, h => by
    obtain ⟨y, ys, rfl, q, r⟩ := h
    exact RWs.drop n r
theorem RWs.take : ∀ {xs : List W} {ys : List V} (n : Nat), RWs K kA ι H xs ys → RWs K kA ι H (xs.take n) (ys.take n)
  | _, _, 0, h => rfl
  | [], _, n + 1, h => by cases (show _ = [] from h); exact rfl
  | x :: xs, _, n + 1, h => by
    obtain ⟨y, ys, rfl, q, r⟩ := h
    exact ⟨y, _, rfl, q, RWs.take n r⟩
theorem RWs.set {w : W} {y : V} (h : RW K kA ι H w y) : ∀ {xs : List W} {ys : List V} (i : Nat), RWs K kA ι H xs ys → RWs K kA ι H (xs.set i w) (ys.set i y)
  | [], _, _, g => by cases (show _ = [] from g); exact rfl
  | x :: xs, _, 0, g => by
    obtain ⟨z, ys, rfl, q, r⟩ := g
    exact ⟨y, _, rfl, h, r⟩
  | x :: xs, _, i + 1, g => by
    obtain ⟨z, ys, rfl, q, r⟩ := g
    exact ⟨z, _, rfl, q, RWs.set h i r⟩
theorem RWs.erase : ∀ {xs : List W} {ys : List V} (i : Nat), RWs K kA ι H xs ys → RWs K kA ι H (xs.eraseIdx i) (ys.eraseIdx i)
  | [], _, _, g => by cases (show _ = [] from g); exact rfl
  | x :: xs, _, 0, g => by
    obtain ⟨z, ys, rfl, q, r⟩ := g
    exact r
  | x :: xs, _, i + 1, g => by
    obtain ⟨z, ys, rfl, q, r⟩ := g
    exact ⟨z, _, rfl, q, RWs.erase i r⟩
/-! ### changes -/
theorem Ext.fresh {p : Addr} {o : HO} (hp : H p = none) : Ext ι H ι (upd H p o) :=
  ⟨⟨[], by simp⟩, fun a u h n _ => ⟨by rw [upd_ne (ne_of_none h hp)]; exact h, n⟩⟩
theorem Ext.freshN {p : Addr} {o : HO} (hp : H p = none) : Ext ι H (ι ++ [p]) (upd H p o) :=
  ⟨⟨[p], rfl⟩, fun a u h n _ => ⟨by rw [upd_ne (ne_of_none h hp)]; exact h, by
    rw [List.mem_append, List.mem_singleton]
    rintro (z | z)
    · exact n z
    · exact ne_of_none h hp z⟩⟩
theorem Ext.write {p : Addr} {o : HO} (hp : p ∈ ι) : Ext ι H ι (upd H p o) :=
  ⟨⟨[], by simp⟩, fun a u h n _ => ⟨by rw [upd_ne (fun e => n (by rw [e]; exact hp))]; exact h, n⟩⟩
theorem OR.ext (o : Out ι H) (e : Ext ι H ι' H') {a : Addr} (ha : ∀ u, H a = some u → H' a = some u) : ∀ {x : O}, OR K kA ι H a x → OR K kA ι' H' a x
  | .lst xs, h => by
    obtain ⟨ys, q, r⟩ := h
    exact ⟨ys, ha _ q, RWs.ext o e r⟩
  | .dic xs, h => by
    obtain ⟨ys, q, r⟩ := h
    exact ⟨ys, ha _ q, RK.ext o e r⟩
  | .ins c fs, h => by
    obtain ⟨C, dx, ys, q1, q2, q3, q4, r⟩ := h
    obtain ⟨k1, k2⟩ := e.keep _ _ q3 q4 (fun _ z => nomatch z)
    exact ⟨C, dx, ys, q1, ha _ q2, k1, k2, RF.ext o e r⟩
  | .exn c fs, h => by
    obtain ⟨C, d, q1, q2, q3⟩ := h
    refine ⟨C, d, q1, ha _ q2, q3.imp id fun ⟨dd, ys, p1, p2, p3, r⟩ => ?_⟩
    obtain ⟨k1, k2⟩ := e.keep _ _ p2 p3 (fun _ z => nomatch z)
    exact ⟨dd, ys, p1, k1, k2, RF.ext o e r⟩
theorem OR.some : ∀ {a : Addr} {x : O}, OR K kA ι H a x → ∃ u, H a = some u
  | _, .lst xs, ⟨ys, q, _⟩ => ⟨_, q⟩
  | _, .dic xs, ⟨ys, q, _⟩ => ⟨_, q⟩
  | _, .ins c fs, ⟨_, _, _, _, q, _⟩ => ⟨_, q⟩
  | _, .exn c fs, ⟨_, _, _, q, _⟩ => ⟨_, q⟩
theorem Rep.live {h : L} (R : Rep K kA ι h H) {a : Addr} (ha : a ∈ ι) : ∃ u, H a = some u := by
  obtain ⟨i, hi, e⟩ := List.mem_iff_getElem.mp ha
  have hi' : i < h.length := by rw [← R.len]; exact hi
  obtain ⟨b, e1, o1⟩ := R.at_ i h[i] (List.getElem?_eq_getElem hi')
  rw [List.getElem?_eq_getElem hi, e] at e1
  cases e1
  exact OR.some o1
/-- something that is none of ours is laid -/
theorem Rep.fresh {h : L} {p : Addr} {o : HO} (R : Rep K kA ι h H) (hp : H p = none) : Rep K kA ι h (upd H p o) :=
  ⟨R.len, R.nd, fun i x e => by
    obtain ⟨a, e1, o1⟩ := R.at_ i x e
    exact ⟨a, e1, OR.ext R.out (Ext.fresh hp) (fun u hu => by rw [upd_ne (ne_of_none hu hp)]; exact hu) o1⟩⟩
/-- one more of ours -/
theorem Rep.new {h : L} {p : Addr} {o : HO} {x : O} (R : Rep K kA ι h H) (hp : H p = none) (ho : OR K kA (ι ++ [p]) (upd H p o) p x) : Rep K kA (ι ++ [p]) (h ++ [x]) (upd H p o) := by
  refine ⟨by simp [R.len], ?_, fun i y e => ?_⟩
  · rw [List.nodup_append]
    refine ⟨R.nd, by simp, fun a ha b hb => ?_⟩
    obtain ⟨u, hu⟩ := R.live ha
    rw [List.mem_singleton] at hb
    subst hb
    exact ne_of_none hu hp
  · by_cases hi : i < h.length
    · rw [List.getElem?_append_left hi] at e
      obtain ⟨a, e1, o1⟩ := R.at_ i y e
      exact ⟨a, by rw [List.getElem?_append_left (by rw [R.len]; exact hi)]; exact e1, OR.ext R.out (Ext.freshN hp) (fun u hu => by rw [upd_ne (ne_of_none hu hp)]; exact hu) o1⟩
    · have hi2 : i = h.length := by
        have := (List.getElem?_eq_some_iff.mp e).1
        simp at this
        omega
      subst hi2
      rw [List.getElem?_append_right (Nat.le_refl _)] at e
      simp at e
      subst e
      refine ⟨p, ?_, ho⟩
      rw [← R.len, List.getElem?_append_right (Nat.le_refl _)]
      simp
/-- one of ours is written -/
theorem Rep.write {h : L} {r : Nat} {p : Addr} {o : HO} {x : O} (R : Rep K kA ι h H) (hr : ι[r]? = some p) (ho : OR K kA ι (upd H p o) p x) : Rep K kA ι (h.set r x) (upd H p o) := by
  have hp : p ∈ ι := List.mem_of_getElem? hr
  refine ⟨by simp [R.len], R.nd, fun i y e => ?_⟩
  by_cases hi : i = r
  · subst hi
    refine ⟨p, hr, ?_⟩
    rw [List.getElem?_set] at e
    have hl : i < h.length := by rw [← R.len]; exact (List.getElem?_eq_some_iff.mp hr).1
    simp [hl] at e
    subst e
    exact ho
  · rw [List.getElem?_set_ne (Ne.symm hi)] at e
    obtain ⟨a, e1, o1⟩ := R.at_ i y e
    refine ⟨a, e1, OR.ext R.out (Ext.write hp) (fun u hu => ?_) o1⟩
    have hne : a ≠ p := by
      rintro rfl
      obtain ⟨h1, q1⟩ := List.getElem?_eq_some_iff.mp e1
      obtain ⟨h2, q2⟩ := List.getElem?_eq_some_iff.mp hr
      exact hi ((List.getElem_inj R.nd).mp (q1.trans q2.symm))
    rw [upd_ne hne]
    exact hu
theorem Rep.lst {h : L} {r : Nat} {xs : List W} (R : Rep K kA ι h H) (e : h[r]? = some (.lst xs)) {v : V} (hv : RW K kA ι H (.ref r) v) : ∃ a ys, v = .ref a ∧ ι[r]? = some a ∧ H a = some (.lst ys) ∧ RWs K kA ι H xs ys := by
  obtain ⟨a, rfl, q⟩ := hv
  obtain ⟨b, e1, ys, o1, o2⟩ := R.at_ r _ e
  rw [q] at e1
  cases e1
  exact ⟨a, ys, rfl, q, o1, o2⟩
theorem Rep.dic {h : L} {r : Nat} {xs : List (List Nat × W)} (R : Rep K kA ι h H) (e : h[r]? = some (.dic xs)) {v : V} (hv : RW K kA ι H (.ref r) v) : ∃ a ys, v = .ref a ∧ ι[r]? = some a ∧ H a = some (.dK ys) ∧ RK K kA ι H xs ys := by
  obtain ⟨a, rfl, q⟩ := hv
  obtain ⟨b, e1, ys, o1, o2⟩ := R.at_ r _ e
  rw [q] at e1
  cases e1
  exact ⟨a, ys, rfl, q, o1, o2⟩
end
end Vl
set_option maxRecDepth 100000
namespace Vl
open PySem PySem.Spec PyProof.Rows L2
/-- what our step's end asks -/
def KW (K : PySem.W.Frag) (kA : KT) (ι : List Addr) (H : Hp) (r : R W) (Q : VK) : Prop :=
  ∃ v h', r = .ok v h' ∧ ∀ ι' H' x, Ext ι H ι' H' → Rep K kA ι' h' H' → RW K kA ι' H' v x → Q x H'
section
variable {K : PySem.W.Frag} {kA : KT} {ι : List Addr} {H : Hp} {h : L} {Q : VK} {r : R W}
theorem KW.here {v : W} {x : V} (k : KW K kA ι H (.ok v h) Q) (R : Rep K kA ι h H) (q : RW K kA ι H v x) : Q x H := by
  obtain ⟨_, _, e, k⟩ := k
  cases e
  exact k ι H x Ext.refl R q
theorem KW.tup {xs : List W} {ys : List V} (k : KW K kA ι H (.ok (.tup xs) h) Q) (R : Rep K kA ι h H) (q : RWs K kA ι H xs ys) : ∀ p, H p = none → Q (.ref p) (upd H p (.tup ys)) := fun p hp => by
  obtain ⟨_, _, e, k⟩ := k
  cases e
  exact k ι _ _ (Ext.fresh hp) (R.fresh hp) ⟨p, ys, rfl, .inl upd_same, RWs.ext R.out (Ext.fresh hp) q⟩
theorem KW.lst {xs : List W} {ys : List V} (k : KW K kA ι H (alloc (.lst xs) h) Q) (R : Rep K kA ι h H) (q : RWs K kA ι H xs ys) : ∀ p, H p = none → Q (.ref p) (upd H p (.lst ys)) := fun p hp => by
  obtain ⟨_, _, e, k⟩ := k
  cases e
  refine k (ι ++ [p]) _ _ (Ext.freshN hp) (R.new hp ⟨ys, upd_same, RWs.ext R.out (Ext.freshN hp) q⟩) ⟨p, rfl, ?_⟩
  rw [← R.len, List.getElem?_append_right (Nat.le_refl _)]
  simp
theorem KW.dic {xs : List (List Nat × W)} {ys : List (L2.Key × V)} (k : KW K kA ι H (alloc (.dic xs) h) Q) (R : Rep K kA ι h H) (q : RK K kA ι H xs ys) : ∀ p, H p = none → Q (.ref p) (upd H p (.dK ys)) := fun p hp => by
  obtain ⟨_, _, e, k⟩ := k
  cases e
  refine k (ι ++ [p]) _ _ (Ext.freshN hp) (R.new hp ⟨ys, upd_same, RK.ext R.out (Ext.freshN hp) q⟩) ⟨p, rfl, ?_⟩
  rw [← R.len, List.getElem?_append_right (Nat.le_refl _)]
  simp
theorem KW.set {v : W} {x : V} {r : Nat} {p : Addr} {xs : List W} {ys : List V} (k : KW K kA ι H (.ok v (h.set r (.lst xs))) Q) (R : Rep K kA ι h H) (hr : ι[r]? = some p) (q : RWs K kA ι H xs ys) (qv : RW K kA ι H v x) : Q x (upd H p (.lst ys)) := by
  obtain ⟨_, _, e, k⟩ := k
  cases e
  have hp : p ∈ ι := List.mem_of_getElem? hr
  exact k ι _ _ (Ext.write hp) (R.write hr ⟨ys, upd_same, RWs.ext R.out (Ext.write hp) q⟩) (RW.ext R.out (Ext.write hp) qv)
theorem KW.setD {v : W} {x : V} {r : Nat} {p : Addr} {xs : List (List Nat × W)} {ys : List (L2.Key × V)} (k : KW K kA ι H (.ok v (h.set r (.dic xs))) Q) (R : Rep K kA ι h H) (hr : ι[r]? = some p) (q : RK K kA ι H xs ys) (qv : RW K kA ι H v x) : Q x (upd H p (.dK ys)) := by
  obtain ⟨_, _, e, k⟩ := k
  cases e
  have hp : p ∈ ι := List.mem_of_getElem? hr
  exact k ι _ _ (Ext.write hp) (R.write hr ⟨ys, upd_same, RK.ext R.out (Ext.write hp) q⟩) (RW.ext R.out (Ext.write hp) qv)
theorem KW.no (k : KW K kA ι H (.stuck) Q) : False := by
  obtain ⟨_, _, e, _⟩ := k
  cases e
theorem KW.ite {c : Prop} [Decidable c] {a : R W} (k : KW K kA ι H (if c then a else .stuck) Q) : c ∧ KW K kA ι H a Q := by
  by_cases hc : c
  · rw [if_pos hc] at k
    exact ⟨hc, k⟩
  · rw [if_neg hc] at k
    exact k.no.elim
end
def rB (K : PySem.W.Frag) (kA : KT) (f : W → W → L → R W) : R2 := fun x y H Q =>
  ∃ (v w : W) (h : L) (ι : List Addr), Rep K kA ι h H ∧ RW K kA ι H v x ∧ RW K kA ι H w y ∧ KW K kA ι H (f v w h) Q
def toB : BOp → Operator
  | .add => .Add | .sub => .Sub | .mul => .Mult | .fdiv => .FloorDiv | .mod => .Mod | .pow => .Pow | .shl => .LShift | .shr => .RShift | .band => .BitAnd
theorem LINE_eq : LINE = sizeLine := by rw [sizeLine_eq]; rfl
theorem ibits_eq (x : Int) : ibits x = Builtin.Int.intBits x := by
  unfold ibits Builtin.Int.intBits
  by_cases e : x = 0
  · rw [if_pos e, if_pos (by rw [e]; rfl)]
  · rw [if_neg e, if_neg (by simpa using e)]
theorem tx_app (a b : List Nat) : tx a ++ tx b = tx (a ++ b) := by
  show (⟨a.toArray ++ b.toArray⟩ : Str) = ⟨(a ++ b).toArray⟩
  simp
theorem RWs.flat {K : PySem.W.Frag} {kA : KT} {ι : List Addr} {H : Hp} {xs : List W} {ys : List V} (q : RWs K kA ι H xs ys) : ∀ n : Nat, RWs K kA ι H (List.replicate n xs).flatten (List.replicate n ys).flatten
  | 0 => rfl
  | n + 1 => by
    rw [List.replicate_succ, List.replicate_succ, List.flatten_cons, List.flatten_cons]
    exact RWs.app q (RWs.flat q n)
section
variable {X : Cx} {kA : KT}
theorem ok_add : OpR X (binaryOp .Add) (rB X.K kA (binop .add)) := by
  intro pins s σ H x y v u Q I rx ry h
  obtain ⟨a, b, h, ι, R, ra, rb, k⟩ := h
  cases a with
  | int i => cases b with
    | int j =>
      cases ra; cases rb
      exact op_add pins s σ H _ _ _ _ Q I rx ry ⟨i, j, rfl, rfl, k.here R rfl⟩
    | _ => exact k.no.elim
  | str i => cases b with
    | str j =>
      cases ra; cases rb
      obtain ⟨hc, k⟩ := KW.ite k
      refine op_add_str pins s σ H _ _ _ _ Q I rx ry ⟨tx i, tx j, rfl, rfl, ?_, ?_⟩
      · rw [tx_len, tx_len, ← LINE_eq]; exact hc
      · rw [tx_app]; exact k.here R rfl
    | _ => exact k.no.elim
  | tup xs => cases b with
    | tup ys =>
      obtain ⟨hc, k⟩ := KW.ite k
      obtain ⟨p, us, rfl, q1, r1⟩ := ra
      obtain ⟨p2, us2, rfl, q2, r2⟩ := rb
      refine op_catA pins s σ H _ _ _ _ Q I rx ry ⟨p, p2, us, us2, rfl, rfl, q1.seq, q2.seq, ?_, fun e => ?_, fun e1 e2 => ?_, fun e1 e2 => ?_⟩
      · rw [← r1.len, ← r2.len, ← LINE_eq]; exact hc
      · subst e
        cases xs with
        | nil => exact k.here R ⟨p2, us2, rfl, q2, r2⟩
        | cons _ _ => obtain ⟨_, _, e, _⟩ := r1; cases e
      · subst e2
        cases ys with
        | nil =>
          rw [List.append_nil] at k
          exact k.here R ⟨p, us, rfl, q1, r1⟩
        | cons _ _ => obtain ⟨_, _, e, _⟩ := r2; cases e
      · exact k.tup R (RWs.app r1 r2)
    | _ => exact k.no.elim
  | ref r => cases b with
    | ref r2 =>
      have k : KW X.K kA ι H (match h[r]?, h[r2]? with
        | some (.lst xs), some (.lst ys) => if xs.length + ys.length ≤ LINE then alloc (.lst (xs ++ ys)) h else .stuck
        | _, _ => .stuck) Q := k
      split at k
      · rename_i xs ys e1 e2
        obtain ⟨hc, k⟩ := KW.ite k
        obtain ⟨p, us, rfl, _, q1, r1⟩ := R.lst e1 ra
        obtain ⟨p2, us2, rfl, _, q2, r2⟩ := R.lst e2 rb
        refine op_cat pins s σ H _ _ _ _ Q I rx ry ⟨p, p2, us, us2, rfl, rfl, q1, q2, ?_, k.lst R (RWs.app r1 r2)⟩
        rw [← r1.len, ← r2.len, ← LINE_eq]; exact hc
      · exact k.no.elim
    | _ => exact k.no.elim
  | _ => cases b <;> exact k.no.elim
end
end Vl
set_option maxRecDepth 100000
/-! t[::-1] of a tuple -/
namespace HT
open PySem PyProof.Rows
section
variable {prog : Program} {w : World} {A : Around} {E : Value → Shared → Prop} {s : Shared}
theorem rev_pick (xs : Array Value) : ((List.range xs.size).filterMap fun (m : Nat) => xs[(((xs.size : Int) - 1) + (m : Int) * (-1)).toNat]?).toArray = xs.toList.reverse.toArray := by
  congr 1
  apply List.ext_getElem?
  intro i
  have key : ∀ n, n ≤ xs.size → (List.range n).filterMap (fun (m : Nat) => xs[(((xs.size : Int) - 1) + (m : Int) * (-1)).toNat]?) = (xs.toList.reverse).take n := by
    intro n
    induction n with
    | zero => intro _; simp
    | succ n ih =>
      intro hn
      rw [List.range_succ, List.filterMap_append, ih (by omega), List.take_add_one]
      have e : (((xs.size : Int) - 1) + (n : Int) * (-1)).toNat = xs.size - 1 - n := by omega
      congr 1
      have hl : n < xs.toList.reverse.length := by simp; omega
      rw [List.getElem?_eq_getElem hl]
      simp only [List.filterMap_cons, List.filterMap_nil, e]
      rw [Array.getElem?_eq_getElem (show xs.size - 1 - n < xs.size by omega)]
      simp [List.getElem_reverse]
  rw [key xs.size (Nat.le_refl _), List.take_of_length_le (by simp)]
theorem places_rev (n : Nat) : Builtin.Slice.slicePlaces ((n : Int) - 1) (-1) (-1) = n := by
  unfold Builtin.Slice.slicePlaces
  have h1 : ¬ ((-1 : Int) > 0) := by omega
  simp only [h1, if_false]
  have e : -(-1 : Int) = 1 := by omega
  rw [e, Int.ediv_one]
  split <;> omega
theorem sliceApplied_rev {sl : Addr} {vl vu vs : Value} {n : Nat} {Q : Int × Int × Nat → Shared → Prop} (hs : s.heap.IsSliceOf sl vl vu vs) (pl : IsPart vl none) (pu : IsPart vu none) (ps : IsPart vs (some (-1)))
    (h : Q ((n : Int) - 1, -1, n) s) : wpAny (model prog w) A (Builtin.Slice.sliceApplied (.ref sl) (pure (n : Int))) Q E s := by
  obtain ⟨os, hos, hcs, hds⟩ := id hs
  unfold Builtin.Slice.sliceApplied Builtin.Slice.sliceFields
  refine wpAny_bind (wpAny_bind (wpAny_field hos hds (x := vl) rfl (wpAny_bind (wpAny_field hos hds (x := vu) rfl (wpAny_bind (wpAny_field hos hds (x := vs) rfl (wpAny_pure ?_)))))))
  refine wpAny_bind (slicePart_ ps ?_)
  show wpAny _ _ (if ((-1 : Int) == 0) = true then _ else _) _ _ s
  rw [if_neg (by decide)]
  refine wpAny_bind (slicePart_ pl (wpAny_bind (slicePart_ pu (wpAny_bind (wpAny_pure ?_)))))
  show wpAny _ _ (match Builtin.Slice.sliceAdjust none none (-1) (n : Int) with | (lo, hi) => pure (lo, (-1 : Int), Builtin.Slice.slicePlaces lo hi (-1))) _ _ s
  show wpAny _ _ (pure ((n : Int) - 1, (-1 : Int), Builtin.Slice.slicePlaces ((n : Int) - 1) (-1) (-1))) _ _ s
  rw [places_rev]
  exact wpAny_pure h
theorem getItem_tuple_rev {t sl : Addr} {items : Array Value} {vl vu vs : Value} {Q : Value → Shared → Prop} (ht : IsTup s.heap t items) (hs : s.heap.IsSliceOf sl vl vu vs) (pl : IsPart vl none) (pu : IsPart vu none) (ps : IsPart vs (some (-1)))
    (h : Q (.ref s.heap.objs.size) { s with heap := s.heap.push { cls := .type "tuple", data := .seq items.toList.reverse.toArray } })
    (hsz : items.size ≤ sizeLine) : wpAny (model prog w) A (getItem (.ref t) (.ref sl)) Q E s := by
  have htake : sizeOk (.seq items.toList.reverse.toArray) := by
    show items.toList.reverse.toArray.size ≤ sizeLine
    rw [List.size_toArray, List.length_reverse, Array.length_toList]
    exact hsz
  obtain ⟨os, hos, hcs, hds⟩ := id hs
  have hTs : s.TypeIs (.ref sl) "slice" := ⟨os, hos, hcs⟩
  unfold getItem
  try with_reducible refine wpAny_holding ?_
  first | refine wpAny_bind (wpAny_pure ?_) | skip
  refine wpAny_bind (wpAny_sequenceKey ht.typeIs (by decide) ?_)
  refine wpAny_bind (wpAny_callSpecial?_slot (name := Str.ofString "__getitem__") ht.typeIs PyProof.Rows.slot_tuple_getitem
    (wpAny_call_entry PyProof.Rows.slot_tuple_getitem ht.typeIs entry_tuple_getitem ?_ (args_tuple_getitem _ _)))
  show wpAny _ _ (Builtin.Tuple.tupleItemsOf (.ref t) >>= _) _ _ s
  refine wpAny_bind (tupleItemsOf_ ht ?_)
  refine wpAny_bind (wpAny_typeOf hTs ?_)
  rw [if_pos (by decide)]
  refine wpAny_bind (sliceApplied_rev hs pl pu ps ?_)
  have hno : ¬ ((((items.size : Int) - 1) == 0 && (-1 : Int) == 1 && items.size == items.size) = true) := by
    intro q
    rw [Bool.and_eq_true, Bool.and_eq_true] at q
    exact absurd (show (-1 : Int) = 1 from eq_of_beq q.1.2) (by decide)
  show wpAny _ _ (if (((items.size : Int) - 1) == 0 && (-1 : Int) == 1 && items.size == items.size) = true then _ else _) _ _ s
  rw [if_neg hno, rev_pick]
  first
    | exact wpAny_bind (m := Builtin.Tuple.tupleExact _) (wpAny_newObj_type (wpAny_pure ⟨_, rfl, wpAny_pure h⟩) htake)
    | exact wpAny_bind (m := Builtin.Tuple.tupleExact _) (wpAny_newObj_type (wpAny_bind (wpAny_pure (wpAny_pure ⟨_, rfl, wpAny_pure h⟩))) htake)
    | exact wpAny_bind (wpAny_bind (m := Builtin.Tuple.tupleExact _) (wpAny_newObj_type (wpAny_pure (wpAny_pure ⟨_, rfl, wpAny_pure h⟩)) htake))
    | exact wpAny_bind (wpAny_bind (m := Builtin.Tuple.tupleExact _) (wpAny_newObj_type (wpAny_pure ⟨_, rfl, wpAny_pure h⟩) htake))
end
end HT
namespace L2
open PySem PySem.Spec PyProof.Rows
section
variable {X : Cx}
def tRevT (K : PySem.W.Frag) (te : TE) : TE := fun σ H Q => te σ H fun x H1 => ∃ a xs, x = .ref a ∧ SqT K H1 a xs ∧ ∀ p, H1 p = none → Q (.ref p) (upd H1 p (.tup xs.reverse))
theorem pe_revT {e : Expr} {te : TE} {k : Nat} {p1 p2 p3 pos : Pos} (he : PE X e te) : PE X (.Subscript e (.Slice none none (some (.UnaryOp .USub (.Constant (.int 1) k p1) p2)) p3) pos) (tRevT X.K te) := by
  refine ⟨fun pins s σ H Q I h => ?_⟩
  refine Subscript_ (thn (he.run pins s σ H _ I h) fun v s1 ⟨x, H1, I1, r1, q1⟩ => ?_)
  obtain ⟨a, xs, ex, hx, q⟩ := q1
  subst ex
  cases r1
  have hst : PO X (some (.UnaryOp .USub (.Constant (.int 1) k p1) p2)) (tPart (tUn (rU fun i => .int (-i)) (tC (.int 1)))) := po_some (pe_un un_neg pe_int)
  refine wpAny_Slice (thn (po_none.run pins s1 σ H1 (fun o H2 => o = none ∧ H2 = H1) I1 ⟨rfl, rfl⟩) fun vl s2 ⟨l, H2, I2, pl, el, e2⟩ => ?_)
  subst el e2
  refine thn (po_none.run pins s2 σ H2 (fun o H3 => o = none ∧ H3 = H2) I2 ⟨rfl, rfl⟩) fun vu s3 ⟨u, H3, I3, pu, eu, e3⟩ => ?_
  subst eu e3
  refine thn (hst.run pins s3 σ H3 (fun o H4 => o = some (-1) ∧ H4 = H3) I3 ⟨1, rfl, -1, rfl, rfl, rfl⟩) fun vs s4 ⟨o, H4, I4, ps, eo, e4⟩ => ?_
  subst eo e4
  have I5 : Inv X pins σ H4 { s4 with heap := s4.heap.push { cls := .type "slice", data := .fields #[vl, vu, vs] } } := I4.kept (t' := s4.toks) fun b ob q => Heap.get?_push_of_some _ q
  obtain ⟨its, r, ht, hz⟩ := I5.tuple hx
  show wpAny (model X.prog X.w) X.A (subscriptTail e (.Slice none none (some (.UnaryOp .USub (.Constant (.int 1) k p1) p2)) p3) (.ref a) (.ref s4.heap.objs.size)) (EP X pins σ Q) X.xe { s4 with heap := s4.heap.push { cls := .type "slice", data := .fields #[vl, vu, vs] } }
  refine tail_any (ops := [.ref a, .ref s4.heap.objs.size]) ht.typeIs (PyProof.Rows.slot_tuple_getitem.lookup) ?_ (by with_unfolding_all rfl)
  refine HT.getItem_tuple_rev ht (Heap.IsSliceOf.new _ vl vu vs) pl pu ps ?_ (by rw [List.size_toArray, ← r.length]; exact hz)
  refine ⟨.ref _, _, I5.laid (t' := s4.toks) (o := .tup xs.reverse) (fun b ob q => Heap.get?_push_of_some _ q) (Nat.le_refl _) ?_, rfl, q _ (I5.hok.fresh (Nat.le_refl _))⟩
  exact ⟨by rw [List.length_reverse]; exact hz, _, r.reverse, IsTup.new _ _⟩
end
end L2
set_option maxRecDepth 100000
namespace Vl
open PySem PySem.Spec PyProof.Rows L2
theorem band_eq (x y : Int) : band x y = Builtin.bitAnd x y := rfl
theorem flat_arr (a : List Nat) : ∀ n : Nat, (List.replicate n a.toArray).foldl (· ++ ·) #[] = (List.replicate n a).flatten.toArray := fun n => by
  have h : ∀ (n : Nat) (acc : List Nat), (List.replicate n a.toArray).foldl (· ++ ·) acc.toArray = (acc ++ (List.replicate n a).flatten).toArray := by
    intro n
    induction n with
    | zero => intro acc; simp
    | succ n ih =>
      intro acc
      rw [List.replicate_succ, List.foldl_cons, List.replicate_succ, List.flatten_cons]
      rw [show acc.toArray ++ a.toArray = (acc ++ a).toArray by simp, ih, List.append_assoc]
  have := h n []
  simpa using this
theorem mul_tx (a : List Nat) (k : Int) : PySem.Txt.mul (tx a) k = tx (List.replicate k.toNat a).flatten := by
  unfold PySem.Txt.mul
  by_cases h : k < 1
  · rw [if_pos h]
    have : k.toNat = 0 := by omega
    rw [this]
    rfl
  · rw [if_neg h]
    by_cases h2 : (k == 1 || (tx a).length == 0) = true
    · rw [if_pos h2]
      rw [Bool.or_eq_true, beq_iff_eq, beq_iff_eq, tx_len] at h2
      rcases h2 with h2 | h2
      · subst h2
        simp
      · have : a = [] := List.length_eq_zero_iff.mp h2
        subst this
        simp
    · rw [if_neg h2]
      show (⟨_⟩ : Str) = ⟨_⟩
      rw [← flat_arr]
      rfl
section
variable {X : Cx} {kA : KT}
theorem ok_bin (o : BOp) : OpR X (binaryOp (toB o)) (rB X.K kA (binop o)) := by
  cases o with
  | add => exact ok_add
  | sub =>
    intro pins s σ H x y v u Q I rx ry h
    obtain ⟨a, b, h, ι, R, ra, rb, k⟩ := h
    cases a with
    | int i => cases b with
      | int j =>
        cases ra; cases rb
        exact op_sub pins s σ H _ _ _ _ Q I rx ry ⟨i, j, rfl, rfl, k.here R rfl⟩
      | _ => exact k.no.elim
    | _ => cases b <;> exact k.no.elim
  | mul =>
    intro pins s σ H x y v u Q I rx ry h
    obtain ⟨a, b, h, ι, R, ra, rb, k⟩ := h
    cases a with
    | int i => cases b with
      | int j =>
        cases ra; cases rb
        obtain ⟨hc, k⟩ := KW.ite k
        refine op_mulX pins s σ H _ _ _ _ Q I rx ry ⟨i, j, rfl, rfl, ?_, k.here R rfl⟩
        rw [ibits_eq, ibits_eq] at hc
        unfold CMulX
        omega
      | _ => exact k.no.elim
    | str a => cases b with
      | int j =>
        cases ra; cases rb
        obtain ⟨⟨h1, h2, h3⟩, k⟩ := KW.ite k
        obtain ⟨t, rfl⟩ := rx
        obtain ⟨t', rfl⟩ := ry
        have q := k.here R rfl
        refine PySem.SB.mul ⟨?_, fun h4 _ => ?_, fun _ _ => ?_⟩ fun t1 k1 => ?_
        · rw [Bool.or_eq_false_iff]
          exact ⟨decide_eq_false (by omega), decide_eq_false (by omega)⟩
        · rw [tx_len]
          have e1 : (1 : Int) ≤ j := by omega
          intro hgt
          have h6 : (9000000000000 : Int) ≤ (2 ^ 63 - 1) / j := by
            refine Int.le_ediv_of_mul_le (by omega) ?_
            have : (9000000000000 : Int) * j ≤ 9000000000000 * 1000000 := Int.mul_le_mul_of_nonneg_left h3 (by decide)
            omega
          have h7 : a.length ≤ 1000000 := by
            have : a.length * 1 ≤ a.length * j.toNat := Nat.mul_le_mul_left _ (by omega)
            omega
          omega
        · rw [tx_len]
          unfold Builtin.Str.tooLong
          rw [sizeLine_eq]
          simp
          omega
        · rw [mul_tx]
          exact ⟨.str _, H, I.tok _, ⟨_, rfl⟩, q⟩
      | _ => exact k.no.elim
    | ref l => cases b with
      | int j =>
        have k : KW X.K kA ι H (match h[l]? with
          | some (.lst xs) => if xs.length * j.toNat ≤ LINE ∧ -1000000 ≤ j ∧ j ≤ 1000000 then alloc (.lst (List.replicate j.toNat xs).flatten) h else .stuck
          | _ => .stuck) Q := k
        split at k
        · rename_i xs e
          obtain ⟨⟨h1, h2, h3⟩, k⟩ := KW.ite k
          obtain ⟨p, us, rfl, _, q1, r1⟩ := R.lst e ra
          cases rb
          refine op_rep pins s σ H _ _ _ _ Q I rx ry ⟨p, j, us, rfl, rfl, q1, by omega, by omega, ?_, k.lst R (RWs.flat r1 _)⟩
          rw [← r1.len, ← LINE_eq]
          exact h1
        · exact k.no.elim
      | _ => exact k.no.elim
    | _ => cases b <;> exact k.no.elim
  | fdiv =>
    intro pins s σ H x y v u Q I rx ry h
    obtain ⟨a, b, h, ι, R, ra, rb, k⟩ := h
    cases a with
    | int i => cases b with
      | int j =>
        cases ra; cases rb
        obtain ⟨hc, k⟩ := KW.ite k
        exact op_fdivW pins s σ H _ _ _ _ Q I rx ry ⟨i, j, rfl, rfl, hc, k.here R rfl⟩
      | _ => exact k.no.elim
    | _ => cases b <;> exact k.no.elim
  | mod =>
    intro pins s σ H x y v u Q I rx ry h
    obtain ⟨a, b, h, ι, R, ra, rb, k⟩ := h
    cases a with
    | int i => cases b with
      | int j =>
        cases ra; cases rb
        obtain ⟨hc, k⟩ := KW.ite k
        exact op_mod pins s σ H _ _ _ _ Q I rx ry ⟨i, j, rfl, rfl, hc, k.here R rfl⟩
      | _ => exact k.no.elim
    | _ => cases b <;> exact k.no.elim
  | pow =>
    intro pins s σ H x y v u Q I rx ry h
    obtain ⟨a, b, h, ι, R, ra, rb, k⟩ := h
    cases a with
    | int i => cases b with
      | int j =>
        cases ra; cases rb
        obtain ⟨hc, k⟩ := KW.ite k
        exact op_pow pins s σ H _ _ _ _ Q I rx ry ⟨i, j, rfl, rfl, hc, k.here R rfl⟩
      | _ => exact k.no.elim
    | _ => cases b <;> exact k.no.elim
  | shl =>
    intro pins s σ H x y v u Q I rx ry h
    obtain ⟨a, b, h, ι, R, ra, rb, k⟩ := h
    cases a with
    | int i => cases b with
      | int j =>
        cases ra; cases rb
        obtain ⟨hc, k⟩ := KW.ite k
        refine op_shlW pins s σ H _ _ _ _ Q I rx ry ⟨i, j, rfl, rfl, ⟨hc.1, ?_⟩, k.here R rfl⟩
        rw [← ibits_eq]
        exact hc.2
      | _ => exact k.no.elim
    | _ => cases b <;> exact k.no.elim
  | shr =>
    intro pins s σ H x y v u Q I rx ry h
    obtain ⟨a, b, h, ι, R, ra, rb, k⟩ := h
    cases a with
    | int i => cases b with
      | int j =>
        cases ra; cases rb
        obtain ⟨hc, k⟩ := KW.ite k
        exact op_shr pins s σ H _ _ _ _ Q I rx ry ⟨i, j, rfl, rfl, hc, k.here R rfl⟩
      | _ => exact k.no.elim
    | _ => cases b <;> exact k.no.elim
  | band =>
    intro pins s σ H x y v u Q I rx ry h
    obtain ⟨a, b, h, ι, R, ra, rb, k⟩ := h
    cases a with
    | int i => cases b with
      | int j =>
        cases ra; cases rb
        exact op_and pins s σ H _ _ _ _ Q I rx ry ⟨i, j, rfl, rfl, k.here R rfl⟩
      | _ => exact k.no.elim
    | _ => cases b <;> exact k.no.elim
end

end Vl
set_option maxRecDepth 100000
namespace Vl
open PySem PySem.Spec PyProof.Rows L2
/-! ### data -/
mutual
def toD : W → PyData
  | .non => .none
  | .bl b => .bool b
  | .int i => .int i
  | .str s => .str (tx s)
  | .tup xs => .tuple (toDs xs)
  | _ => .none
def toDs : List W → List PyData
  | [] => []
  | x :: xs => toD x :: toDs xs
end
section
variable {K : PySem.W.Frag} {kA : KT} {ι : List Addr} {H : Hp}
mutual
theorem dp_of : ∀ {n : Nat} {w : W} {v : V}, RW K kA ι H w v → isD n w = true → Dp K H v (toD w)
  | _, .non, _, h, e => by cases (show _ = V.non from h); exact .non
  | _, .bl b, _, h, e => by cases (show _ = V.bl b from h); exact .bl b
  | _, .int i, _, h, e => by cases (show _ = V.int i from h); exact .int i
  | _, .str s, _, h, e => by cases (show _ = V.str (tx s) from h); exact .str _
  | n, .tup xs, _, h, e => by
    obtain ⟨a, ys, rfl, q, r⟩ := h
    unfold isD at e
    exact .tup q.seq (dps_of (n := n - 1) r (Bool.and_eq_true_iff.mp e).2)
  | _, .ref _, _, _, e | _, .ty _, _, _, e | _, .cls _ _, _, _, e | _, .kd _, _, _, e | _, .frz _, _, _, e => by cases e
theorem dps_of : ∀ {n : Nat} {w : List W} {v : List V}, RWs K kA ι H w v → isDs n w = true → DpAll K H v (toDs w)
  | _, [], _, h, e => by cases (show _ = [] from h); exact .nil
  | n, x :: xs, _, h, e => by
    obtain ⟨y, ys, rfl, q, r⟩ := h
    unfold isDs at e
    obtain ⟨e1, e2⟩ := Bool.and_eq_true_iff.mp e
    exact .cons (dp_of q e1) (dps_of r e2)
end
end
mutual
theorem lay_of : ∀ {n : Nat} {w : W}, isD n w = true → (toD w).canLay0 = true ∧ (toD w).depth ≤ n
  | _, .non, _ => ⟨rfl, Nat.zero_le _⟩
  | _, .bl b, _ => ⟨rfl, Nat.zero_le _⟩
  | _, .int i, _ => ⟨rfl, Nat.zero_le _⟩
  | _, .str s, e => by
    refine ⟨?_, Nat.zero_le _⟩
    show PyData.strOk (tx s) = true
    unfold isD at e
    unfold PyData.strOk tx
    simpa using e
  | n, .tup xs, e => by
    unfold isD at e
    obtain ⟨e1, e2⟩ := Bool.and_eq_true_iff.mp e
    obtain ⟨h1, h2⟩ := lays_of e2
    have : n ≠ 0 := by simpa using e1
    exact ⟨h1, by show PyData.depthAll (toDs xs) + 1 ≤ n; omega⟩
  | _, .ref _, e | _, .ty _, e | _, .cls _ _, e | _, .kd _, e | _, .frz _, e => by cases e
theorem lays_of : ∀ {n : Nat} {w : List W}, isDs n w = true → PyData.canLayAll0 (toDs w) = true ∧ PyData.depthAll (toDs w) ≤ n
  | _, [], _ => ⟨rfl, Nat.zero_le _⟩
  | n, x :: xs, e => by
    unfold isDs at e
    obtain ⟨e1, e2⟩ := Bool.and_eq_true_iff.mp e
    obtain ⟨h1, h2⟩ := lay_of e1
    obtain ⟨h3, h4⟩ := lays_of e2
    refine ⟨?_, ?_⟩
    · show ((toD x).canLay0 && PyData.canLayAll0 (toDs xs)) = true
      rw [h1, h3]
      rfl
    · show max (toD x).depth (PyData.depthAll (toDs xs)) ≤ n
      omega
end
theorem beq_tx (a b : List Nat) : (tx a == tx b) = (a == b) := by
  by_cases h : a = b
  · subst h
    rw [beq_self_eq_true, beq_self_eq_true]
  · have h2 : tx a ≠ tx b := fun e => h (tx_inj e)
    rw [beq_eq_false_iff_ne.mpr h, beq_eq_false_iff_ne.mpr h2]
mutual
theorem eqv_D : ∀ {n m : Nat} {a b : W}, isD n a = true → isD m b = true → PyData.eqv (toD a) (toD b) = eqvB a b
  | _, m, .non, b, _, e => by
    cases b <;> first | rfl | (exfalso; unfold isD at e; cases e)
  | _, m, .bl x, b, _, e => by
    cases b <;> first | rfl | (exfalso; unfold isD at e; cases e)
  | _, m, .int x, b, _, e => by
    cases b <;> first | rfl | (exfalso; unfold isD at e; cases e)
  | _, m, .str x, b, _, e => by
    cases b <;> first | exact beq_tx _ _ | rfl | (exfalso; unfold isD at e; cases e)
  | n, m, .tup xs, .tup ys, e1, e2 => by
    unfold isD at e1 e2
    exact eqvs_D (Bool.and_eq_true_iff.mp e1).2 (Bool.and_eq_true_iff.mp e2).2
  | n, m, .tup xs, .non, e1, e2 | n, m, .tup xs, .bl _, e1, e2 | n, m, .tup xs, .int _, e1, e2 | n, m, .tup xs, .str _, e1, e2 => rfl
  | n, m, .tup xs, .ref _, e1, e | n, m, .tup xs, .ty _, e1, e | n, m, .tup xs, .cls _ _, e1, e | n, m, .tup xs, .kd _, e1, e | n, m, .tup xs, .frz _, e1, e => by cases e
  | _, _, .ref _, _, e, _ | _, _, .ty _, _, e, _ | _, _, .cls _ _, _, e, _ | _, _, .kd _, _, e, _ | _, _, .frz _, _, e, _ => by cases e
theorem eqvs_D : ∀ {n m : Nat} {a b : List W}, isDs n a = true → isDs m b = true → PyData.eqvAll (toDs a) (toDs b) = eqvs a b
  | _, _, [], [], _, _ => rfl
  | _, _, [], _ :: _, _, _ => rfl
  | _, _, _ :: _, [], _, _ => rfl
  | n, m, x :: xs, y :: ys, e1, e2 => by
    unfold isDs at e1 e2
    obtain ⟨h1, h2⟩ := Bool.and_eq_true_iff.mp e1
    obtain ⟨h3, h4⟩ := Bool.and_eq_true_iff.mp e2
    show (PyData.eqv (toD x) (toD y) && PyData.eqvAll (toDs xs) (toDs ys)) = (eqvB x y && eqvs xs ys)
    rw [eqv_D h1 h3, eqvs_D h2 h4]
end
theorem shaped_of {w : W} (e : isD 60 w = true) : SeqAt.shaped (toD w) = true := by
  obtain ⟨h1, h2⟩ := lay_of e
  unfold SeqAt.shaped
  rw [h1, Bool.true_and]
  exact decide_eq_true (by omega)
theorem shapeds_of {w : List W} (e : isDs 60 w = true) : SeqAt.shaped (.list (toDs w)) = true := by
  obtain ⟨h1, h2⟩ := lays_of e
  unfold SeqAt.shaped
  show (PyData.canLayAll0 (toDs w) && _) = true
  rw [h1, Bool.true_and]
  exact decide_eq_true (by show PyData.depthAll (toDs w) + 1 ≤ 64; omega)
section
variable {X : Cx} {kA : KT}
/-- what == asks of two values -/
theorem eq_of {K : PySem.W.Frag} {ι : List Addr} {H : Hp} {a b : W} {h : L} {x y : V} {c : Bool} (R : Rep K kA ι h H) (ra : RW K kA ι H a x) (rb : RW K kA ι H b y) (e : eqh h a b = some c) :
    (∃ i j, x = .str i ∧ y = .str j ∧ c = decide (x = y)) ∨ ∃ d d', Dp K H x d ∧ Dp K H y d' ∧ SeqAt.shaped d = true ∧ SeqAt.shaped d' = true ∧ c = PyData.eqv d d' := by
  have two : ∀ {a b : W}, RW K kA ι H a x → RW K kA ι H b y → (if isD 60 a && isD 60 b then some (eqvB a b) else none) = some c → ∃ d d', Dp K H x d ∧ Dp K H y d' ∧ SeqAt.shaped d = true ∧ SeqAt.shaped d' = true ∧ c = PyData.eqv d d' := by
    intro a b ra rb e
    by_cases hd : (isD 60 a && isD 60 b) = true
    · rw [if_pos hd] at e
      obtain ⟨h1, h2⟩ := Bool.and_eq_true_iff.mp hd
      cases e
      exact ⟨_, _, dp_of ra h1, dp_of rb h2, shaped_of h1, shaped_of h2, (eqv_D h1 h2).symm⟩
    · rw [if_neg hd] at e
      cases e
  unfold eqh at e
  split at e
  · rename_i r r'
    split at e
    · rename_i xs ys e1 e2
      by_cases hd : (isDs 60 xs && isDs 60 ys) = true
      · rw [if_pos hd] at e
        obtain ⟨h1, h2⟩ := Bool.and_eq_true_iff.mp hd
        obtain ⟨p, us, rfl, _, q1, r1⟩ := R.lst e1 ra
        obtain ⟨p2, us2, rfl, _, q2, r2⟩ := R.lst e2 rb
        cases e
        exact .inr ⟨_, _, .lst (SqL.of q1) (dps_of r1 h1), .lst (SqL.of q2) (dps_of r2 h2), shapeds_of h1, shapeds_of h2, (eqvs_D h1 h2).symm⟩
      · rw [if_neg hd] at e
        cases e
    · cases e
  · unfold eqv at e
    split at e
    · rename_i s t _
      cases ra; cases rb
      cases e
      refine .inl ⟨tx s, tx t, rfl, rfl, ?_⟩
      rw [L2.dec_str, beq_tx]
    · exact .inr (two ra rb e)
def toC : COp → CmpOp
  | .eq => .Eq | .ne => .NotEq | .lt => .Lt | .le => .LtE | .gt => .Gt | .ge => .GtE | .is => .Is | .isnot => .IsNot | .inn => .In | .notin => .NotIn
theorem KW.ofB {K : PySem.W.Frag} {ι : List Addr} {H : Hp} {h : L} {Q : VK} {o : Option Bool} {n : Bool} (k : KW K kA ι H (ofB o n h) Q) (R : Rep K kA ι h H) : ∃ b, o = some b ∧ Q (.bl (if n then !b else b)) H := by
  cases o with
  | none => exact k.no.elim
  | some b => exact ⟨b, rfl, k.here R rfl⟩
theorem ok_eq (hu : X.A.units + 64 < cLine) : OpR X (compareOp .Eq) (rB X.K kA (fun x y h => ofB (eqh h x y) false h)) := by
  intro pins s σ H x y v u Q I rx ry h
  obtain ⟨a, b, h, ι, R, ra, rb, k⟩ := h
  obtain ⟨c, e, q⟩ := k.ofB R
  rcases eq_of R ra rb e with ⟨i, j, rfl, rfl, rfl⟩ | ⟨d, d', h1, h2, h3, h4, rfl⟩
  · exact op_eq pins s σ H _ _ _ _ Q I rx ry ⟨rfl, q⟩
  · exact op_eqD hu pins s σ H _ _ _ _ Q I rx ry ⟨d, d', h1, h2, h3, h4, q⟩
theorem ok_ne (hu : X.A.units + 64 < cLine) : OpR X (compareOp .NotEq) (rB X.K kA (fun x y h => ofB (eqh h x y) true h)) := by
  intro pins s σ H x y v u Q I rx ry h
  obtain ⟨a, b, h, ι, R, ra, rb, k⟩ := h
  obtain ⟨c, e, q⟩ := k.ofB R
  rcases eq_of R ra rb e with ⟨i, j, rfl, rfl, rfl⟩ | ⟨d, d', h1, h2, h3, h4, rfl⟩
  · exact op_ne pins s σ H _ _ _ _ Q I rx ry ⟨rfl, q⟩
  · exact op_neD hu pins s σ H _ _ _ _ Q I rx ry ⟨d, d', h1, h2, h3, h4, q⟩
end
end Vl
set_option maxRecDepth 100000
namespace Vl
open PySem PySem.Spec PyProof.Rows L2
/-- the tables of the top -/
structure KdOk (K : PySem.W.Frag) (w : World) (kA : KT) (kd : Kd) : Prop where
  at_ : ∀ (d : Nat) (kvs : List (List Nat × W)) (a : Addr), kd[d]? = some kvs → kA.kd d = some a → ∃ es n, KDict K w a es n ∧
    (∃ ys : List (L2.Key × V), (∀ ι H, RK K kA ι H kvs ys) ∧ Paired (fun (y : L2.Key × V) (e : DictEntry) => keyIs y.1 e.key = true ∧ RelV y.2 e.val) ys es.toList ∧ (ys.map (·.1)).Nodup) ∧ ∀ k : List Nat,
    (∀ v, lookK kvs k = some v → ∃ u x, PySem.W.nsIn K a (tx k) = some (some u) ∧ RelV x u ∧ ∀ ι H, RW K kA ι H v x) ∧ (lookK kvs k = none → PySem.W.nsIn K a (tx k) = some none)
section
variable {K : PySem.W.Frag} {kA : KT} {ι : List Addr} {H : Hp}
theorem flat_V {w : W} {v : V} (h : RW K kA ι H w v) (e : isFlat w = true) : flatV v = true := by
  cases w <;> first | (cases e; done) | (cases h; rfl)
theorem flats_V : ∀ {xs : List W} {ys : List V}, RWs K kA ι H xs ys → xs.all isFlat = true → ys.all flatV = true
  | [], _, h, _ => by cases (show _ = [] from h); rfl
  | x :: xs, _, h, e => by
    obtain ⟨y, ys, rfl, q, r⟩ := h
    rw [List.all_cons, Bool.and_eq_true] at e
    rw [List.all_cons, flat_V q e.1, flats_V r e.2]
    rfl
theorem eqv_V {a b : W} {x y : V} (ha : RW K kA ι H a x) (hb : RW K kA ι H b y) (ea : isFlat a = true) (eb : isFlat b = true) : eqV x y = eqvB a b := by
  cases a <;> first | (cases ea; done) | cases ha
  all_goals (cases b <;> first | (cases eb; done) | cases hb)
  all_goals first | rfl | exact beq_tx _ _
theorem any_V {a : W} {x : V} (ha : RW K kA ι H a x) (ea : isFlat a = true) : ∀ {xs : List W} {ys : List V}, RWs K kA ι H xs ys → xs.all isFlat = true → inV x ys = xs.any fun y => eqvB y a
  | [], _, h, _ => by cases (show _ = [] from h); rfl
  | b :: xs, _, h, e => by
    obtain ⟨y, ys, rfl, q, r⟩ := h
    rw [List.all_cons, Bool.and_eq_true] at e
    have ih := any_V ha ea r e.2
    unfold inV at ih ⊢
    rw [List.any_cons, List.any_cons, eqv_V q ha e.1 ea, ih]
theorem look_K : ∀ {kvs : List (List Nat × W)} {ys : List (L2.Key × V)} (k : List Nat), RK K kA ι H kvs ys → (∀ v, lookK kvs k = some v → ∃ x, valV ys (Sum.inr (tx k)) = some x ∧ RW K kA ι H v x) ∧ (lookK kvs k = none → valV ys (Sum.inr (tx k)) = none)
  | [], _, k, h => by
    cases (show _ = [] from h)
    exact ⟨fun v e => (by cases e), fun _ => rfl⟩
  | (a, w) :: r, _, k, h => by
    obtain ⟨y, ys, rfl, q, t⟩ := h
    have ih := look_K k t
    unfold lookK
    unfold valV at ih ⊢
    by_cases e : k = a
    · subst e
      rw [if_pos rfl]
      refine ⟨fun v e => ?_, fun e => (by cases e)⟩
      cases e
      exact ⟨y, by simp, q⟩
    · rw [if_neg e]
      have ne : ¬ (Sum.inr (tx a) : L2.Key) = Sum.inr (tx k) := fun z => e (tx_inj (Sum.inr.inj z)).symm
      rw [List.find?_cons_of_neg (by simpa using ne)]
      exact ih
theorem RK.len : ∀ {xs : List (List Nat × W)} {ys : List (L2.Key × V)}, RK K kA ι H xs ys → xs.length = ys.length
  | [], _, h => by cases (show _ = [] from h); rfl
  | (k, x) :: xs, _, h => by
    obtain ⟨y, ys, rfl, _, r⟩ := h
    exact congrArg Nat.succ (RK.len r)
theorem anyK : ∀ {kvs : List (List Nat × W)} {ys : List (L2.Key × V)} (k : List Nat), RK K kA ι H kvs ys → (ys.any fun kv => decide (kv.1 = Sum.inr (tx k))) = kvs.any fun p => decide (p.1 = k)
  | [], _, k, h => by cases (show _ = [] from h); rfl
  | (a, w) :: r, _, k, h => by
    obtain ⟨y, ys, rfl, q, t⟩ := h
    rw [List.any_cons, List.any_cons, anyK k t]
    congr 1
    by_cases e : a = k
    · subst e; simp
    · have ne : ¬ (Sum.inr (tx a) : L2.Key) = Sum.inr (tx k) := fun z => e (tx_inj (Sum.inr.inj z))
      rw [decide_eq_false e, decide_eq_false ne]
theorem mapK {v : W} {x : V} (hv : RW K kA ι H v x) (k : List Nat) : ∀ {kvs : List (List Nat × W)} {ys : List (L2.Key × V)}, RK K kA ι H kvs ys → RK K kA ι H (kvs.map fun p => if p.1 = k then (p.1, v) else p) (ys.map fun kv => if kv.1 = Sum.inr (tx k) then (kv.1, x) else kv)
  | [], _, h => by cases (show _ = [] from h); rfl
  | (a, w) :: r, _, h => by
    obtain ⟨y, ys, rfl, q, t⟩ := h
    rw [List.map_cons, List.map_cons]
    by_cases e : a = k
    · subst e
      rw [if_pos rfl, if_pos rfl]
      exact ⟨x, _, rfl, hv, mapK hv a t⟩
    · have ne : ¬ (Sum.inr (tx a) : L2.Key) = Sum.inr (tx k) := fun z => e (tx_inj (Sum.inr.inj z))
      rw [if_neg e, if_neg ne]
      exact ⟨y, _, rfl, q, mapK hv k t⟩
theorem RK.app : ∀ {xs zs : List (List Nat × W)} {ys us : List (L2.Key × V)}, RK K kA ι H xs ys → RK K kA ι H zs us → RK K kA ι H (xs ++ zs) (ys ++ us)
  | [], _, _, _, h, g => by cases (show _ = [] from h); exact g
  | (k, x) :: xs, _, _, _, h, g => by
    obtain ⟨y, ys, rfl, q, r⟩ := h
    exact ⟨y, _, rfl, q, RK.app r g⟩
theorem put_K {v : W} {x : V} (hv : RW K kA ι H v x) (k : List Nat) {kvs : List (List Nat × W)} {ys : List (L2.Key × V)} (h : RK K kA ι H kvs ys) : RK K kA ι H (putK kvs k v) (L2.putK ys (Sum.inr (tx k)) x) := by
  unfold putK L2.putK
  rw [anyK k h]
  split
  · exact mapK hv k h
  · exact RK.app h ⟨x, [], rfl, hv, rfl⟩
end
section
variable {X : Cx} {kA : KT} {kd : Kd}
theorem in_core (neg : Bool) (KD : KdOk X.K X.w kA kd) (hu : X.A.units + 64 < cLine) : OpR X (compareOp (if neg then .NotIn else .In)) (rB X.K kA (fun x y h => ofB (isIn kd h x y) neg h)) := by
  intro pins s σ H x y v u Q I rx ry h
  obtain ⟨a, b, h, ι, R, ra, rb, k⟩ := h
  obtain ⟨c, e, q⟩ := k.ofB R
  have flats : ∀ {xs : List W} {ys : List V} {p : Addr}, y = .ref p → (SqL X.K H p ys ∨ SqT X.K H p ys) → RWs X.K kA ι H xs ys → anyEq a xs = some c → wpAny (model X.prog X.w) X.A (compareOp (if neg then .NotIn else .In) v u) (EP X pins σ Q) X.xe s := by
    intro xs ys p ey hs r e
    subst ey
    unfold anyEq at e
    by_cases hf : (isFlat a && xs.all isFlat) = true
    · rw [if_pos hf] at e
      obtain ⟨f1, f2⟩ := Bool.and_eq_true_iff.mp hf
      cases e
      rw [← any_V ra f1 r f2] at q
      cases neg with
      | false => exact op_in_seq pins s σ H _ _ _ _ Q I rx ry ⟨p, ys, rfl, hs, flat_V ra f1, flats_V r f2, q⟩
      | true => exact op_notIn_seq pins s σ H _ _ _ _ Q I rx ry ⟨p, ys, rfl, hs, flat_V ra f1, flats_V r f2, q⟩
    · rw [if_neg hf] at e
      cases e
  unfold isIn at e
  cases b with
  | tup ys =>
    obtain ⟨p, us, ey, q1, r1⟩ := rb
    exact flats ey (.inr q1.seq) r1 e
  | ref r =>
    simp only at e
    split at e
    · rename_i ys e1
      obtain ⟨p, us, ey, _, q1, r1⟩ := R.lst e1 rb
      exact flats ey (.inl (SqL.of q1)) r1 e
    · rename_i kvs e1
      obtain ⟨p, us, ey, _, q1, r1⟩ := R.dic e1 rb
      subst ey
      cases a with
      | str z =>
        cases ra
        cases e
        obtain rfl : u = Value.ref p := ry
        have l := look_K z r1
        have hs : (valV us (Sum.inr (tx z))).isSome = (lookK kvs z).isSome := by
          cases el : lookK kvs z with
          | none => rw [l.2 el]; rfl
          | some v => obtain ⟨x, ex, _⟩ := l.1 v el; rw [ex]; rfl
        rw [← hs] at q
        cases neg with
        | false => exact d_in (by omega) I (DGet.k (k := Sum.inr (tx z)) q1) rx fun s' I' => ⟨.bl _, H, I', rfl, q⟩
        | true => exact d_notIn (by omega) I (DGet.k (k := Sum.inr (tx z)) q1) rx fun s' I' => ⟨.bl _, H, I', rfl, q⟩
      | _ => cases e
    · cases e
  | kd d =>
    cases a with
    | str z =>
      simp only at e
      split at e
      · rename_i z' kvs e1 e2
        cases e1
        cases e
        obtain ⟨p, ey, hp⟩ := rb
        subst ey
        cases ra
        obtain ⟨es, n, D, _, l⟩ := KD.at_ d kvs p e2 hp
        obtain ⟨l1, l2⟩ := l z
        cases el : lookK kvs z with
        | none =>
          rw [el] at q
          cases neg with
          | false => exact op_in_kd D pins s σ H _ _ _ _ Q I rx ry ⟨tx z, none, rfl, rfl, l2 el, q⟩
          | true => exact op_notIn_kd D pins s σ H _ _ _ _ Q I rx ry ⟨tx z, none, rfl, rfl, l2 el, q⟩
        | some vv =>
          rw [el] at q
          obtain ⟨u', x', e3, _⟩ := l1 vv el
          cases neg with
          | false => exact op_in_kd D pins s σ H _ _ _ _ Q I rx ry ⟨tx z, some u', rfl, rfl, e3, q⟩
          | true => exact op_notIn_kd D pins s σ H _ _ _ _ Q I rx ry ⟨tx z, some u', rfl, rfl, e3, q⟩
      · cases e
    | _ => cases e
  | str z =>
    cases rb
    simp only at e
    split at e
    · rename_i c'
      cases ra
      cases e
      cases neg with
      | false => exact op_in_sign pins s σ H _ _ _ _ Q I rx ry ⟨c', tx z, rfl, rfl, q⟩
      | true => exact op_notIn_sign pins s σ H _ _ _ _ Q I rx ry ⟨c', tx z, rfl, rfl, q⟩
    · cases e
  | _ => cases e
theorem is_core (neg : Bool) : OpR X (compareOp (if neg then .IsNot else .Is)) (rB X.K kA (fun x y h => ofB (isv x y) neg h)) := by
  intro pins s σ H x y v u Q I rx ry h
  obtain ⟨a, b, h, ι, R, ra, rb, k⟩ := h
  obtain ⟨c, e, q⟩ := k.ofB R
  cases b with
  | non =>
    cases rb
    have hx : decide (x = .non) = c := by
      cases a with
      | non => cases ra; cases e; rfl
      | bl _ => cases ra; cases e; rfl
      | int _ => cases ra; cases e; rfl
      | str _ => cases ra; cases e; rfl
      | tup _ => obtain ⟨_, _, rfl, _⟩ := ra; cases e; rfl
      | ref _ => obtain ⟨_, rfl, _⟩ := ra; cases e; rfl
      | ty _ => cases e
      | cls _ => cases e
      | kd _ => cases e
      | frz _ => cases e
    rw [← hx] at q
    cases neg with
    | false => exact op_isN pins s σ H _ _ _ _ Q I rx ry ⟨rfl, q⟩
    | true => exact op_notN pins s σ H _ _ _ _ Q I rx ry ⟨rfl, q⟩
  | bl b' =>
    cases a with
    | bl a' =>
      cases ra; cases rb; cases e
      cases neg with
      | false => exact op_is_bl pins s σ H _ _ _ _ Q I rx ry ⟨a', b', rfl, rfl, q⟩
      | true => exact op_isnot_bl pins s σ H _ _ _ _ Q I rx ry ⟨a', b', rfl, rfl, q⟩
    | _ => cases e
  | _ => cases a <;> cases e
theorem ord_core {op : CmpOp} {f : Int → Int → Bool} (rule : OpR X (compareOp op) (rI0 fun i j => .bl (f i j))) : OpR X (compareOp op) (rB X.K kA (fun x y h => match x, y with | .int a, .int b => .ok (.bl (f a b)) h | _, _ => .stuck)) := by
  intro pins s σ H x y v u Q I rx ry h
  obtain ⟨a, b, h, ι, R, ra, rb, k⟩ := h
  cases a with
  | int i => cases b with
    | int j =>
      cases ra; cases rb
      exact rule pins s σ H _ _ _ _ Q I rx ry ⟨i, j, rfl, rfl, k.here R rfl⟩
    | _ => exact k.no.elim
  | _ => exact k.no.elim
theorem ok_cmp (KD : KdOk X.K X.w kA kd) (hu : X.A.units + 64 < cLine) (o : COp) : OpR X (compareOp (toC o)) (rB X.K kA (cmpop kd o)) := by
  cases o with
  | eq => exact ok_eq hu
  | ne => exact ok_ne hu
  | lt => exact ord_core op_lt
  | le => exact ord_core op_le
  | gt => exact ord_core op_gt
  | ge => exact ord_core op_ge
  | is => exact is_core false
  | isnot => exact is_core true
  | inn => exact in_core false KD hu
  | notin => exact in_core true KD hu
/-- truth -/
theorem truV {K : PySem.W.Frag} {ι : List Addr} {H : Hp} {h : L} {w : W} {x : V} {b : Bool} (R : Rep K kA ι h H) (r : RW K kA ι H w x) (e : truth w h = some b) : TruV K x H b := by
  cases w with
  | non => cases r; cases e; rfl
  | bl c => cases r; cases e; rfl
  | int i => cases r; cases e; rfl
  | str z =>
    cases r
    have e : (if z.length ≤ LINE then some (!z.isEmpty) else none) = some b := e
    by_cases hz : z.length ≤ LINE
    · rw [if_pos hz] at e
      cases e
      refine ⟨by rw [tx_len, ← LINE_eq]; exact hz, ?_⟩
      rw [tx_len]
      cases z with
      | nil => rfl
      | cons a t =>
        have hn : ((a :: t).length : Int) ≠ 0 := by rw [List.length_cons]; omega
        exact (bne_iff_ne.mpr hn).symm
    · rw [if_neg hz] at e
      cases e
  | tup xs =>
    obtain ⟨p, us, rfl, q1, r1⟩ := r
    cases e
    refine .inr (.inl ⟨us, q1.seq, ?_⟩)
    have := r1.len
    cases xs <;> cases us <;> simp_all
  | ref r' =>
    unfold truth at e
    simp only at e
    split at e
    · rename_i xs e1
      obtain ⟨p, us, rfl, _, q1, r1⟩ := R.lst e1 r
      cases e
      refine .inl ⟨us, SqL.of q1, ?_⟩
      have := r1.len
      cases xs <;> cases us <;> simp_all
    · rename_i xs e1
      obtain ⟨p, us, rfl, _, q1, r1⟩ := R.dic e1 r
      cases e
      refine .inr (.inr ⟨us, q1, ?_⟩)
      have := r1.len
      cases xs <;> cases us <;> simp_all
    · cases e
  | _ => cases e
end
end Vl
set_option maxRecDepth 100000
namespace Vl
open PySem PySem.Spec PyProof.Rows L2
def rC (K : PySem.W.Frag) (kA : KT) (f : List W → L → R W) : List V → Hp → VK → Prop := fun vs H Q =>
  ∃ (ws : List W) (h : L) (ι : List Addr), Rep K kA ι h H ∧ RWs K kA ι H ws vs ∧ KW K kA ι H (f ws h) Q
def fval : BF → Value
  | .len => .builtin "len" | .isinst => .builtin "isinstance" | .toint => .type "int" | .tostr => .type "str" | .abs => .builtin "abs" | .max => .builtin "max" | .min => .builtin "min"
  | .tolist => .type "list" | .totup => .type "tuple" | .todict => .type "dict" | .tobool => .type "bool" | .repr => .builtin "repr" | .all => .builtin "all" | .any => .builtin "any" | .sum => .builtin "sum"
section
variable {K : PySem.W.Frag} {kA : KT} {ι : List Addr} {H : Hp} {h : L}
theorem RWs.one {w : W} {vs : List V} (r : RWs K kA ι H [w] vs) : ∃ v, vs = [v] ∧ RW K kA ι H w v := by
  obtain ⟨y, ys, rfl, q, r⟩ := r
  cases (show _ = [] from r)
  exact ⟨y, rfl, q⟩
theorem RWs.two {w w' : W} {vs : List V} (r : RWs K kA ι H [w, w'] vs) : ∃ v v', vs = [v, v'] ∧ RW K kA ι H w v ∧ RW K kA ι H w' v' := by
  obtain ⟨y, ys, rfl, q, r⟩ := r
  obtain ⟨y', rfl, q'⟩ := RWs.one r
  exact ⟨y, y', rfl, q, q'⟩
theorem items_V {x : W} {xs : List W} {v : V} (R : Rep K kA ι h H) (e : items h x = some xs) (r : RW K kA ι H x v) : ∃ p ys, v = .ref p ∧ (SqL K H p ys ∨ SqT K H p ys) ∧ RWs K kA ι H xs ys := by
  unfold items at e
  cases x with
  | tup zs =>
    cases e
    obtain ⟨p, us, rfl, q1, r1⟩ := r
    exact ⟨p, us, rfl, .inr q1.seq, r1⟩
  | frz zs =>
    cases e
    obtain ⟨p, us, rfl, q1, r1⟩ := r
    exact ⟨p, us, rfl, .inl q1.seq, r1⟩
  | ref i =>
    simp only at e
    split at e
    · rename_i zs e1
      cases e
      obtain ⟨p, us, rfl, _, q1, r1⟩ := R.lst e1 r
      exact ⟨p, us, rfl, .inl (SqL.of q1), r1⟩
    · cases e
  | _ => cases e
theorem ints_V : ∀ {xs : List W} {ys : List V} {ns : List Int}, RWs K kA ι H xs ys → intsW xs = some ns → ys = ns.map V.int
  | [], _, _, r, e => by cases (show _ = [] from r); cases e; rfl
  | x :: xs, _, ns, r, e => by
    obtain ⟨y, ys, rfl, q, r⟩ := r
    cases x with
    | int i =>
      cases q
      unfold intsW at e
      cases e2 : intsW xs with
      | none => rw [e2] at e; cases e
      | some ms =>
        rw [e2] at e
        cases e
        rw [ints_V r e2]
        rfl
    | _ => cases e
theorem bools_V : ∀ {xs : List W} {ys : List V} {ns : List Bool}, RWs K kA ι H xs ys → boolsW xs = some ns → ys = ns.map V.bl
  | [], _, _, r, e => by cases (show _ = [] from r); cases e; rfl
  | x :: xs, _, ns, r, e => by
    obtain ⟨y, ys, rfl, q, r⟩ := r
    cases x with
    | bl i =>
      cases q
      unfold boolsW at e
      cases e2 : boolsW xs with
      | none => rw [e2] at e; cases e
      | some ms =>
        rw [e2] at e
        cases e
        rw [bools_V r e2]
        rfl
    | _ => cases e
def TN.name : TN → String
  | .non => "NoneType" | .bool => "bool" | .int => "int" | .str => "str" | .tuple => "tuple" | .list => "list" | .dict => "dict"
theorem tyN_V {x : W} {v : V} {n : TN} (R : Rep K kA ι h H) (e : tyN x h = some n) (r : RW K kA ι H x v) : TyX K H v (.type n.name) := by
  cases x with
  | non => cases r; cases e; exact .base .non
  | bl b => cases r; cases e; exact .base (.bl b)
  | int b => cases r; cases e; exact .base (.int b)
  | str b => cases r; cases e; exact .base (.str _)
  | tup xs =>
    obtain ⟨p, us, rfl, q1, r1⟩ := r
    cases e
    rcases q1 with q1 | ⟨o, its, m, h1, h2, _⟩
    · exact .base (.tup q1)
    · exact .kTuple h1 h2
  | ref i =>
    unfold tyN at e
    simp only at e
    split at e
    · rename_i zs e1
      cases e
      obtain ⟨p, us, rfl, _, q1, r1⟩ := R.lst e1 r
      exact .base (.lst q1)
    · rename_i zs e1
      cases e
      obtain ⟨p, us, rfl, _, q1, r1⟩ := R.dic e1 r
      exact .base (.dK q1)
    · cases e
  | _ => cases e
end
theorem kit_all (K : PySem.W.Frag) (n : TN) (t : BT) : PySem.W.kitOne K (.type n.name) (.type t.name) = some (n.is t) := by
  have go : ∀ n ∈ [TN.non, .bool, .int, .str, .tuple, .list, .dict], ∀ t ∈ [BT.int, .bool, .str, .tuple, .list, .dict], kitB n.name t.name = some (n.is t) := by decide +kernel
  exact kit_ty (go n (by cases n <;> simp) t (by cases t <;> simp))
section
variable {K : PySem.W.Frag} {kA : KT} {ι : List Addr} {H : Hp} {h : L}
theorem tys_V (K' : PySem.W.Frag) (n : TN) : ∀ {ts : List W} {vs : List V} {l : List BT}, RWs K kA ι H ts vs → tysOf ts = some l → ∃ us, Paired ClsV vs us ∧ PySem.W.kitAny K' (.type n.name) us = some (l.any n.is)
  | [], _, _, q, e => by
    cases (show _ = [] from q)
    cases e
    exact ⟨[], .nil, rfl⟩
  | .ty t :: ts, _, l, q, e => by
    obtain ⟨y, ys, rfl, q1, q2⟩ := q
    cases q1
    unfold tysOf at e
    cases e2 : tysOf ts with
    | none => rw [e2] at e; cases e
    | some l' =>
      rw [e2] at e
      cases e
      obtain ⟨us, p1, p2⟩ := tys_V K' n q2 e2
      refine ⟨.type t.name :: us, .cons (.ty _) p1, kitAny_cons (kit_all K' n t) (fun z => ?_) (fun z => ?_)⟩
      · rw [List.any_cons, z]; simpa using p2
      · rw [List.any_cons, z]; rfl
  | .non :: _, _, _, _, e | .bl _ :: _, _, _, _, e | .int _ :: _, _, _, _, e | .str _ :: _, _, _, _, e | .tup _ :: _, _, _, _, e | .ref _ :: _, _, _, _, e | .cls _ _ :: _, _, _, _, e | .kd _ :: _, _, _, _, e | .frz _ :: _, _, _, _, e => by cases e
end
theorem strI_eq (i : Int) : tx (strI i) = Str.ofString (toString i) := by
  unfold strI tx Str.ofString
  rw [cpsOfBytes_string]
section
variable {X : Cx} {kA : KT} {kd : Kd}
theorem KW.items {K : PySem.W.Frag} {ι : List Addr} {H : Hp} {h : L} {Q : VK} {x : W} {f : List W → R W} (k : KW K kA ι H (match Vl.items h x with | some xs => f xs | none => .stuck) Q) : ∃ xs, Vl.items h x = some xs ∧ KW K kA ι H (f xs) Q := by
  cases e : Vl.items h x with
  | none => rw [e] at k; exact k.no.elim
  | some xs => rw [e] at k; exact ⟨xs, rfl, k⟩
theorem ok_len : CallR X (.builtin "len") (rC X.K kA (fun ws h => match ws with | [x] => bLen x h | _ => .stuck)) := by
  intro pins s σ H vs us Q I r h
  obtain ⟨ws, h, ι, R, rs, k⟩ := h
  match ws, rs, k with
  | [], _, k => exact k.no.elim
  | _ :: _ :: _, _, k => exact k.no.elim
  | [x], rs, k =>
    obtain ⟨v, rfl, q⟩ := rs.one
    have seq : (k : KW X.K kA ι H (match items h x with | some xs => .ok (.int xs.length) h | none => .stuck) Q) → wpAny (model X.prog X.w) X.A (PySem.call (.builtin "len") us) (EP X pins σ Q) X.xe s := by
      intro k
      obtain ⟨xs, e, k⟩ := KW.items k
      obtain ⟨p, ys, rfl, hs, r1⟩ := items_V R e q
      refine call_len pins s σ H _ _ Q I r ⟨_, ys.length, rfl, ?_, ?_⟩
      · rcases hs with hs | hs
        · exact .inl ⟨ys, hs, rfl⟩
        · exact .inr ⟨ys, hs, rfl⟩
      · rw [← r1.len]; exact k.here R rfl
    cases x with
    | str z =>
      cases q
      obtain ⟨hz, k⟩ := KW.ite k
      refine call_len pins s σ H _ _ Q I r ⟨_, _, rfl, ⟨?_, rfl⟩, ?_⟩
      · rw [tx_len, ← LINE_eq]; exact hz
      · rw [tx_len]; exact k.here R rfl
    | _ => exact seq k
theorem ok_int : CallR X (.type "int") (rC X.K kA (fun ws h => match ws with | [x] => bInt x h | _ => .stuck)) := by
  intro pins s σ H vs us Q I r h
  obtain ⟨ws, h, ι, R, rs, k⟩ := h
  match ws, rs, k with
  | [], _, k => exact k.no.elim
  | _ :: _ :: _, _, k => exact k.no.elim
  | [x], rs, k =>
    obtain ⟨v, rfl, q⟩ := rs.one
    cases x with
    | int i =>
      cases q
      exact call_int1 pins s σ H _ _ Q I r (.inl ⟨i, rfl, k.here R rfl⟩)
    | bl b =>
      cases q
      exact call_int1 pins s σ H _ _ Q I r (.inr ⟨b, rfl, k.here R rfl⟩)
    | str s0 =>
      cases q
      obtain ⟨⟨h1, h2, h3⟩, k⟩ := KW.ite (show KW X.K kA ι H (if s0.all isDig = true ∧ s0 ≠ [] ∧ s0.length ≤ 640 then .ok (.int (decV s0 : Nat)) h else .stuck) Q from k)
      have e : (tx s0).cps.toList = s0 := rfl
      refine call_int_str pins s σ H _ _ Q I r ⟨tx s0, _, rfl, intText_digits (x := tx s0) (fun c hc => ?_) h2 (by rw [tx_len]; omega), by rw [tx_len]; exact h3, k.here R rfl⟩
      have := List.all_eq_true.mp h1 c (by rw [e] at hc; exact hc)
      simp only [isDig, Bool.and_eq_true, decide_eq_true_eq] at this
      exact this
    | _ => exact k.no.elim
theorem ok_isi : CallR X (.builtin "isinstance") (rC X.K kA (fun ws h => match ws with | [x, t] => bIsi x t h | _ => .stuck)) := by
  intro pins s σ H vs us Q I r h
  obtain ⟨ws, h, ι, R, rs, k⟩ := h
  match ws, rs, k with
  | [], _, k => exact k.no.elim
  | [_], _, k => exact k.no.elim
  | _ :: _ :: _ :: _, _, k => exact k.no.elim
  | [x, t], rs, k =>
    obtain ⟨v, v', rfl, q, q'⟩ := rs.two
    cases t with
    | ty t =>
      cases q'
      obtain ⟨b, e, q2⟩ := KW.ofB k R
      unfold isT at e
      cases en : tyN x h with
      | none => rw [en] at e; cases e
      | some n =>
        rw [en] at e
        cases e
        exact call_isi pins s σ H _ _ Q I r ⟨_, _, _, _, _, rfl, .ty _, tyN_V R en q, kit_all X.K n t, q2⟩
    | tup ts =>
      obtain ⟨b, e, q2⟩ := KW.ofB k R
      obtain ⟨p, ys, rfl, ht, r1⟩ := q'
      unfold isTs at e
      cases en : tyN x h with
      | none => rw [en] at e; cases e
      | some n => cases el : tysOf ts with
        | none => rw [en, el] at e; cases e
        | some l =>
          rw [en, el] at e
          cases e
          obtain ⟨us', p1, p2⟩ := tys_V X.K n r1 el
          rcases ht with ht | ⟨o, its, m, h1, h2, h3, h4, h5⟩
          · exact call_isiT pins s σ H _ _ Q I r ⟨_, p, ys, _, us', _, rfl, ht, p1, tyN_V R en q, p2, q2⟩
          · obtain ⟨oc, od, dt, sl⟩ := o
            simp only at h2 h3
            subst h2 h3
            have e3 : its.toList = us' := ClsV.all p1 h5
            refine call_isiK pins s σ H _ _ Q I r ⟨_, p, od, its.toList, m, sl, _, _, rfl, h1, tyN_V R en q, ?_, q2⟩
            rw [e3]
            exact p2
    | _ => exact k.no.elim
theorem ok_cfn (hc : X.calm = true) (f : BF) {pins : List (Addr × Obj)} {s : Shared} {σ : L2.St} {H : Hp} {p : Addr} {ys : List V} {xs : List W} {us : List Value} {ι : List Addr} {h : L} {Q : VK} (I : L2.Inv X pins σ H s) (r : Vals [.ref p] us)
    (R : Rep X.K kA ι h H) (hs : SqL X.K H p ys) (r1 : RWs X.K kA ι H xs ys) (k : KW X.K kA ι H (cfn f xs h) Q) : wpAny (model X.prog X.w) X.A (PySem.call (fval f) us) (EP X pins σ Q) X.xe s := by
  cases f with
  | all =>
    have k : KW X.K kA ι H (match boolsW xs with | some bs => .ok (.bl (bs.all id)) h | none => .stuck) Q := k
    split at k
    · rename_i bs e
      exact cr_all hc pins s σ H _ _ Q I r ⟨p, bs, rfl, by rw [← bools_V r1 e]; exact hs, k.here R rfl⟩
    · exact k.no.elim
  | any =>
    have k : KW X.K kA ι H (match boolsW xs with | some bs => .ok (.bl (bs.any id)) h | none => .stuck) Q := k
    split at k
    · rename_i bs e
      exact cr_any hc pins s σ H _ _ Q I r ⟨p, bs, rfl, by rw [← bools_V r1 e]; exact hs, k.here R rfl⟩
    · exact k.no.elim
  | sum =>
    have k : KW X.K kA ι H (match intsW xs with | some bs => .ok (.int bs.sum) h | none => .stuck) Q := k
    split at k
    · rename_i bs e
      exact cr_sum hc pins s σ H _ _ Q I r ⟨p, bs, rfl, by rw [← ints_V r1 e]; exact hs, k.here R rfl⟩
    · exact k.no.elim
  | totup => exact call_tuple_of pins s σ H _ _ Q I r ⟨p, ys, rfl, .inl ⟨hs, k.tup R r1⟩⟩
  | len =>
    refine call_len pins s σ H _ _ Q I r ⟨_, ys.length, rfl, .inl ⟨ys, hs, rfl⟩, ?_⟩
    rw [← r1.len]
    exact k.here R rfl
  | _ => exact k.no.elim
theorem ok_lst (hc : X.calm = true) (f : BF) : CallR X (fval f) (rC X.K kA (fun ws h => match ws with | [x] => bLst f x h | _ => .stuck)) := by
  intro pins s σ H vs us Q I r h
  obtain ⟨ws, h, ι, R, rs, k⟩ := h
  match ws, rs, k with
  | [], _, k => exact k.no.elim
  | _ :: _ :: _, _, k => exact k.no.elim
  | [x], rs, k =>
    obtain ⟨v, rfl, q⟩ := rs.one
    cases x with
    | ref i =>
      have k : KW X.K kA ι H (match h[i]? with | some (.lst xs) => cfn f xs h | _ => .stuck) Q := k
      split at k
      · rename_i xs e
        obtain ⟨p, ys, rfl, _, q1, r1⟩ := R.lst e q
        exact ok_cfn hc f I r R (SqL.of q1) r1 k
      · exact k.no.elim
    | _ => exact k.no.elim
/-- a written dict is a dict -/
theorem kdict_of {P : PySem.Program} {w : World} {K : PySem.W.Frag} {a : Addr} {es : Array DictEntry} {n : Nat} {h : Heap} {ys : List (L2.Key × V)} (D : KDict K w a es n) (kin : K.In h)
    (hy : Paired (fun (y : L2.Key × V) (e : DictEntry) => keyIs y.1 e.key = true ∧ RelV y.2 e.val) ys es.toList) (hn : (ys.map (·.1)).Nodup) : ∃ vs, KV ys vs ∧ h.DictOf (mixKind P w) a vs := by
  have key : ∀ (l : List DictEntry) (ys : List (L2.Key × V)), Paired (fun (y : L2.Key × V) (e : DictEntry) => keyIs y.1 e.key = true ∧ RelV y.2 e.val) ys l → ∃ vs, KV ys vs ∧ Pairs (mixKind P w) l vs ∧ vs.map (·.1) = ys.map (·.1) := by
    intro l ys hp
    induction hp with
    | nil => exact ⟨[], .nil, .nil, rfl⟩
    | @cons y e ys es h1 _ ih =>
      obtain ⟨vs, v1, v2, v3⟩ := ih
      exact ⟨(y.1, e.val) :: vs, .cons ⟨rfl, h1.2⟩ v1, .cons h1.1 rfl v2, by simp [v3]⟩
  obtain ⟨vs, v1, v2, v3⟩ := key _ _ hy
  refine ⟨vs, v1, ⟨_, es, n, kin _ _ D.at_, ⟨rfl, rfl, rfl⟩, rfl, fun e he => ?_, v2, by rw [v3]; exact hn⟩⟩
  obtain ⟨x, t, q1, q2⟩ := PySem.W.KeysLit.all D.lit e (by simpa using he)
  exact ⟨.inr x, by rw [q1]; exact keyIs_str x t, q2⟩
theorem ok_todict {kd : Kd} (KD : KdOk X.K X.w kA kd) : CallR X (.type "dict") (rC X.K kA (bfn kd .todict)) := by
  intro pins s σ H vs us Q I r h
  obtain ⟨ws, h, ι, R, rs, k⟩ := h
  have k' := k
  simp only [bfn] at k'
  split at k'
  · rename_i d
    split at k'
    · rename_i kvs e
      obtain ⟨v, rfl, q⟩ := rs.one
      obtain ⟨a, rfl, ha⟩ := q
      obtain ⟨hz, k'⟩ := KW.ite k'
      obtain ⟨es, n, D, ⟨ys, y1, y2, y3⟩, _⟩ := KD.at_ d kvs a e ha
      obtain ⟨u, eu, rx⟩ := vals1 r
      subst eu
      cases rx
      obtain ⟨vs, rel, dd⟩ := kdict_of (P := X.prog) D I.kIn y2 y3
      have hlen : ys.length = kvs.length := (RK.len (y1 ι H)).symm
      have hm : (s.heap.objs.size == sysModules) = false := beq_eq_false_iff_ne.mpr (Nat.ne_of_gt I.big)
      have hl2 : ys.length ≤ sizeLine := by rw [hlen]; exact Nat.le_trans hz (by decide)
      refine kt_call_dict D.low dd (by rw [← rel.length]; exact hl2) fun h' d' hs => ?_
      exact ⟨.ref s.heap.objs.size, upd H s.heap.objs.size (.dK ys), I.laid (t' := s.toks) (fun b u e => (hs.2 b (Nat.ne_of_lt (Heap.lt_size e))).trans (Heap.get?_push_of_some _ e)) (Nat.le_refl _)
        (show ObjOk X.prog X.w _ _ _ (.dK ys) from ⟨hl2, hm, vs, rel, d'⟩), rfl, KW.dic k' R (y1 ι H) _ (I.hok.fresh (Nat.le_refl _))⟩
    · exact k'.no.elim
  · exact k'.no.elim
end
end Vl
set_option maxRecDepth 100000
namespace Vl
open PySem PySem.Spec PyProof.Rows L2
theorem ixN_eq (n : Nat) (i : Int) : Vl.ixN n i = L2.ixN n i := rfl
section
variable {K : PySem.W.Frag} {kA : KT} {ι : List Addr} {H : Hp} {h : L}
theorem at_V {xs : List W} {ys : List V} {i : Int} {w : W} (r : RWs K kA ι H xs ys) (e : Vl.atI xs i = some w) : ∃ v, L2.atI ys i = some v ∧ RW K kA ι H w v := by
  unfold Vl.atI at e
  unfold L2.atI
  rw [← r.len, ← ixN_eq]
  cases ei : Vl.ixN xs.length i with
  | none => rw [ei] at e; cases e
  | some j =>
    rw [ei] at e
    exact r.get (i := j) e
end
section
variable {X : Cx} {kA : KT} {kd : Kd}
theorem ok_sub (KD : KdOk X.K X.w kA kd) (hu : X.A.units + 64 < cLine) : IxR X (rB X.K kA (subv kd)) := by
  intro value slice pins s σ H x y v u Q I rx ry h hs
  obtain ⟨a, b, h, ι, R, ra, rb, k⟩ := h
  cases a with
  | tup xs => cases b with
    | int i =>
      cases rb
      have k : KW X.K kA ι H (match Vl.atI xs i with | some v => .ok v h | none => .stuck) Q := k
      split at k
      · rename_i w e
        obtain ⟨p, ys, rfl, ht, r1⟩ := ra
        obtain ⟨z, e1, q1⟩ := at_V r1 e
        exact ix_tup value slice pins s σ H _ _ _ _ Q I rx ry ⟨p, ys, i, z, rfl, rfl, ht.seq, e1, k.here R q1⟩ hs
      · exact k.no.elim
    | _ => exact k.no.elim
  | str z => cases b with
    | int i =>
      cases ra; cases rb
      obtain ⟨hz, k⟩ := KW.ite k
      split at k
      · rename_i c e
        refine ix_str value slice pins s σ H _ _ _ _ Q I rx ry ⟨tx z, i, c, rfl, rfl, by rw [tx_len, ← LINE_eq]; exact hz, ?_, k.here R rfl⟩ hs
        show L2.atI z.toArray.toList i = some c
        exact e
      · exact k.no.elim
    | _ => exact k.no.elim
  | ref r => cases b with
    | int i =>
      cases rb
      have k : KW X.K kA ι H (match h[r]? with | some (.lst xs) => (match Vl.atI xs i with | some v => .ok v h | none => .stuck) | _ => .stuck) Q := k
      split at k
      · rename_i xs e
        split at k
        · rename_i w e2
          obtain ⟨p, ys, rfl, _, q1, r1⟩ := R.lst e ra
          obtain ⟨z, e1, q2⟩ := at_V r1 e2
          exact ix_list value slice pins s σ H _ _ _ _ Q I rx ry ⟨p, ys, i, z, rfl, rfl, SqL.of q1, e1, k.here R q2⟩ hs
        · exact k.no.elim
      · exact k.no.elim
    | str z =>
      cases rb
      have k : KW X.K kA ι H (match h[r]? with | some (.dic kvs) => (match lookK kvs z with | some v => .ok v h | none => .stuck) | _ => .stuck) Q := k
      split at k
      · rename_i kvs e
        split at k
        · rename_i w e2
          obtain ⟨p, ys, rfl, _, q1, r1⟩ := R.dic e ra
          obtain ⟨z', e1, q2⟩ := (look_K z r1).1 w e2
          obtain rfl : v = Value.ref p := rx
          have g : DGet H p (.str (tx z)) (some z') := .inl ⟨ys, Sum.inr (tx z), .inl q1, rfl, e1.symm⟩
          exact tail_any (dict_typeIs I g) PySem.F.slot_dict_getitem.lookup (d_getItem (by omega) I g ry fun w' s3 I3 rw' => ⟨z', H, I3, rw', k.here R q2⟩) hs
        · exact k.no.elim
      · exact k.no.elim
    | _ => exact k.no.elim
  | kd d => cases b with
    | str z =>
      have k : KW X.K kA ι H (match kd[d]? with | some kvs => (match lookK kvs z with | some v => .ok v h | none => .stuck) | none => .stuck) Q := k
      split at k
      · rename_i kvs e
        split at k
        · rename_i w e2
          obtain ⟨p, rfl, hp⟩ := ra
          cases rb
          obtain ⟨es, n, D, _, l⟩ := KD.at_ d kvs p e hp
          obtain ⟨u', x', e3, e4, q2⟩ := (l z).1 w e2
          exact ix_kdict value slice pins s σ H _ _ _ _ Q I rx ry ⟨p, tx z, x', rfl, rfl, ⟨es, n, u', D.at_, D.lit, e3, e4⟩, k.here R (q2 ι H)⟩ hs
        · exact k.no.elim
      · exact k.no.elim
    | _ => exact k.no.elim
  | _ => cases b <;> exact k.no.elim
/-! ### slices -/
def ofO : Option Int → W
  | none => .non
  | some i => .int i
theorem cut_V {α β : Type} {xs : List α} {lo hi : Option Int} {ys : List α} (e : cut xs (ofO lo) (ofO hi) = some ys) : ys = (xs.drop (HT.sIx xs.length 0 lo)).take (HT.sIx xs.length xs.length hi - HT.sIx xs.length 0 lo) := by
  have h : ∀ (n d : Nat) (o : Option Int), sIx n d (ofO o) = some (HT.sIx n d o) := fun n d o => by cases o <;> rfl
  unfold cut at e
  rw [h, h] at e
  exact (Option.some.inj e).symm
def rS (K : PySem.W.Frag) (kA : KT) : V → Option Int → Option Int → Hp → VK → Prop := fun x lo hi H Q =>
  ∃ (a : W) (h : L) (ι : List Addr), Rep K kA ι h H ∧ RW K kA ι H a x ∧ KW K kA ι H (slcv a (ofO lo) (ofO hi) h) Q
theorem ok_slc : SlR X (rS X.K kA) := by
  intro pins s σ H x v vl vu lo hi sl Q I rx hs pl pu h
  obtain ⟨a, h, ι, R, ra, k⟩ := h
  cases a with
  | tup xs =>
    have k : KW X.K kA ι H (match cut xs (ofO lo) (ofO hi) with | some ys => .ok (.tup ys) h | none => .stuck) Q := k
    split at k
    · rename_i ys e
      obtain ⟨p, us, rfl, ht, r1⟩ := ra
      have e := cut_V (β := Unit) e
      subst e
      have hl := r1.len
      refine sl_tupA pins s σ H _ v vl vu lo hi sl Q I rx hs pl pu ⟨p, us, rfl, ht.seq, fun hw => ?_, fun hw => ?_⟩
      · refine k.here R ⟨p, us, rfl, ht, ?_⟩
        rw [← hl] at hw
        rw [hw.1, hw.2]
        simpa using r1
      · have := k.tup R ((r1.drop (HT.sIx xs.length 0 lo)).take (HT.sIx xs.length xs.length hi - HT.sIx xs.length 0 lo))
        rw [hl] at this
        exact this
    · exact k.no.elim
  | str z =>
    cases ra
    obtain ⟨hz, k⟩ := KW.ite k
    split at k
    · rename_i ys e
      have e := cut_V (β := Unit) e
      subst e
      refine sl_str pins s σ H _ v vl vu lo hi sl Q I rx hs pl pu ⟨tx z, rfl, by rw [tx_len, ← LINE_eq]; exact hz, ?_⟩
      have := k.here R (x := .str (tx _)) rfl
      unfold cutS
      rw [tx_len]
      exact this
    · exact k.no.elim
  | ref r =>
    have k : KW X.K kA ι H (match h[r]? with | some (.lst xs) => (match cut xs (ofO lo) (ofO hi) with | some ys => alloc (.lst ys) h | none => .stuck) | _ => .stuck) Q := k
    split at k
    · rename_i xs e1
      split at k
      · rename_i ys e
        obtain ⟨p, us, rfl, _, q1, r1⟩ := R.lst e1 ra
        have e := cut_V (β := Unit) e
        subst e
        have hl := r1.len
        refine sl_list pins s σ H _ v vl vu lo hi sl Q I rx hs pl pu ⟨p, us, rfl, SqL.of q1, ?_⟩
        have := k.lst R ((r1.drop (HT.sIx xs.length 0 lo)).take (HT.sIx xs.length xs.length hi - HT.sIx xs.length 0 lo))
        rw [hl] at this
        exact this
      · exact k.no.elim
    · exact k.no.elim
  | _ => exact k.no.elim
/-! ### methods -/
def rM (K : PySem.W.Frag) (kA : KT) (m : MT) : V → List V → Hp → VK → Prop := fun x vs H Q =>
  ∃ (a : W) (ws : List W) (h : L) (ι : List Addr), Rep K kA ι h H ∧ RW K kA ι H a x ∧ RWs K kA ι H ws vs ∧ KW K kA ι H (bmt m a ws h) Q
def mid : MT → String
  | .append => "list.append" | .extend => "list.extend" | .pop => "list.pop" | .bits => "int.bit_length" | .get => "dict.get"
theorem ok_append : MtR X "list.append" (rM X.K kA .append) := by
  intro pins s σ H x vs v us Q I rx r h
  obtain ⟨a, ws, h, ι, R, ra, rs, k⟩ := h
  cases a with
  | ref i =>
    match ws, rs, k with
    | [], _, k => exact k.no.elim
    | _ :: _ :: _, _, k => exact k.no.elim
    | [y], rs, k =>
      obtain ⟨z, rfl, q⟩ := rs.one
      have k : KW X.K kA ι H (match h[i]? with | some (.lst xs) => if xs.length < LINE then .ok .non (h.set i (.lst (xs ++ [y]))) else .stuck | _ => .stuck) Q := k
      split at k
      · rename_i xs e
        obtain ⟨hz, k⟩ := KW.ite k
        obtain ⟨p, ys, rfl, hp, q1, r1⟩ := R.lst e ra
        refine mt_append pins s σ H _ _ v us Q I rx r ⟨p, ys, z, rfl, rfl, q1, ?_, ?_⟩
        · rw [← r1.len, ← LINE_eq]; exact hz
        · exact k.set R hp (r1.app ⟨z, [], rfl, q, rfl⟩) rfl
      · exact k.no.elim
  | _ => exact k.no.elim
theorem ok_extend : MtR X "list.extend" (rM X.K kA .extend) := by
  intro pins s σ H x vs v us Q I rx r h
  obtain ⟨a, ws, h, ι, R, ra, rs, k⟩ := h
  cases a with
  | ref i =>
    match ws, rs, k with
    | [.ref j], rs, k =>
      obtain ⟨z, rfl, q⟩ := rs.one
      have k : KW X.K kA ι H (match h[i]?, h[j]? with | some (.lst xs), some (.lst ys) => if xs.length + ys.length ≤ LINE then .ok .non (h.set i (.lst (xs ++ ys))) else .stuck | _, _ => .stuck) Q := k
      split at k
      · rename_i xs ys' e e'
        obtain ⟨hz, k⟩ := KW.ite k
        obtain ⟨p, ys, rfl, hp, q1, r1⟩ := R.lst e ra
        obtain ⟨p2, ys2, rfl, hp2, q2, r2⟩ := R.lst e' q
        refine mt_extend pins s σ H _ _ v us Q I rx r ⟨p, p2, ys, ys2, rfl, rfl, q1, q2, ?_, ?_⟩
        · rw [← r1.len, ← r2.len, ← LINE_eq]; exact hz
        · exact k.set R hp (r1.app r2) rfl
      · exact k.no.elim
    | [], _, k | [.non], _, k | [.bl _], _, k | [.str _], _, k | [.tup _], _, k | [.int _], _, k | [.ty _], _, k | [.cls _ _], _, k | [.kd _], _, k | [.frz _], _, k => exact k.no.elim
    | a :: b :: c, _, k => cases a <;> exact k.no.elim
  | _ => exact k.no.elim
theorem ok_pop : MtR X "list.pop" (rM X.K kA .pop) := by
  intro pins s σ H x vs v us Q I rx r h
  obtain ⟨a, ws, h, ι, R, ra, rs, k⟩ := h
  cases a with
  | ref i =>
    match ws, rs, k with
    | [.int j], rs, k =>
      obtain ⟨z, rfl, q⟩ := rs.one
      cases q
      have k : KW X.K kA ι H (match h[i]? with | some (.lst xs) => (match seqI j xs.length with | some k => (match xs[k]? with | some y => .ok y (h.set i (.lst (xs.eraseIdx k))) | none => .stuck) | none => .stuck) | _ => .stuck) Q := k
      split at k
      · rename_i xs e
        split at k
        · rename_i m em
          split at k
          · rename_i y ey
            obtain ⟨p, ys, rfl, hp, q1, r1⟩ := R.lst e ra
            obtain ⟨y', ey', qy⟩ := r1.get ey
            unfold seqI at em
            split at em
            · rename_i hb
              refine mt_popAt pins s σ H _ _ v us Q I rx r ⟨p, ys, j, m, y', rfl, rfl, q1, hb.1, hb.2, ?_, ey', ?_⟩
              · rw [← r1.len]
                exact (ixN_seq em).1
              · exact k.set R hp (r1.erase m) qy
            · cases em
          · exact k.no.elim
        · exact k.no.elim
      · exact k.no.elim
    | [], _, k | [.non], _, k | [.bl _], _, k | [.str _], _, k | [.tup _], _, k | [.ref _], _, k | [.ty _], _, k | [.cls _ _], _, k | [.kd _], _, k | [.frz _], _, k => exact k.no.elim
    | a :: b :: c, _, k => cases a <;> exact k.no.elim
  | _ => exact k.no.elim
end
end Vl
set_option maxRecDepth 100000
namespace Vl
open PySem PySem.Spec PyProof.Rows L2
/-! ### repr -/
theorem join_tx : ∀ l : List (List Nat), Str.join ", " (l.map tx) = tx (joinC l)
  | [] => rfl
  | [x] => rfl
  | x :: y :: r => by
    have ih := join_tx (y :: r)
    show tx x ++ ", " ++ Str.join ", " ((y :: r).map tx) = _
    rw [ih, show ((", " : String) : Str) = tx [44, 32] from by decide +kernel, tx_app, tx_app]
    rfl
theorem tupT_tx (l : List (List Nat)) : tupleText (l.map tx) = tx (tupT l) := by
  unfold tupleText tupT
  rw [join_tx, List.length_map]
  rw [show (("(" : String) : Str) = tx [40] from by decide +kernel]
  by_cases h : (l.length == 1) = true
  · rw [if_pos h, if_pos h, show ((",)" : String) : Str) = tx [44, 41] from by decide +kernel, tx_app, tx_app]
  · rw [if_neg h, if_neg h, show ((")" : String) : Str) = tx [41] from by decide +kernel, tx_app, tx_app]
theorem lstT_tx (l : List (List Nat)) : listText (l.map tx) = tx (lstT l) := by
  rw [listText_eq_join, join_tx, show (("[" : String) : Str) = tx [91] from by decide +kernel, show (("]" : String) : Str) = tx [93] from by decide +kernel, tx_app, tx_app]
  rfl
theorem prt : ∀ c : Nat, 32 ≤ c → c ≤ 126 → Unicode.isPrintable c = true := by
  have h : ∀ i : Fin 95, Unicode.isPrintable (32 + i.val) = true := by decide +kernel
  intro c h1 h2
  have := h ⟨c - 32, by omega⟩
  rw [show 32 + (c - 32) = c from by omega] at this
  exact this
theorem reprC {c : Nat} (h1 : 32 ≤ c) (h2 : c ≤ 126) (h3 : c ≠ 39) (h4 : c ≠ 92) : Builtin.Str.reprChar 39 c = [c] := by
  unfold Builtin.Str.reprChar
  have e3 : (c == 39) = false := by simpa using h3
  have e4 : (c == 92) = false := by simpa using h4
  have e5 : (c == 10) = false := by simp; omega
  have e6 : (c == 13) = false := by simp; omega
  have e7 : (c == 9) = false := by simp; omega
  simp only [e3, e4, e5, e6, e7, Bool.or_self, prt c h1 h2]
  rfl
theorem strT_tx {s t : List Nat} (e : strT s = some t) : reprText (tx s) = tx t := by
  unfold strT at e
  split at e
  · rename_i hs
    cases e
    have ok : ∀ c ∈ s, 32 ≤ c ∧ c ≤ 126 ∧ c ≠ 39 ∧ c ≠ 92 := fun c hc => by
      have := List.all_eq_true.mp hs c hc
      simp only [Bool.and_eq_true, decide_eq_true_eq, bne_iff_ne] at this
      exact ⟨this.1.1.1, this.1.1.2, this.1.2, this.2⟩
    have q : reprQuote (tx s) = 39 := by
      unfold reprQuote tx
      have : s.contains 39 = false := by
        cases z : s.contains 39 with
        | false => rfl
        | true => exact absurd rfl (ok 39 (List.contains_iff_mem.mp z)).2.2.1
      rw [List.contains_toArray, this]
      rfl
    unfold reprText
    rw [q]
    have go : ∀ (l : List Nat) (acc : Array Nat), (∀ c ∈ l, 32 ≤ c ∧ c ≤ 126 ∧ c ≠ 39 ∧ c ≠ 92) → l.foldl (fun out c => out ++ (Builtin.Str.reprChar 39 c).toArray) acc = acc ++ l.toArray := by
      intro l
      induction l with
      | nil => intro acc _; simp
      | cons c l ih =>
        intro acc hl
        obtain ⟨a1, a2, a3, a4⟩ := hl c List.mem_cons_self
        rw [List.foldl_cons, reprC a1 a2 a3 a4, ih _ fun z hz => hl z (List.mem_cons_of_mem _ hz)]
        simp [Array.append_assoc]
    unfold tx
    rw [← Array.foldl_toList, go s _ ok]
    congr 1
    simp
  · cases e
section
variable {K : PySem.W.Frag} {kA : KT} {ι : List Addr} {H : Hp} {h : L}
/-- what is shown of a value: its data -/
theorem shw_D (R : Rep K kA ι h H) : ∀ (n : Nat) {w : W} {v : V} {s : List Nat}, RW K kA ι H w v → shw h n w = some s → ∃ d, Dp K H v d ∧ d.shown = tx s ∧ d.showable = true ∧ d.hasDict = false ∧ d.depth ≤ n := by
  intro n
  induction n with
  | zero =>
    intro w v s r e
    cases w with
    | non => cases (show v = V.non from r); cases e; exact ⟨_, .non, by decide +kernel, rfl, rfl, Nat.le_refl _⟩
    | bl b => cases (show v = V.bl b from r); cases b <;> cases e <;> exact ⟨_, .bl _, by decide +kernel, rfl, rfl, Nat.le_refl _⟩
    | int i =>
      cases (show v = V.int i from r)
      simp only [shw] at e
      split at e
      · rename_i hz
        cases e
        exact ⟨_, .int i, by rw [strI_eq]; rfl, by simpa [PyData.showable] using hz, rfl, Nat.le_refl _⟩
      · cases e
    | str t => cases (show v = V.str (tx t) from r); exact ⟨_, .str _, strT_tx e, rfl, rfl, Nat.le_refl _⟩
    | _ => simp [shw] at e
  | succ n ih =>
    have all : ∀ {ws : List W} {vs : List V} {ts : List (List Nat)}, RWs K kA ι H ws vs → mapO (shw h n) ws = some ts → ∃ ds, DpAll K H vs ds ∧ PyData.shownAll ds = ts.map tx ∧ PyData.showableAll ds = true ∧ PyData.hasDictAll ds = false ∧ PyData.depthAll ds ≤ n := by
      intro ws
      induction ws with
      | nil =>
        intro vs ts r e
        cases (show vs = [] from r)
        cases e
        exact ⟨[], .nil, rfl, rfl, rfl, Nat.zero_le _⟩
      | cons w ws ihs =>
        intro vs ts r e
        obtain ⟨y, ys, rfl, q, r⟩ := r
        simp only [mapO] at e
        cases e1 : shw h n w with
        | none => rw [e1] at e; cases e
        | some t =>
          rw [e1] at e
          obtain ⟨ts', e2, rfl⟩ := Option.map_eq_some_iff.mp e
          obtain ⟨d, d1, d2, d3, d4, d5⟩ := ih q e1
          obtain ⟨ds, s1, s2, s3, s4, s5⟩ := ihs r e2
          refine ⟨d :: ds, .cons d1 s1, by simp [PyData.shownAll, d2, s2], by simp [PyData.showableAll, d3, s3], by simp [PyData.hasDictAll, d4, s4], ?_⟩
          show max d.depth (PyData.depthAll ds) ≤ n
          omega
    intro w v s r e
    cases w with
    | non => cases (show v = V.non from r); cases e; exact ⟨_, .non, by decide +kernel, rfl, rfl, Nat.zero_le _⟩
    | bl b => cases (show v = V.bl b from r); cases b <;> cases e <;> exact ⟨_, .bl _, by decide +kernel, rfl, rfl, Nat.zero_le _⟩
    | int i =>
      cases (show v = V.int i from r)
      simp only [shw] at e
      split at e
      · rename_i hz
        cases e
        exact ⟨_, .int i, by rw [strI_eq]; rfl, by simpa [PyData.showable] using hz, rfl, Nat.zero_le _⟩
      · cases e
    | str t => cases (show v = V.str (tx t) from r); exact ⟨_, .str _, strT_tx e, rfl, rfl, Nat.zero_le _⟩
    | tup xs =>
      obtain ⟨a, ys, rfl, q, r⟩ := r
      simp only [shw] at e
      obtain ⟨ts, e2, rfl⟩ := Option.map_eq_some_iff.mp e
      obtain ⟨ds, s1, s2, s3, s4, s5⟩ := all r e2
      exact ⟨.tuple ds, .tup q.seq s1, by show tupleText (PyData.shownAll ds) = _; rw [s2, tupT_tx], s3, s4, by show PyData.depthAll ds + 1 ≤ n + 1; omega⟩
    | frz xs =>
      obtain ⟨a, ys, rfl, q, r⟩ := r
      simp only [shw] at e
      obtain ⟨ts, e2, rfl⟩ := Option.map_eq_some_iff.mp e
      obtain ⟨ds, s1, s2, s3, s4, s5⟩ := all r e2
      exact ⟨.list ds, .lst q.seq s1, by show listText (PyData.shownAll ds) = _; rw [s2, lstT_tx], s3, s4, by show PyData.depthAll ds + 1 ≤ n + 1; omega⟩
    | ref i =>
      simp only [shw] at e
      split at e
      · rename_i xs e1
        obtain ⟨ts, e2, rfl⟩ := Option.map_eq_some_iff.mp e
        obtain ⟨p, ys, rfl, _, q1, r1⟩ := R.lst e1 r
        obtain ⟨ds, s1, s2, s3, s4, s5⟩ := all r1 e2
        exact ⟨.list ds, .lst (SqL.of q1) s1, by show listText (PyData.shownAll ds) = _; rw [s2, lstT_tx], s3, s4, by show PyData.depthAll ds + 1 ≤ n + 1; omega⟩
      · cases e
    | _ => simp [shw] at e
end
section
variable {X : Cx} {kA : KT}
theorem ok_repr {kd : Kd} (hg : X.A.guards = some []) (hu : X.A.units + 64 < cLine) : CallR X (.builtin "repr") (rC X.K kA (bfn kd .repr)) := by
  intro pins s σ H vs us Q I r h
  obtain ⟨ws, h, ι, R, rs, k⟩ := h
  simp only [bfn] at k
  split at k
  · rename_i x
    obtain ⟨v, rfl, q⟩ := rs.one
    split at k
    · rename_i t e
      obtain ⟨hz, k⟩ := KW.ite k
      obtain ⟨u, rfl, ru⟩ := vals1 r
      obtain ⟨d, d1, d2, d3, d4, d5⟩ := shw_D R 60 q e
      have kk := k.here R (x := .str (tx t)) rfl
      have hsz : d.shown.length ≤ sizeLine := by rw [d2, tx_len, ← LINE_eq]; exact hz
      obtain ⟨as, rd⟩ := Dp.reads I d v u d1 ru
      have fin : ∀ {h' : Heap} {tk tk' : Nat}, (∀ b o, s.heap.get? b = some o → h'.get? b = some o) → EP X pins σ Q (.str d.shown tk') { s with heap := h', toks := tk } := fun {h' tk tk'} hk =>
        ⟨.str (tx t), H, I.kept hk, ⟨tk', by rw [d2]⟩, kk⟩
      have keep : ∀ b o, s.heap.get? b = some o → s.heap.get? b = some o := fun _ _ e => e
      cases rd with
      | none => exact PySem.P.repr_of_none (fin keep)
      | bool b => exact PySem.P.repr_of_bool (fin keep)
      | int i tk => exact PySem.P.repr_of_int (by simpa [PyData.showable] using d3) (fin keep)
      | str y tk => exact PySem.P.repr_of_str (fin keep) hsz
      | list a1 a2 a3 a4 => exact PySem.repr_of_reads' (.list a1 a2 a3 a4) d3 (fun z => by rw [d4] at z; cases z) hg (by omega) keep (fun h' u tk hk => fin hk) hsz
      | tuple a1 a2 a3 a4 => exact PySem.repr_of_reads' (.tuple a1 a2 a3 a4) d3 (fun z => by rw [d4] at z; cases z) hg (by omega) keep (fun h' u tk hk => fin hk) hsz
      | dict a1 a2 a3 a4 a5 => cases d1

    · exact k.no.elim
  · exact k.no.elim
theorem ok_bf {kd : Kd} (KD : KdOk X.K X.w kA kd) (hc : X.calm = true) (hg : X.A.guards = some []) (hu : X.A.units + 64 < cLine) (f : BF) : CallR X (fval f) (rC X.K kA (bfn kd f)) := by
  cases f with
  | len => exact ok_len
  | isinst => exact ok_isi
  | toint => exact ok_int
  | tostr =>
    intro pins s σ H vs us Q I r h
    obtain ⟨ws, h, ι, R, rs, k⟩ := h
    have k' := k
    simp only [bfn] at k'
    split at k'
    · rename_i i
      obtain ⟨v, rfl, q⟩ := rs.one
      cases q
      obtain ⟨hz, k'⟩ := KW.ite k'
      refine call_str_int pins s σ H _ _ Q I r ⟨i, rfl, hz, ?_⟩
      have := k'.here R (x := .str (tx (strI i))) rfl
      rw [strI_eq] at this
      exact this
    · exact k'.no.elim
  | abs =>
    intro pins s σ H vs us Q I r h
    obtain ⟨ws, h, ι, R, rs, k⟩ := h
    have k' := k
    simp only [bfn] at k'
    split at k'
    · rename_i i
      obtain ⟨v, rfl, q⟩ := rs.one
      cases q
      exact call_abs pins s σ H _ _ Q I r ⟨i, rfl, k'.here R rfl⟩
    · exact k'.no.elim
  | max =>
    intro pins s σ H vs us Q I r h
    obtain ⟨ws, h, ι, R, rs, k⟩ := h
    have k' := k
    simp only [bfn] at k'
    split at k'
    · rename_i i j
      obtain ⟨v, v', rfl, q, q'⟩ := rs.two
      cases q; cases q'
      exact call_max2 hc pins s σ H _ _ Q I r ⟨i, j, rfl, k'.here R rfl⟩
    · exact k'.no.elim
  | min =>
    intro pins s σ H vs us Q I r h
    obtain ⟨ws, h, ι, R, rs, k⟩ := h
    have k' := k
    simp only [bfn] at k'
    split at k'
    · rename_i i j
      obtain ⟨v, v', rfl, q, q'⟩ := rs.two
      cases q; cases q'
      exact call_min2 hc pins s σ H _ _ Q I r ⟨i, j, rfl, k'.here R rfl⟩
    · exact k'.no.elim
  | tolist =>
    intro pins s σ H vs us Q I r h
    obtain ⟨ws, h, ι, R, rs, k⟩ := h
    match ws, rs, k with
    | [], _, k => exact k.no.elim
    | _ :: _ :: _, _, k => exact k.no.elim
    | [x], rs, k =>
      obtain ⟨v, rfl, q⟩ := rs.one
      obtain ⟨xs, e, k⟩ := KW.items (f := fun xs => alloc (.lst xs) h) k
      obtain ⟨p, ys, rfl, hs, r1⟩ := items_V R e q
      exact call_list_of pins s σ H _ _ Q I r ⟨p, ys, rfl, hs, k.lst R r1⟩
  | totup =>
    intro pins s σ H vs us Q I r h
    obtain ⟨ws, h, ι, R, rs, k⟩ := h
    match ws, rs, k with
    | [], _, k => exact k.no.elim
    | _ :: _ :: _, _, k => exact k.no.elim
    | [x], rs, k =>
      obtain ⟨v, rfl, q⟩ := rs.one
      cases x with
      | tup xs =>
        obtain ⟨p, ys, rfl, ht, r1⟩ := q
        exact call_tuple_of pins s σ H _ _ Q I r ⟨p, ys, rfl, .inr ⟨ht.seq, k.here R ⟨p, ys, rfl, ht, r1⟩⟩⟩
      | ref i => exact ok_lst hc .totup pins s σ H _ _ Q I r ⟨[.ref i], h, ι, R, ⟨v, [], rfl, q, rfl⟩, k⟩
      | _ => exact k.no.elim
  | all => exact ok_lst hc .all
  | any => exact ok_lst hc .any
  | sum => exact ok_lst hc .sum
  | todict => exact ok_todict KD
  | tobool => intro pins s σ H vs us Q I r h; obtain ⟨ws, h, ι, R, rs, k⟩ := h; exact k.no.elim
  | repr => exact ok_repr hg hu
end
end Vl
set_option maxRecDepth 100000
namespace Vl
open PySem PySem.Spec PyProof.Rows L2
/-- what is raised, and what it is in the hand layer -/
def XD (K : PySem.W.Frag) (kA : KT) (c : Nat) (fs : List (List Nat × W)) (ι : List Addr) (H : Hp) (cls : Value) (d : Option Addr) : Prop :=
  ∃ C, kA.cl c = some C ∧ cls = .ref C ∧ ((d = none ∧ fs = []) ∨ ∃ dd ys, d = some dd ∧ H dd = some (.xd ys) ∧ dd ∉ ι ∧ RF K kA ι H fs ys)
/-- a step of ours ends well, and P holds wherever it may end; or it raises, as it is wished -/
def KG {α : Type} (K : PySem.W.Frag) (kA : KT) (wx : WX) (σ : L2.St) (ι : List Addr) (H : Hp) (r : R α) (P : List Addr → Hp → L → α → Prop) : Prop :=
  (∃ v h', r = .ok v h' ∧ ∀ ι' H', Ext ι H ι' H' → Rep K kA ι' h' H' → P ι' H' h' v) ∨
  ∃ c fs h', r = .exc c fs h' ∧ ∀ ι' H', Ext ι H ι' H' → Rep K kA ι' h' H' → ∀ cls d, XD K kA c fs ι' H' cls d → wx cls d σ H'
/-- nothing is raised -/
class NoX {α : Type} (r : R α) : Prop where
  ne : ∀ c fs h', r ≠ .exc c fs h'
section
variable {α β : Type} {K : PySem.W.Frag} {kA : KT} {wx : WX} {σ : L2.St} {ι : List Addr} {H : Hp} {h : L} {r : R α} {P : List Addr → Hp → L → β → Prop}
theorem KG.bind {f : α → L → R β} (k : KG K kA wx σ ι H (r.bind f) P) : KG K kA wx σ ι H r fun ι1 H1 h1 v => KG K kA wx σ ι1 H1 (f v h1) P := by
  cases r with
  | ok v h1 =>
    refine .inl ⟨v, h1, rfl, fun ι1 H1 e1 R1 => ?_⟩
    rcases k with ⟨w, h2, e, k⟩ | ⟨c, fs, h2, e, k⟩
    · exact .inl ⟨w, h2, e, fun ι2 H2 e2 R2 => k ι2 H2 (e1.trans e2) R2⟩
    · exact .inr ⟨c, fs, h2, e, fun ι2 H2 e2 R2 => k ι2 H2 (e1.trans e2) R2⟩
  | exc c fs h1 =>
    rcases k with ⟨w, h2, e, k⟩ | ⟨c', fs', h2, e, k⟩
    · cases e
    · cases e
      exact .inr ⟨c, fs, h1, rfl, k⟩
  | stuck =>
    rcases k with ⟨w, h2, e, k⟩ | ⟨c', fs', h2, e, k⟩ <;> cases e
theorem KG.impE {P P' : List Addr → Hp → L → α → Prop} (k : KG K kA wx σ ι H r P) (i : ∀ ι' H' h' v, r = .ok v h' → Ext ι H ι' H' → Rep K kA ι' h' H' → P ι' H' h' v → P' ι' H' h' v) : KG K kA wx σ ι H r P' := by
  rcases k with ⟨v, h', e, k⟩ | k
  · exact .inl ⟨v, h', e, fun ι' H' e1 R1 => i _ _ _ _ e e1 R1 (k ι' H' e1 R1)⟩
  · exact .inr k
theorem KG.imp {P P' : List Addr → Hp → L → α → Prop} (k : KG K kA wx σ ι H r P) (i : ∀ ι' H' h' v, Ext ι H ι' H' → Rep K kA ι' h' H' → P ι' H' h' v → P' ι' H' h' v) : KG K kA wx σ ι H r P' := k.impE fun _ _ _ _ _ => i _ _ _ _
theorem KG.here {P : List Addr → Hp → L → α → Prop} {v : α} (k : KG K kA wx σ ι H (.ok v h) P) (R : Rep K kA ι h H) : P ι H h v := by
  rcases k with ⟨_, _, e, k⟩ | ⟨_, _, _, e, _⟩
  · cases e
    exact k ι H Ext.refl R
  · cases e
theorem KG.of {P : List Addr → Hp → L → α → Prop} {v : α} (p : ∀ ι' H', Ext ι H ι' H' → Rep K kA ι' h H' → P ι' H' h v) : KG K kA wx σ ι H (.ok v h) P := .inl ⟨v, h, rfl, p⟩
theorem KG.no {P : List Addr → Hp → L → α → Prop} (k : KG K kA wx σ ι H (.stuck) P) : False := by
  rcases k with ⟨_, _, e, _⟩ | ⟨_, _, _, e, _⟩ <;> cases e
theorem KG.okE [n : NoX r] {P : List Addr → Hp → L → α → Prop} (k : KG K kA wx σ ι H r P) : ∃ v h', r = .ok v h' ∧ ∀ ι' H', Ext ι H ι' H' → Rep K kA ι' h' H' → P ι' H' h' v := by
  rcases k with k | ⟨c, fs, h', e, _⟩
  · exact k
  · exact absurd e (n.ne c fs h')
theorem KG.kw {r : R W} [NoX r] {Q : VK} (k : KG K kA wx σ ι H r fun ι' H' _ v => ∀ x, RW K kA ι' H' v x → Q x H') : KW K kA ι H r Q := by
  obtain ⟨v, h', e, k⟩ := k.okE
  exact ⟨v, h', e, fun ι' H' x e1 R1 => k ι' H' e1 R1 x⟩
theorem KG.ite {P : List Addr → Hp → L → α → Prop} {c : Prop} [Decidable c] {a : R α} (k : KG K kA wx σ ι H (if c then a else .stuck) P) : c ∧ KG K kA wx σ ι H a P := by
  by_cases hc : c
  · rw [if_pos hc] at k
    exact ⟨hc, k⟩
  · rw [if_neg hc] at k
    exact k.no.elim
theorem KG.at {P : List Addr → Hp → L → α → Prop} {v : α} {h' : L} {ι' : List Addr} {H' : Hp} (k : KG K kA wx σ ι H r P) (e : r = .ok v h') (x : Ext ι H ι' H') (R : Rep K kA ι' h' H') : P ι' H' h' v := by
  rcases k with ⟨_, _, e', k⟩ | ⟨_, _, _, e', _⟩
  · rw [e] at e'
    cases e'
    exact k ι' H' x R
  · rw [e] at e'
    cases e'
theorem KG.move {P : List Addr → Hp → L → α → Prop} {ι' : List Addr} {H' : Hp} (k : KG K kA wx σ ι H r P) (x : Ext ι H ι' H') : KG K kA wx σ ι' H' r P := by
  rcases k with ⟨v, hv, q, k⟩ | ⟨c, fs, hv, q, k⟩
  · exact .inl ⟨v, hv, q, fun ι'' H'' xx RR => k ι'' H'' (x.trans xx) RR⟩
  · exact .inr ⟨c, fs, hv, q, fun ι'' H'' xx RR => k ι'' H'' (x.trans xx) RR⟩
/-- other slots, where the wish does not look at them -/
theorem KG.slots {P : List Addr → Hp → L → α → Prop} {σ' : L2.St} (hw : ∀ c d σ σ' H, wx c d σ H → wx c d σ' H) (k : KG K kA wx σ ι H r P) : KG K kA wx σ' ι H r P := by
  rcases k with k | ⟨c, fs, h', e, k⟩
  · exact .inl k
  · exact .inr ⟨c, fs, h', e, fun ι' H' e1 R1 cls d x => hw _ _ _ _ _ (k ι' H' e1 R1 cls d x)⟩
end
/-- a step of ours ends well: nothing is raised -/
def K0 {α : Type} (K : PySem.W.Frag) (kA : KT) (ι : List Addr) (H : Hp) (r : R α) (P : List Addr → Hp → L → α → Prop) : Prop :=
  ∃ v h', r = .ok v h' ∧ ∀ ι' H', Ext ι H ι' H' → Rep K kA ι' h' H' → P ι' H' h' v
section
variable {α β : Type} {K : PySem.W.Frag} {kA : KT} {wx : WX} {σ : L2.St} {ι : List Addr} {H : Hp} {h : L} {r : R α} {P : List Addr → Hp → L → β → Prop}
theorem K0.kg {P : List Addr → Hp → L → α → Prop} (k : K0 K kA ι H r P) : KG K kA wx σ ι H r P := .inl k
theorem KG.k0 [NoX r] {P : List Addr → Hp → L → α → Prop} (k : KG K kA wx σ ι H r P) : K0 K kA ι H r P := k.okE
theorem K0.bind {f : α → L → R β} (k : K0 K kA ι H (r.bind f) P) : K0 K kA ι H r fun ι1 H1 h1 v => K0 K kA ι1 H1 (f v h1) P := by
  obtain ⟨w, h2, e, k⟩ := k
  cases r with
  | ok v h1 => exact ⟨v, h1, rfl, fun ι1 H1 e1 R1 => ⟨w, h2, e, fun ι2 H2 e2 R2 => k ι2 H2 (e1.trans e2) R2⟩⟩
  | exc c fs h => cases e
  | stuck => cases e
theorem K0.imp {P P' : List Addr → Hp → L → α → Prop} (k : K0 K kA ι H r P) (i : ∀ ι' H' h' v, Ext ι H ι' H' → Rep K kA ι' h' H' → P ι' H' h' v → P' ι' H' h' v) : K0 K kA ι H r P' := by
  obtain ⟨v, h', e, k⟩ := k
  exact ⟨v, h', e, fun ι' H' e1 R1 => i _ _ _ _ e1 R1 (k ι' H' e1 R1)⟩
theorem K0.here {P : List Addr → Hp → L → α → Prop} {v : α} (k : K0 K kA ι H (.ok v h) P) (R : Rep K kA ι h H) : P ι H h v := by
  obtain ⟨_, _, e, k⟩ := k
  cases e
  exact k ι H Ext.refl R
theorem K0.no {P : List Addr → Hp → L → α → Prop} (k : K0 K kA ι H (.stuck) P) : False := by
  obtain ⟨_, _, e, _⟩ := k
  cases e
theorem K0.kw {r : R W} {Q : VK} (k : K0 K kA ι H r fun ι' H' _ v => ∀ x, RW K kA ι' H' v x → Q x H') : KW K kA ι H r Q := by
  obtain ⟨v, h', e, k⟩ := k
  exact ⟨v, h', e, fun ι' H' x e1 R1 => k ι' H' e1 R1 x⟩
theorem K0.ite {P : List Addr → Hp → L → α → Prop} {c : Prop} [Decidable c] {a : R α} (k : K0 K kA ι H (if c then a else .stuck) P) : c ∧ K0 K kA ι H a P := by
  by_cases hc : c
  · rw [if_pos hc] at k
    exact ⟨hc, k⟩
  · rw [if_neg hc] at k
    exact k.no.elim
theorem K0.calm {P : List Addr → Hp → L → α → Prop} (k : K0 K kA ι H r.calm P) : K0 K kA ι H r P := by
  cases r with
  | ok v h => exact k
  | exc c fs h => exact (K0.no k).elim
  | stuck => exact k
/-- what may not raise, and then -/
theorem KG.calm {f : α → L → R β} (k : KG K kA wx σ ι H (r.calm.bind f) P) : K0 K kA ι H r fun ι1 H1 h1 v => KG K kA wx σ ι1 H1 (f v h1) P := by
  cases r with
  | ok v h1 =>
    refine ⟨v, h1, rfl, fun ι1 H1 e1 R1 => ?_⟩
    rcases k with ⟨w, h2, e, k⟩ | ⟨c, fs, h2, e, k⟩
    · exact .inl ⟨w, h2, e, fun ι2 H2 e2 R2 => k ι2 H2 (e1.trans e2) R2⟩
    · exact .inr ⟨c, fs, h2, e, fun ι2 H2 e2 R2 => k ι2 H2 (e1.trans e2) R2⟩
  | exc c fs h => exact (KG.no k).elim
  | stuck => exact (KG.no k).elim
end
instance nx_ok {α : Type} {v : α} {h : L} : NoX (R.ok v h) := ⟨fun _ _ _ e => by cases e⟩
instance nx_stuck {α : Type} : NoX (R.stuck : R α) := ⟨fun _ _ _ e => by cases e⟩
instance nx_ite {α : Type} {c : Prop} [Decidable c] {a b : R α} [NoX a] [NoX b] : NoX (if c then a else b) := ⟨fun c fs h e => by
  split at e
  · exact NoX.ne _ _ _ e
  · exact NoX.ne _ _ _ e⟩
instance nx_calm {α : Type} {r : R α} : NoX r.calm := ⟨fun _ _ _ e => by cases r <;> cases e⟩
instance nx_alloc {o : O} {h : L} : NoX (alloc o h) := ⟨fun _ _ _ e => by cases e⟩
theorem ofB_ne {o : Option Bool} {n : Bool} {h : L} {c fs h'} : ofB o n h ≠ .exc c fs h' := by cases o <;> intro e <;> cases e
instance nx_bin {o : BOp} {x y : W} {h : L} : NoX (binop o x y h) := ⟨fun c fs h' e => by
  unfold binop at e
  repeat' split at e
  all_goals first | cases e | exact nx_alloc.ne _ _ _ e⟩
instance nx_aug {o : BOp} {x y : W} {h : L} : NoX (augop o x y h) := ⟨fun c fs h' e => by
  unfold augop at e
  repeat' split at e
  all_goals cases e⟩
instance nx_cmp {kd : Kd} {o : COp} {x y : W} {h : L} : NoX (cmpop kd o x y h) := ⟨fun c fs h' e => by
  unfold cmpop at e
  repeat' split at e
  all_goals first | cases e | exact ofB_ne e⟩
instance nx_sub {kd : Kd} {x y : W} {h : L} : NoX (subv kd x y h) := ⟨fun c fs h' e => by
  unfold subv at e
  repeat' split at e
  all_goals cases e⟩
instance nx_slc {x y z : W} {h : L} : NoX (slcv x y z h) := ⟨fun c fs h' e => by
  unfold slcv at e
  repeat' split at e
  all_goals first | cases e | exact nx_alloc.ne _ _ _ e⟩
instance nx_rev {x : W} {h : L} : NoX (revv x h) := ⟨fun c fs h' e => by
  unfold revv at e
  repeat' split at e
  all_goals first | cases e | exact nx_alloc.ne _ _ _ e⟩
theorem cfn_ne {f : BF} {xs : List W} {h : L} {c fs h'} : cfn f xs h ≠ .exc c fs h' := by
  intro e
  unfold cfn at e
  repeat' split at e
  all_goals cases e
instance nx_cfn {f : BF} {xs : List W} {h : L} : NoX (cfn f xs h) := ⟨fun c fs h' => cfn_ne⟩
theorem bLst_ne {f : BF} {x : W} {h : L} {c fs h'} : bLst f x h ≠ .exc c fs h' := by
  intro e
  unfold bLst at e
  repeat' split at e
  all_goals first | cases e | exact cfn_ne e
instance nx_bfn {kd : Kd} {f : BF} {xs : List W} {h : L} : NoX (bfn kd f xs h) := ⟨fun c fs h' e => by
  unfold bfn bLen bIsi bInt bTup at e
  repeat' split at e
  all_goals first | cases e | exact nx_alloc.ne _ _ _ e | exact bLst_ne e | exact ofB_ne e⟩
instance nx_bmt {m : MT} {x : W} {xs : List W} {h : L} : NoX (bmt m x xs h) := ⟨fun c fs h' e => by
  unfold bmt mAppend mExtend mPop at e
  repeat' split at e
  all_goals cases e⟩
theorem turns_ne {held : List (Nat × List W)} {f : W → L → R (Option W)} : ∀ (items : List W) (h : L) (acc : List W) (c fs h'), turns held f items h acc ≠ .exc c fs h'
  | [], h, acc, c, fs, h', e => by
    unfold turns at e
    split at e <;> cases e
  | x :: xs, h, acc, c, fs, h', e => by
    unfold turns at e
    split at e
    · cases q : f x h with
      | ok r h1 =>
        rw [q] at e
        simp only [R.calm_ok, R.bind_ok] at e
        cases r with
        | some y =>
          simp only at e
          split at e
          · exact turns_ne xs _ _ _ _ _ e
          · cases e
        | none => exact turns_ne xs _ _ _ _ _ e
      | exc _ _ _ => rw [q] at e; cases e
      | stuck => rw [q] at e; cases e
    · cases e
instance nx_turns {held : List (Nat × List W)} {f : W → L → R (Option W)} {items acc : List W} {h : L} : NoX (turns held f items h acc) := ⟨fun c fs h' => turns_ne items h acc c fs h'⟩
instance nx_put {x y v : W} {h : L} : NoX (putv x y v h) := ⟨fun c fs h' e => by
  unfold putv at e
  repeat' split at e
  all_goals cases e⟩
section
variable (K : PySem.W.Frag) (kA : KT) (wx : WX)
/-- a computation over slots, as a reading of a kind -/
def tG {α β : Type} (rel : List Addr → Hp → L → α → β → Prop) (c : Env → L → R α) : L2.St → Hp → (β → Hp → Prop) → Prop := fun σ H Q =>
  ∃ (ε : Env) (h : L) (ι : List Addr), Rep K kA ι h H ∧ RE K kA ι H ε σ ∧ KG K kA wx σ ι H (c ε h) fun ι' H' h' v => ∀ x, rel ι' H' h' v x → Q x H'
abbrev relW : List Addr → Hp → L → W → V → Prop := fun ι H _ v x => RW K kA ι H v x
abbrev relWs : List Addr → Hp → L → List W → List V → Prop := fun ι H _ v x => RWs K kA ι H v x
abbrev tE (c : Env → L → R W) : TE := tG K kA wx (relW K kA) c
abbrev tAs (c : Env → L → R (List W)) : TA := tG K kA wx (relWs K kA) c
/-- a test -/
def tT (c : Env → L → R W) : TT := fun σ H Q =>
  ∃ (ε : Env) (h : L) (ι : List Addr), Rep K kA ι h H ∧ RE K kA ι H ε σ ∧ KG K kA wx σ ι H (c ε h) fun ι' H' h' v => ∃ b, truth v h' = some b ∧ Q b H'
end
theorem _root_.L2.PE.wk {X : Cx} {e : Expr} {t t' : TE} (h : PE X e t) (i : ∀ σ H Q, t' σ H Q → t σ H Q) : PE X e t' := ⟨fun pins s σ H Q I q => h.run pins s σ H Q I (i σ H Q q)⟩
theorem _root_.L2.PT.wk {X : Cx} {e : Expr} {t t' : TT} (h : PT X e t) (i : ∀ σ H Q, t' σ H Q → t σ H Q) : PT X e t' := ⟨fun pins s σ H Q I q => h.run pins s σ H Q I (i σ H Q q)⟩
theorem _root_.L2.PW.wk {X : Cx} {e : Expr} {t t' : TT} (h : PW X e t) (i : ∀ σ H Q, t' σ H Q → t σ H Q) : PW X e t' := ⟨fun wh pins s σ H Q I q => h.run wh pins s σ H Q I (i σ H Q q)⟩
theorem _root_.L2.PA.wk {X : Cx} {e : List Expr} {t t' : TA} (h : PA X e t) (i : ∀ σ H Q, t' σ H Q → t σ H Q) : PA X e t' := ⟨fun p pins s σ H Q I q => h.run p pins s σ H Q I (i σ H Q q)⟩
theorem _root_.L2.PS.wk {X : Cx} {e : Stmt} {t t' : TS} (h : PS X e t) (i : ∀ D σ H, t' D σ H → t D σ H) : PS X e t' := ⟨fun pins s σ H D I q => h.run pins s σ H D I (i D σ H q)⟩
theorem _root_.L2.PSs.wk {X : Cx} {e : List Stmt} {t t' : TS} (h : PSs X e t) (i : ∀ D σ H, t' D σ H → t D σ H) : PSs X e t' := ⟨fun pins s σ H D I q => h.run pins s σ H D I (i D σ H q)⟩
section
variable {X : Cx} {kA : KT} {wx : WX} {kd : Kd} {C : Orc} {a b c : Expr} {ca cb cc : E} {pos : Pos}
theorem e_bin (o : BOp) (ha : PE X a (tE X.K kA wx (ev C kd (ca)))) (hb : PE X b (tE X.K kA wx (ev C kd (cb)))) : PE X (.BinOp a (toB o) b pos) (tE X.K kA wx (ev C kd ((.bin o ca cb)))) :=
  (pe_op (ok_bin (kA := kA) o) ha hb).wk fun σ H Q ⟨ε, h, ι, R, E, k⟩ => by
    refine ⟨ε, h, ι, R, E, (KG.bind (show KG X.K kA wx σ ι H ((ev C kd ca ε h).bind fun x h => (ev C kd cb ε h).bind fun y h => binop o x y h) _ from k)).imp fun ι1 H1 h1 v e1 R1 k1 x rx => ?_⟩
    refine ⟨ε, h1, ι1, R1, RE.ext R.out e1 E, (KG.bind k1).imp fun ι2 H2 h2 w e2 R2 k2 y ry => ?_⟩
    exact ⟨v, w, h2, ι2, R2, RW.ext R1.out e2 rx, ry, k2.kw⟩
theorem e_neg (ha : PE X a (tE X.K kA wx (ev C kd (ca)))) : PE X (.UnaryOp .USub a pos) (tE X.K kA wx (ev C kd ((.neg ca)))) :=
  (pe_un un_neg ha).wk fun σ H Q ⟨ε, h, ι, R, E, k⟩ => by
    refine ⟨ε, h, ι, R, E, (KG.bind (show KG X.K kA wx σ ι H ((ev C kd ca ε h).bind fun x h => match x with | .int i => .ok (W.int (-i)) h | _ => .stuck) _ from k)).imp fun ι1 H1 h1 v e1 R1 k1 x rx => ?_⟩
    cases v with
    | int i => cases rx; exact ⟨i, rfl, k1.here R1 _ rfl⟩
    | _ => exact k1.no.elim
theorem e_not (ha : PE X a (tE X.K kA wx (ev C kd (ca)))) : PE X (.UnaryOp .Not a pos) (tE X.K kA wx (ev C kd ((.not ca)))) :=
  (pe_notT ha).wk fun σ H Q ⟨ε, h, ι, R, E, k⟩ => by
    simp only [ev] at k
    refine ⟨ε, h, ι, R, E, (KG.bind k).imp fun ι1 H1 h1 v e1 R1 k1 x rx => ?_⟩
    cases e : truth v h1 with
    | none => rw [e] at k1; exact k1.no.elim
    | some b => rw [e] at k1; exact ⟨b, truV R1 rx e, k1.here R1 _ rfl⟩
theorem e_and {rest : List Expr} (ha : PE X a (tE X.K kA wx (ev C kd (ca)))) (hb : PE X (.BoolOp .And (b :: rest) pos) (tE X.K kA wx (ev C kd (cb)))) : PE X (.BoolOp .And (a :: b :: rest) pos) (tE X.K kA wx (ev C kd ((.and ca cb)))) :=
  (pe_andT ha hb).wk fun σ H Q ⟨ε, h, ι, R, E, k⟩ => by
    refine ⟨ε, h, ι, R, E, (KG.bind (show KG X.K kA wx σ ι H ((ev C kd ca ε h).bind fun x h => match truth x h with | some true => ev C kd cb ε h | some false => .ok x h | none => .stuck) _ from k)).imp fun ι1 H1 h1 v e1 R1 k1 x rx => ?_⟩
    cases e : truth v h1 with
    | none => rw [e] at k1; exact k1.no.elim
    | some b =>
      rw [e] at k1
      refine ⟨b, truV R1 rx e, ?_⟩
      cases b with
      | true => exact ⟨ε, h1, ι1, R1, RE.ext R.out e1 E, k1⟩
      | false => exact k1.here R1 _ rx
theorem e_or {rest : List Expr} (ha : PE X a (tE X.K kA wx (ev C kd (ca)))) (hb : PE X (.BoolOp .Or (b :: rest) pos) (tE X.K kA wx (ev C kd (cb)))) : PE X (.BoolOp .Or (a :: b :: rest) pos) (tE X.K kA wx (ev C kd ((.or ca cb)))) :=
  (pe_orT ha hb).wk fun σ H Q ⟨ε, h, ι, R, E, k⟩ => by
    refine ⟨ε, h, ι, R, E, (KG.bind (show KG X.K kA wx σ ι H ((ev C kd ca ε h).bind fun x h => match truth x h with | some true => .ok x h | some false => ev C kd cb ε h | none => .stuck) _ from k)).imp fun ι1 H1 h1 v e1 R1 k1 x rx => ?_⟩
    cases e : truth v h1 with
    | none => rw [e] at k1; exact k1.no.elim
    | some b =>
      rw [e] at k1
      refine ⟨b, truV R1 rx e, ?_⟩
      cases b with
      | true => exact k1.here R1 _ rx
      | false => exact ⟨ε, h1, ι1, R1, RE.ext R.out e1 E, k1⟩
theorem nomarks {op : CmpOp} {b : Expr} (h : ∀ es k p, b ≠ .Set es k p) : behindInMarks op b = false := by
  cases b <;> first | rfl | exact absurd rfl (h _ _ _)
theorem e_cmp (KD : KdOk X.K X.w kA kd) (hu : X.A.units + 64 < cLine) (o : COp) (ha : PE X a (tE X.K kA wx (ev C kd (ca)))) (hb : PE X b (tE X.K kA wx (ev C kd (cb)))) (hm : behindInMarks (toC o) b = false) : PE X (.Compare a [toC o] [b] pos) (tE X.K kA wx (ev C kd ((.cmp o ca cb)))) :=
  (pe_cmpR (ok_cmp KD hu o) ha hb hm).wk fun σ H Q ⟨ε, h, ι, R, E, k⟩ => by
    simp only [ev] at k
    refine ⟨ε, h, ι, R, E, (KG.bind k).imp fun ι1 H1 h1 v e1 R1 k1 x rx => ?_⟩
    refine ⟨ε, h1, ι1, R1, RE.ext R.out e1 E, (KG.bind k1).imp fun ι2 H2 h2 w e2 R2 k2 y ry => ?_⟩
    exact ⟨v, w, h2, ι2, R2, RW.ext R1.out e2 rx, ry, k2.kw⟩
theorem cmp_bl {o : COp} {x y : W} {h h' : L} {v : W} (e : cmpop kd o x y h = .ok v h') : ∃ b, v = .bl b ∧ h' = h := by
  have ofB' : ∀ {o : Option Bool} {n : Bool}, ofB o n h = .ok v h' → ∃ b, v = .bl b ∧ h' = h := fun {o n} e => by
    cases o <;> cases e
    exact ⟨_, rfl, rfl⟩
  cases o <;> first | exact ofB' e | skip
  all_goals (cases x <;> cases y <;> cases e; exact ⟨_, rfl, rfl⟩)
theorem e_cmp2 (KD : KdOk X.K X.w kA kd) (hu : X.A.units + 64 < cLine) (o o' : COp) (ha : PE X a (tE X.K kA wx (ev C kd (ca)))) (hb : PE X b (tE X.K kA wx (ev C kd (cb)))) (hc : PE X c (tE X.K kA wx (ev C kd (cc)))) (hm : behindInMarks (toC o') c = false) : PE X (.Compare a [toC o, toC o'] [b, c] pos) (tE X.K kA wx (ev C kd ((.cmp2 o o' ca cb cc)))) :=
  (pe_chain (ok_cmp KD hu o) (ok_cmp KD hu o') ha hb hc hm).wk fun σ H Q ⟨ε, h, ι, R, E, k⟩ => by
    simp only [ev] at k
    refine ⟨ε, h, ι, R, E, (KG.bind k).imp fun ι1 H1 h1 v e1 R1 k1 x rx => ?_⟩
    refine ⟨ε, h1, ι1, R1, RE.ext R.out e1 E, (KG.bind k1).imp fun ι2 H2 h2 w e2 R2 k2 y ry => ?_⟩
    refine ⟨v, w, h2, ι2, R2, RW.ext R1.out e2 rx, ry, ?_⟩
    obtain ⟨z, h3, ez, k3⟩ := (KG.bind k2).okE
    refine ⟨z, h3, ez, fun ι3 H3 z' e3 R3 rz => ?_⟩
    have k3 := k3 ι3 H3 e3 R3
    obtain ⟨bz, rfl, _⟩ := cmp_bl ez
    cases rz
    refine ⟨bz, rfl, ?_⟩
    cases bz with
    | true =>
      refine ⟨ε, h3, ι3, R3, RE.ext R.out (e1.trans (e2.trans e3)) E, (KG.bind k3).imp fun ι4 H4 h4 w4 e4 R4 k4 y4 ry4 => ?_⟩
      exact ⟨w, w4, h4, ι4, R4, RW.ext R2.out (e3.trans e4) ry, ry4, k4.kw⟩
    | false => exact k3.here R3 _ rfl
theorem e_ite (hc : PT X c (tT X.K kA wx (ev C kd cc))) (ha : PE X a (tE X.K kA wx (ev C kd (ca)))) (hb : PE X b (tE X.K kA wx (ev C kd (cb)))) : PE X (.IfExp c a b pos) (tE X.K kA wx (ev C kd ((.ite cc ca cb)))) :=
  (pe_ifExp hc ha hb).wk fun σ H Q ⟨ε, h, ι, R, E, k⟩ => by
    simp only [ev] at k
    refine ⟨ε, h, ι, R, E, (KG.bind k).imp fun ι1 H1 h1 v e1 R1 k1 => ?_⟩
    cases e : truth v h1 with
    | none => rw [e] at k1; exact k1.no.elim
    | some b =>
      rw [e] at k1
      refine ⟨b, rfl, ?_⟩
      cases b with
      | true => exact ⟨ε, h1, ι1, R1, RE.ext R.out e1 E, k1⟩
      | false => exact ⟨ε, h1, ι1, R1, RE.ext R.out e1 E, k1⟩
/-! arguments -/
variable {es : List Expr} {ces : Es}
theorem e_nil : PA X [] (tAs X.K kA wx (evs C kd (.nil))) := pa_nil.wk fun σ H Q ⟨ε, h, ι, R, E, k⟩ => by
  simp only [evs] at k
  exact k.here R [] rfl
theorem e_cons (ha : PE X a (tE X.K kA wx (ev C kd (ca)))) (hr : PA X es (tAs X.K kA wx (evs C kd (ces)))) (hs : starEach (a :: es) X.env = (false, eval a X.env) :: starEach es X.env) : PA X (a :: es) (tAs X.K kA wx (evs C kd ((.cons ca ces)))) :=
  (pa_cons ha hr hs).wk fun σ H Q ⟨ε, h, ι, R, E, k⟩ => by
    simp only [evs] at k
    refine ⟨ε, h, ι, R, E, (KG.bind k).imp fun ι1 H1 h1 v e1 R1 k1 x rx => ?_⟩
    refine ⟨ε, h1, ι1, R1, RE.ext R.out e1 E, (KG.bind k1).imp fun ι2 H2 h2 w e2 R2 k2 y ry => ?_⟩
    exact k2.here R2 _ ⟨x, y, rfl, RW.ext R1.out e2 rx, ry⟩
theorem e_tup {x1 : Nat} (h : PA X es (tAs X.K kA wx (evs C kd (ces)))) : PE X (.Tuple es x1 pos) (tE X.K kA wx (ev C kd ((.tup ces)))) :=
  (pe_tup h).wk fun σ H Q ⟨ε, h, ι, R, E, k⟩ => by
    simp only [ev] at k
    refine ⟨ε, h, ι, R, E, (KG.bind k).imp fun ι1 H1 h1 v e1 R1 k1 x rx => ?_⟩
    obtain ⟨hl, k1⟩ := KG.ite k1
    exact ⟨by rw [← rx.len, ← LINE_eq]; exact hl, k1.kw.tup R1 rx⟩
theorem e_lst (h : PA X es (tAs X.K kA wx (evs C kd (ces)))) : PE X (.List es pos) (tE X.K kA wx (ev C kd ((.lst ces)))) :=
  (pe_lst h).wk fun σ H Q ⟨ε, h, ι, R, E, k⟩ => by
    simp only [ev] at k
    refine ⟨ε, h, ι, R, E, (KG.bind k).imp fun ι1 H1 h1 v e1 R1 k1 x rx => ?_⟩
    obtain ⟨hl, k1⟩ := KG.ite k1
    exact ⟨by rw [← rx.len, ← LINE_eq]; exact hl, k1.kw.lst R1 rx⟩
theorem e_sub (KD : KdOk X.K X.w kA kd) (hu : X.A.units + 64 < cLine) (ha : PE X a (tE X.K kA wx (ev C kd (ca)))) (hb : PE X b (tE X.K kA wx (ev C kd (cb)))) (hs : PlainIx b) : PE X (.Subscript a b pos) (tE X.K kA wx (ev C kd ((.sub ca cb)))) :=
  (pe_ix (ok_sub KD hu) ha hb hs).wk fun σ H Q ⟨ε, h, ι, R, E, k⟩ => by
    simp only [ev] at k
    refine ⟨ε, h, ι, R, E, (KG.bind k).imp fun ι1 H1 h1 v e1 R1 k1 x rx => ?_⟩
    refine ⟨ε, h1, ι1, R1, RE.ext R.out e1 E, (KG.bind k1).imp fun ι2 H2 h2 w e2 R2 k2 y ry => ?_⟩
    exact ⟨v, w, h2, ι2, R2, RW.ext R1.out e2 rx, ry, k2.kw⟩
/-! slices -/
def oOf : W → Option Int
  | .int i => some i
  | _ => none
def tO (K : PySem.W.Frag) (kA : KT) (wx : WX) (c : Env → L → R W) : TO := fun σ H Q => ∃ (ε : Env) (h : L) (ι : List Addr), Rep K kA ι h H ∧ RE K kA ι H ε σ ∧ KG K kA wx σ ι H (c ε h) fun ι' H' h' v => Q (oOf v) H'
theorem o_none : PO X none (tO X.K kA wx (ev C kd (.cst .non))) := ⟨fun pins s σ H Q I ⟨ε, h, ι, R, E, k⟩ => by
  simp only [ev] at k
  exact po_none.run pins s σ H Q I (k.here R)⟩
theorem o_some (ha : PE X a (tE X.K kA wx (ev C kd (ca)))) : PO X (some a) (tO X.K kA wx (ev C kd (.idx ca))) := ⟨fun pins s σ H Q I ⟨ε, h, ι, R, E, k⟩ => by
  simp only [ev] at k
  refine (po_some ha).run pins s σ H Q I ⟨ε, h, ι, R, E, (KG.bind k).imp fun ι1 H1 h1 v e1 R1 k1 x rx => ?_⟩
  cases v with
  | int i => cases rx; exact ⟨i, rfl, k1.here R1⟩
  | _ => exact k1.no.elim⟩
def isPart : E → Bool
  | .cst .non => true
  | .idx _ => true
  | _ => false
theorem part_of {e : E} {ε : Env} {h h' : L} {v : W} (hp : isPart e = true) (q : ev C kd e ε h = .ok v h') : v = ofO (oOf v) := by
  cases e with
  | cst w =>
    cases w with
    | non => cases q; rfl
    | _ => cases hp
  | idx a =>
    simp only [ev] at q
    cases ea : ev C kd a ε h with
    | ok x h1 =>
      rw [ea] at q
      cases x with
      | int i => cases q; rfl
      | _ => cases q
    | exc _ _ _ => rw [ea] at q; cases q
    | stuck => rw [ea] at q; cases q
  | _ => cases hp
theorem e_slc {lo hi : Option Expr} {p2 : Pos} {cl ch : E} (ha : PE X a (tE X.K kA wx (ev C kd (ca)))) (hl : PO X lo (tO X.K kA wx (ev C kd cl))) (hh : PO X hi (tO X.K kA wx (ev C kd ch))) (p1 : isPart cl = true) (p2' : isPart ch = true) :
    PE X (.Subscript a (.Slice lo hi none p2) pos) (tE X.K kA wx (ev C kd ((.slc ca cl ch)))) :=
  (pe_slice (ok_slc (kA := kA)) ha hl hh).wk fun σ H Q ⟨ε, h, ι, R, E, k⟩ => by
    simp only [ev] at k
    refine ⟨ε, h, ι, R, E, (KG.bind k).imp fun ι1 H1 h1 v e1 R1 k1 x rx => ?_⟩
    refine ⟨ε, h1, ι1, R1, RE.ext R.out e1 E, (KG.bind k1).impE fun ι2 H2 h2 w ew e2 R2 k2 => ?_⟩
    refine ⟨ε, h2, ι2, R2, RE.ext R.out (e1.trans e2) E, (KG.bind k2).impE fun ι3 H3 h3 u eu e3 R3 k4 => ?_⟩
    refine ⟨v, h3, ι3, R3, RW.ext R1.out (e2.trans e3) rx, ?_⟩
    rw [part_of p1 ew, part_of p2' eu] at k4
    exact k4.kw
theorem e_rev {k0 : Nat} {p1 p2 p3 : Pos} (ha : PE X a (tE X.K kA wx (ev C kd (ca)))) : PE X (.Subscript a (.Slice none none (some (.UnaryOp .USub (.Constant (.int 1) k0 p1) p2)) p3) pos) (tE X.K kA wx (ev C kd ((.rev ca)))) := by
  have rv : ∀ {ι : List Addr} {H : Hp} {xs : List W} {ys : List V}, RWs X.K kA ι H xs ys → RWs X.K kA ι H xs.reverse ys.reverse := by
    intro ι H xs
    induction xs with
    | nil => intro ys r; cases (show _ = [] from r); exact rfl
    | cons x xs ih =>
      intro ys r
      obtain ⟨y, ys, rfl, q, r⟩ := r
      rw [List.reverse_cons, List.reverse_cons]
      exact (ih r).app ⟨y, [], rfl, q, rfl⟩
  refine ⟨fun pins s σ H Q I ⟨ε, h, ι, R, E, k⟩ => ?_⟩
  simp only [ev] at k
  have kb := KG.bind k
  by_cases hr : ∃ r h1, ev C kd ca ε h = .ok (.ref r) h1
  · obtain ⟨r, hr1, er⟩ := hr
    refine (pe_revL ha).run pins s σ H Q I ⟨ε, h, ι, R, E, kb.impE fun ι1 H1 h1 v ev' e1 R1 k1 x rx => ?_⟩
    rw [er] at ev'
    cases ev'
    have k2 : KG X.K kA wx σ ι1 H1 (match hr1[r]? with | some (.lst xs) => alloc (.lst xs.reverse) hr1 | _ => .stuck) _ := k1
    split at k2
    · rename_i xs e
      obtain ⟨p, ys, rfl, _, q1, r1⟩ := R1.lst e rx
      exact ⟨p, ys, rfl, SqL.of q1, k2.kw.lst R1 (rv r1)⟩
    · exact k2.no.elim
  · refine (pe_revT ha).run pins s σ H Q I ⟨ε, h, ι, R, E, kb.impE fun ι1 H1 h1 v ev' e1 R1 k1 x rx => ?_⟩
    cases v with
    | tup xs =>
      obtain ⟨p, ys, rfl, ht, r1⟩ := rx
      exact ⟨p, ys, rfl, ht.seq, KW.tup (KG.kw k1) R1 (rv r1)⟩
    | ref r => exact absurd ⟨r, h1, ev'⟩ hr
    | _ => exact (KG.no k1).elim
end
end Vl
set_option maxRecDepth 100000
namespace Vl
open PySem PySem.Spec PyProof.Rows L2
section
variable {X : Cx} {kA : KT} {wx : WX} {kd : Kd} {C : Orc} {a b c : Expr} {ca cb cc : E} {pos : Pos} {es : List Expr} {ces : Es}
/-! ### calls -/
/-- a built-in function, a built-in type -/
def bname : BF → String
  | .len => "len" | .isinst => "isinstance" | .toint => "int" | .tostr => "str" | .abs => "abs" | .max => "max" | .min => "min"
  | .tolist => "list" | .totup => "tuple" | .todict => "dict" | .tobool => "bool" | .repr => "repr" | .all => "all" | .any => "any" | .sum => "sum"
def bstr (f : BF) : Str := Str.ofString (bname f)
theorem bboot (f : BF) : bootBuiltins (bstr f) = some (fval f) := by cases f <;> decide +kernel
theorem bname_ne (f : BF) : bstr f ≠ "__name__" := by cases f <;> decide +kernel
theorem bname_ne2 (f : BF) : ((bstr f) == ("__debug__" : Str)) = false := by cases f <;> decide +kernel
theorem call_any {f : BF} {r : List V → Hp → VK → Prop} {t : TA} {x : Str} {p : Pos} (hc : CallR X (fval f) r) (hx : x = bstr f) (hg : Gl X x) (hm : X.mg x = none) (ha : PA X (a :: es) t)
    (he : starEach (a :: es) X.env = (false, eval a X.env) :: starEach es X.env) (hpl : (backTo pos (starEach es X.env)).any (·.1) = false) :
    PE X (.Call (.Name x p) (a :: es) [] pos) (tCB r t) := by
  subst hx
  have hb := bboot f
  have h1 := bname_ne f
  have h2 := bname_ne2 f
  cases f <;> first
    | exact pe_callB hc hg hm hb ha h1 h2 he hpl
    | exact pe_callTy hc hg hm hb ha h1 h2 he hpl
theorem e_bf {x : Str} {p : Pos} (KD : KdOk X.K X.w kA kd) (hc : X.calm = true) (hgd : X.A.guards = some []) (hu : X.A.units + 64 < cLine) (f : BF) (hx : x = bstr f) (hg : Gl X x) (hm : X.mg x = none) (ha : PA X (a :: es) (tAs X.K kA wx (evs C kd (ces))))
    (he : starEach (a :: es) X.env = (false, eval a X.env) :: starEach es X.env) (hpl : (backTo pos (starEach es X.env)).any (·.1) = false) :
    PE X (.Call (.Name x p) (a :: es) [] pos) (tE X.K kA wx (ev C kd ((.bf f ces)))) :=
  (call_any (ok_bf (kA := kA) (kd := kd) KD hc hgd hu f) hx hg hm ha he hpl).wk fun σ H Q ⟨ε, h, ι, R, E, k⟩ => by
    simp only [ev] at k
    refine ⟨ε, h, ι, R, E, (KG.bind k).imp fun ι1 H1 h1 v e1 R1 k1 x rx => ?_⟩
    exact ⟨v, h1, ι1, R1, rx, k1.kw⟩
/-- how a def's run ends: well, or by what it raises -/
def KF (K : PySem.W.Frag) (kA : KT) (ι : List Addr) (H : Hp) (r : R W) (Q : VK) (E : XK) : Prop :=
  (∃ v h', r = .ok v h' ∧ ∀ ι' H' x, Ext ι H ι' H' → Rep K kA ι' h' H' → RW K kA ι' H' v x → Q x H') ∨
  ∃ c fs h', r = .exc c fs h' ∧ ∀ ι' H', Ext ι H ι' H' → Rep K kA ι' h' H' → ∀ cls d, XD K kA c fs ι' H' cls d → E cls d H'
theorem KG.kf {K : PySem.W.Frag} {kA : KT} {wx : WX} {σ : L2.St} {ι : List Addr} {H : Hp} {r : R W} {Q : VK} (k : KG K kA wx σ ι H r fun ι' H' _ v => ∀ x, RW K kA ι' H' v x → Q x H') : KF K kA ι H r Q (fun cls d H' => wx cls d σ H') := by
  rcases k with ⟨v, h', e, k⟩ | ⟨c, fs, h', e, k⟩
  · exact .inl ⟨v, h', e, fun ι' H' x e1 R1 => k ι' H' e1 R1 x⟩
  · exact .inr ⟨c, fs, h', e, k⟩
/-- a def's promise -/
def rSp (K : PySem.W.Frag) (kA : KT) (f : List W → L → R W) : Sp := fun vs H Q E =>
  ∃ (ws : List W) (h : L) (ι : List Addr), Rep K kA ι h H ∧ RWs K kA ι H ws vs ∧ KF K kA ι H (f ws h) Q E
/-- a def that keeps its promise where no text of an object is under way -/
structure FnG (P : PySem.Program) (w : World) (K : PySem.W.Frag) (mg : Str → Option Value) (base : Heap) (k : Nat) (f : Addr) (fd : FuncData) (ps : List Str) (sp : Sp) : Prop where
  len : ∀ vs H Q E, sp vs H Q E → vs.length = ps.length
  run : ∀ (A : Around) (out : List PySem.Env) (s : Shared) (H : Hp) (as : Args) (us : List Value) (vs : List V) (Q : VK) (E : XK), Room k A → A.guards = some [] → Env0 P w K mg base A out s H → BindsTo s fd as (ps.zip us) → Vals vs us → sp vs H Q E →
    codeAny (model P w) A (.call (.ref f) as) (CR (L2.CX P w) out P w H s Q E) s
theorem run_G {sp : Sp} {f : Addr} {fd : FuncData} {ps : List Str} {k : Nat} {wx : WX} {pins : List (Addr × Obj)} {σ : L2.St} {H : Hp} {s : Shared} {Q : VK} {us : List Value} {vs : List V} (F : FnG X.prog X.w X.K X.mg X.base k f fd ps sp) (hr : Room k X.A) (hgd : X.A.guards = some []) (hb : Binds X.K fd ps []) (tk : Takes X wx)
    (I : L2.Inv X pins σ H s) (r : Vals vs us) (q : sp vs H Q fun cls d H' => wx cls d σ H') : wpAny (model X.prog X.w) X.A (PySem.call (.ref f) us) (EP X pins σ Q) X.xe s := by
  have hl : us.length = ps.length := by rw [← r.length]; exact F.len _ _ _ _ q
  have hb' := hb s us I.kIn (by rw [List.append_nil]; exact hl)
  rw [List.append_nil] at hb'
  have run := F.run X.A X.stack s H ⟨us, []⟩ us vs Q _ hr hgd I.env0 hb' r q
  refine wpAny_call (codeAny_mono run fun res s2 ends => ?_)
  match res, ends with
  | .error e, ends => exact tk e s2 (XE.of_call I (fun _ _ _ z => z) ends)
  | .ok (.ret u), ends => exact I.after ends
  | .ok .next, ends => exact False.elim ends
  | .ok .brk, ends => exact False.elim ends
  | .ok .cont, ends => exact False.elim ends
/-- a def of the text -/
theorem e_call {x : Str} {p : Pos} {f : Addr} {fd : FuncData} {ps : List Str} {g k : Nat} (F : FnG X.prog X.w X.K X.mg X.base k f fd ps (rSp X.K kA (C g))) (hr : Room k X.A) (hgd : X.A.guards = some []) (tk : Takes X wx) (hg : Gl X x) (hm : X.mg x = some (.ref f)) (hk : PySem.W.keepIn X.K (.ref f) = true) (hb : Binds X.K fd ps [])
    (ha : PA X (a :: es) (tAs X.K kA wx (evs C kd (ces)))) (hd : (x == ("__debug__" : Str)) = false) (he : starEach (a :: es) X.env = (false, eval a X.env) :: starEach es X.env) (hpl : (backTo pos (starEach es X.env)).any (·.1) = false) :
    PE X (.Call (.Name x p) (a :: es) [] pos) (tE X.K kA wx (ev C kd ((.call g ces)))) := by
  refine ⟨fun pins s σ H Q I q => ?_⟩
  obtain ⟨ε, h, ι, R, E, k⟩ := q
  simp only [ev] at k
  have hA := ha.run pos pins s σ H (fun vs H1 => rSp X.K kA (C g) vs H1 Q fun cls d H' => wx cls d σ H') I ⟨ε, h, ι, R, E, (KG.bind k).imp fun ι1 H1 h1 ws e1 R1 k1 xs rx => ⟨ws, h1, ι1, R1, rx, k1.kf⟩⟩
  refine wpAny_Call_Name_kw (ld_glob I hg hm (PySem.W.callWith_K (h₀ := X.base) I.ok.mod.kin hk (thn hA fun us s1 ⟨vs, H1, I1, r, z⟩ => ⟨I1.kIn, run_G F hr hgd hb tk I1 r z⟩) he hpl) hd)
theorem e_call0 {x : Str} {p : Pos} {f : Addr} {fd : FuncData} {ps : List Str} {g k : Nat} (F : FnG X.prog X.w X.K X.mg X.base k f fd ps (rSp X.K kA (C g))) (hr : Room k X.A) (hgd : X.A.guards = some []) (tk : Takes X wx) (hg : Gl X x) (hm : X.mg x = some (.ref f)) (hk : PySem.W.keepIn X.K (.ref f) = true) (hb : Binds X.K fd ps [])
    (hd : (x == ("__debug__" : Str)) = false) :
    PE X (.Call (.Name x p) [] [] pos) (tE X.K kA wx (ev C kd ((.call g .nil)))) := by
  refine ⟨fun pins s σ H Q I q => ?_⟩
  obtain ⟨ε, h, ι, R, E, k⟩ := q
  simp only [ev, evs] at k
  have k : KG X.K kA wx σ ι H (C g [] h) _ := k
  exact wpAny_Call_Name_kw (ld_glob I hg hm (PySem.W.callWith_K0 I.kIn hk (run_G (us := []) F hr hgd hb tk I .nil ⟨[], h, ι, R, rfl, k.kf⟩)) hd)
/-! ### methods -/
theorem isLst_V {K : PySem.W.Frag} {ι : List Addr} {H : Hp} {h : L} {m : MT} {w : W} {x : V} (hm : m ≠ .bits) (R : Rep K kA ι h H) (r : RW K kA ι H w x) (e : mtOk m w h = true) : tyV K "list" x H := by
  cases w with
  | ref i =>
    have e : isLst h i = true := e
    unfold isLst at e
    split at e
    · rename_i xs e1
      obtain ⟨p, ys, rfl, _, q1, _⟩ := R.lst e1 r
      exact .inl ⟨rfl, ys, SqL.of q1⟩
    · cases e
  | int i => exact absurd (of_decide_eq_true e) hm
  | _ => cases e
theorem mt_key {m : MT} (hm : m ≠ .bits) {co : E} (σ : L2.St) (H : Hp) (Q : VK) (h : tE X.K kA wx (ev C kd (.mt m co ces)) σ H Q) : tBM X.K "list" (rM X.K kA m) (tE X.K kA wx (ev C kd (co))) (tAs X.K kA wx (evs C kd (ces))) σ H Q := by
  obtain ⟨ε, h, ι, R, E, k⟩ := h
  simp only [ev] at k
  refine ⟨ε, h, ι, R, E, (KG.bind k).imp fun ι1 H1 h1 v e1 R1 k1 x rx => ?_⟩
  obtain ⟨ho, k1⟩ := KG.ite k1
  refine ⟨isLst_V hm R1 rx ho, ?_⟩
  exact ⟨ε, h1, ι1, R1, RE.ext R.out e1 E, (KG.bind k1).imp fun ι2 H2 h2 w e2 R2 k2 y ry => ⟨v, w, h2, ι2, R2, RW.ext R1.out e2 rx, ry, k2.kw⟩⟩
def mname : MT → Str
  | .append => "append" | .extend => "extend" | .pop => "pop" | .bits => "bit_length" | .get => "get"
theorem e_mt {o : Expr} {co : E} {apos : Pos} (m : MT) (nm : Str) (hm : m = .append ∨ m = .extend ∨ m = .pop) (hn : nm = mname m)
    (ho : PE X o (tE X.K kA wx (ev C kd (co)))) (ha : PA X (a :: es) (tAs X.K kA wx (evs C kd (ces)))) (hbase : attributeBase o nm X.env (eval o X.env) = eval o X.env)
    (hfew : ((backTo pos (starEach (a :: es) X.env)).all (fun x => !x.1) && (backToKw pos (keywordEach [] X.env)).all (fun x => x.1.isSome)
      && decide ((a :: es).length + ([] : List Keyword).length + (if ([] : List Keyword).isEmpty then 0 else 1) < 30)) = true)
    (hline : (apos.endLine == pos.line) = true) (he : starEach (a :: es) X.env = (false, eval a X.env) :: starEach es X.env) (hpl : (backTo pos (starEach es X.env)).any (·.1) = false) :
    PE X (.Call (.Attribute o nm apos) (a :: es) [] pos) (tE X.K kA wx (ev C kd ((.mt m co ces)))) := by
  subst hn
  rcases hm with rfl | rfl | rfl
  · exact (pe_bm PySem.F.plainAttrs_list PySem.F.slot_list_append PySem.F.type_list_append (ok_append (kA := kA)) ho ha hbase hfew hline he hpl).wk fun σ H Q h => mt_key (by decide) σ H Q h
  · exact (pe_bm PySem.F.plainAttrs_list PySem.F.slot_list_extend PySem.F.type_list_extend (ok_extend (kA := kA)) ho ha hbase hfew hline he hpl).wk fun σ H Q h => mt_key (by decide) σ H Q h
  · exact (pe_bm PySem.F.plainAttrs_list PySem.F.slot_list_pop PySem.F.type_list_pop (ok_pop (kA := kA)) ho ha hbase hfew hline he hpl).wk fun σ H Q h => mt_key (by decide) σ H Q h
theorem e_bits {o : Expr} {co : E} {apos : Pos} (ho : PE X o (tE X.K kA wx (ev C kd (co)))) (hbase : attributeBase o "bit_length" X.env (eval o X.env) = eval o X.env) (hline : (apos.endLine == pos.line) = true) :
    PE X (.Call (.Attribute o "bit_length" apos) [] [] pos) (tE X.K kA wx (ev C kd ((.mt .bits co .nil)))) :=
  (pe_bits ho hbase hline).wk fun σ H Q ⟨ε, h, ι, R, E, k⟩ => by
    simp only [ev] at k
    refine ⟨ε, h, ι, R, E, (KG.bind k).imp fun ι1 H1 h1 v e1 R1 k1 x rx => ?_⟩
    obtain ⟨ho, k1⟩ := KG.ite k1
    cases v with
    | int i =>
      cases rx
      refine ⟨i, rfl, ?_⟩
      rw [← ibits_eq]
      have k2 : KG X.K kA wx σ ι1 H1 (.ok (W.int (ibits i)) h1) _ := k1
      exact k2.here R1 _ rfl
    | ref r =>
      exfalso
      have k2 := KG.bind k1
      simp only [evs] at k2
      have k3 : KG X.K kA wx σ ι1 H1 (.stuck : Vl.R W) _ := k2.here R1
      exact k3.no
    | _ => cases ho
/-! ### tests -/
theorem t_val (ha : PE X a (tE X.K kA wx (ev C kd (ca)))) (he : ∀ whole, isTrue a X.env whole = (do let v ← whole; standAt a.pos; holding [v] (truthy v))) : PT X a (tT X.K kA wx (ev C kd ca)) :=
  (pt_truth ha he).wk fun σ H Q ⟨ε, h, ι, R, E, k⟩ => ⟨ε, h, ι, R, E, k.imp fun ι1 H1 h1 v e1 R1 ⟨b, eb, q⟩ x rx => ⟨b, truV R1 rx eb, q⟩⟩
theorem t_cmp (KD : KdOk X.K X.w kA kd) (hu : X.A.units + 64 < cLine) (o : COp) (ha : PE X a (tE X.K kA wx (ev C kd (ca)))) (hb : PE X b (tE X.K kA wx (ev C kd (cb)))) (hm : behindInMarks (toC o) b = false) : PT X (.Compare a [toC o] [b] pos) (tT X.K kA wx (ev C kd (.cmp o ca cb))) :=
  (pt_cmpR (ok_cmp KD hu o) ha hb hm).wk fun σ H Q ⟨ε, h, ι, R, E, k⟩ => by
    simp only [ev] at k
    refine ⟨ε, h, ι, R, E, (KG.bind k).imp fun ι1 H1 h1 v e1 R1 k1 x rx => ?_⟩
    refine ⟨ε, h1, ι1, R1, RE.ext R.out e1 E, (KG.bind k1).imp fun ι2 H2 h2 w e2 R2 k2 y ry => ?_⟩
    refine ⟨v, w, h2, ι2, R2, RW.ext R1.out e2 rx, ry, ?_⟩
    obtain ⟨z, h3, ez, k3⟩ := k2.okE
    refine ⟨z, h3, ez, fun ι3 H3 z' e3 R3 rz => ?_⟩
    obtain ⟨b, eb, q⟩ := k3 ι3 H3 e3 R3
    obtain ⟨bz, rfl, _⟩ := cmp_bl ez
    cases rz
    cases eb
    exact ⟨_, rfl, q⟩
theorem t_cmp2 (KD : KdOk X.K X.w kA kd) (hu : X.A.units + 64 < cLine) (o o' : COp) (ha : PE X a (tE X.K kA wx (ev C kd (ca)))) (hb : PE X b (tE X.K kA wx (ev C kd (cb)))) (hc : PE X c (tE X.K kA wx (ev C kd (cc)))) (hm : behindInMarks (toC o') c = false) : PT X (.Compare a [toC o, toC o'] [b, c] pos) (tT X.K kA wx (ev C kd (.cmp2 o o' ca cb cc))) :=
  (pt_chain (ok_cmp KD hu o) (ok_cmp KD hu o') ha hb hc hm).wk fun σ H Q ⟨ε, h, ι, R, E, k⟩ => by
    simp only [ev] at k
    refine ⟨ε, h, ι, R, E, (KG.bind k).imp fun ι1 H1 h1 v e1 R1 k1 x rx => ?_⟩
    refine ⟨ε, h1, ι1, R1, RE.ext R.out e1 E, (KG.bind k1).imp fun ι2 H2 h2 w e2 R2 k2 y ry => ?_⟩
    refine ⟨v, w, h2, ι2, R2, RW.ext R1.out e2 rx, ry, ?_⟩
    obtain ⟨z, h3, ez, k3⟩ := (KG.bind k2).okE
    refine ⟨z, h3, ez, fun ι3 H3 z' e3 R3 rz => ?_⟩
    have k3 := k3 ι3 H3 e3 R3
    obtain ⟨bz, rfl, _⟩ := cmp_bl ez
    cases rz
    refine ⟨bz, rfl, ?_⟩
    cases bz with
    | true =>
      refine ⟨ε, h3, ι3, R3, RE.ext R.out (e1.trans (e2.trans e3)) E, (KG.bind k3).imp fun ι4 H4 h4 w4 e4 R4 k4 y4 ry4 => ?_⟩
      refine ⟨w, w4, h4, ι4, R4, RW.ext R2.out (e3.trans e4) ry, ry4, ?_⟩
      obtain ⟨z5, h5, ez5, k5⟩ := k4.okE
      refine ⟨z5, h5, ez5, fun ι5 H5 z5' e5 R5 rz5 => ?_⟩
      obtain ⟨b5, eb5, q5⟩ := k5 ι5 H5 e5 R5
      obtain ⟨bz5, rfl, _⟩ := cmp_bl ez5
      cases rz5
      cases eb5
      exact ⟨_, rfl, q5⟩
    | false =>
      obtain ⟨b5, eb5, q5⟩ := k3.here R3
      cases eb5
      exact ⟨false, rfl, q5⟩
theorem t_not (ha : PT X a (tT X.K kA wx (ev C kd ca))) : PT X (.UnaryOp .Not a pos) (tT X.K kA wx (ev C kd (.not ca))) :=
  (pt_not ha).wk fun σ H Q ⟨ε, h, ι, R, E, k⟩ => by
    simp only [ev] at k
    refine ⟨ε, h, ι, R, E, (KG.bind k).imp fun ι1 H1 h1 v e1 R1 k1 => ?_⟩
    cases e : truth v h1 with
    | none => rw [e] at k1; exact k1.no.elim
    | some b =>
      rw [e] at k1
      obtain ⟨b', eb, q⟩ := k1.here R1
      cases eb
      exact ⟨b, rfl, q⟩
theorem t_and {rest : List Expr} (ha : PT X a (tT X.K kA wx (ev C kd ca))) (hb : PW X (.BoolOp .And (b :: rest) pos) (tT X.K kA wx (ev C kd cb))) : PW X (.BoolOp .And (a :: b :: rest) pos) (tT X.K kA wx (ev C kd (.and ca cb))) :=
  (pw_and ha hb).wk fun σ H Q ⟨ε, h, ι, R, E, k⟩ => by
    simp only [ev] at k
    refine ⟨ε, h, ι, R, E, (KG.bind k).imp fun ι1 H1 h1 v e1 R1 k1 => ?_⟩
    cases e : truth v h1 with
    | none => rw [e] at k1; exact k1.no.elim
    | some b =>
      rw [e] at k1
      refine ⟨b, rfl, ?_⟩
      cases b with
      | true => exact ⟨ε, h1, ι1, R1, RE.ext R.out e1 E, k1⟩
      | false =>
        obtain ⟨b', eb, q⟩ := k1.here R1
        rw [e] at eb
        cases eb
        exact q
theorem t_or {rest : List Expr} (ha : PT X a (tT X.K kA wx (ev C kd ca))) (hb : PW X (.BoolOp .Or (b :: rest) pos) (tT X.K kA wx (ev C kd cb))) : PW X (.BoolOp .Or (a :: b :: rest) pos) (tT X.K kA wx (ev C kd (.or ca cb))) :=
  (pw_or ha hb).wk fun σ H Q ⟨ε, h, ι, R, E, k⟩ => by
    simp only [ev] at k
    refine ⟨ε, h, ι, R, E, (KG.bind k).imp fun ι1 H1 h1 v e1 R1 k1 => ?_⟩
    cases e : truth v h1 with
    | none => rw [e] at k1; exact k1.no.elim
    | some b =>
      rw [e] at k1
      refine ⟨b, rfl, ?_⟩
      cases b with
      | false => exact ⟨ε, h1, ι1, R1, RE.ext R.out e1 E, k1⟩
      | true =>
        obtain ⟨b', eb, q⟩ := k1.here R1
        rw [e] at eb
        cases eb
        exact q
end
end Vl
set_option maxRecDepth 100000
namespace Vl
open PySem PySem.Spec PyProof.Rows L2
mutual
theorem beq_eq : ∀ {a b : W}, W.beq a b = true → a = b
  | .non, b, h => by cases b <;> first | rfl | cases h
  | .bl x, b, h => by cases b <;> first | (rw [beq_iff_eq.mp h]) | cases h
  | .int x, b, h => by cases b <;> first | (rw [beq_iff_eq.mp h]) | cases h
  | .str x, b, h => by cases b <;> first | (rw [beq_iff_eq.mp h]) | cases h
  | .tup x, b, h => by cases b <;> first | (rw [beqs_eq h]) | cases h
  | .ref x, b, h => by cases b <;> first | (rw [beq_iff_eq.mp h]) | cases h
  | .ty x, b, h => by cases b <;> first | (rw [of_decide_eq_true h]) | cases h
  | .cls x l, b, h => by
    cases b with
    | cls y m =>
      have h : (x == y && l == m) = true := h
      rw [Bool.and_eq_true] at h
      rw [eq_of_beq h.1, eq_of_beq h.2]
    | _ => cases h
  | .kd x, b, h => by cases b <;> first | (rw [beq_iff_eq.mp h]) | cases h
  | .frz x, b, h => by cases b <;> first | (rw [beqs_eq h]) | cases h
theorem beqs_eq : ∀ {a b : List W}, W.beqs a b = true → a = b
  | [], b, h => by cases b <;> first | rfl | cases h
  | x :: xs, [], h => by cases h
  | x :: xs, y :: ys, h => by
    have h : (W.beq x y && W.beqs xs ys) = true := h
    obtain ⟨h1, h2⟩ := Bool.and_eq_true_iff.mp h
    rw [beq_eq h1, beqs_eq h2]
end
theorem held_at {h : L} : ∀ {l : List (Nat × List W)} {r : Nat} {xs : List W}, heldB h l = true → (r, xs) ∈ l → h[r]? = some (.lst xs)
  | (r, xs) :: l, q, zs, e, hm => by
    have e : ((match h[r]? with | some (.lst ys) => W.beqs xs ys | _ => false) && heldB h l) = true := e
    obtain ⟨e1, e2⟩ := Bool.and_eq_true_iff.mp e
    rcases List.mem_cons.mp hm with z | z
    · cases z
      split at e1
      · rename_i ys e3
        rw [e3, beqs_eq e1]
      · cases e1
    · exact held_at e2 z
/-- an iterator that yields a source's items -/
def GoodIt (K : PySem.W.Frag) (kA : KT) (ι0 : List Addr) (H0 : Hp) (J : L2.It) (s : Src) : Prop :=
  ∀ (i : Nat) (ι : List Addr) (H : Hp) (h : L), Ext ι0 H0 ι H → Rep K kA ι h H → heldB h s.held = true →
    (∀ w, s.items[i]? = some w → J.go i H ∧ ∀ x H', J.yld i H x H' → Ext ι H ι H' ∧ Rep K kA ι h H' ∧ RW K kA ι H' w x) ∧ (s.items[i]? = none → J.stop i H)
def tI (K : PySem.W.Frag) (kA : KT) (wx : WX) (c : Env → L → R Src) : TI := fun σ H Q =>
  ∃ (ε : Env) (h : L) (ι : List Addr), Rep K kA ι h H ∧ RE K kA ι H ε σ ∧ KG K kA wx σ ι H (c ε h) fun ι' H' h' s => ∀ J, GoodIt K kA ι' H' J s → Q J H'
section
variable {K : PySem.W.Frag} {kA : KT} {ι : List Addr} {H : Hp} {h : L}
theorem good_list {r : Nat} {a : Addr} {xs : List W} (hr : ι[r]? = some a) : GoodIt K kA ι H (Itl K a) ⟨xs, [(r, xs)]⟩ := fun i ι1 H1 h1 e1 R1 hh => by
  have e2 := held_at hh (List.mem_singleton.mpr rfl)
  obtain ⟨b, eb, ys, q1, r1⟩ := R1.at_ r _ e2
  rw [e1.at hr] at eb
  cases eb
  refine ⟨fun w hw => ?_, fun hn => ?_⟩
  · obtain ⟨y, ey, ry⟩ := r1.get hw
    refine ⟨⟨ys, y, SqL.of q1, ey⟩, fun x H' hy => ?_⟩
    obtain ⟨rfl, hy⟩ := hy
    have := hy ys (SqL.of q1)
    rw [ey] at this
    cases this
    exact ⟨Ext.refl, R1, ry⟩
  · refine ⟨ys, SqL.of q1, ?_⟩
    rw [← r1.len]
    exact List.getElem?_eq_none_iff.mp hn
theorem good_tup {a : Addr} {xs : List W} {ys : List V} (o : Out ι H) (ht : TuL K H a ys) (r1 : RWs K kA ι H xs ys) : GoodIt K kA ι H (Itt K a) ⟨xs, []⟩ := fun i ι1 H1 h1 e1 R1 hh => by
  have ht1 := TuL.ext o e1 ht
  have r2 := RWs.ext o e1 r1
  refine ⟨fun w hw => ?_, fun hn => ?_⟩
  · obtain ⟨y, ey, ry⟩ := r2.get hw
    refine ⟨⟨ys, y, ht1.seq, ey⟩, fun x H' hy => ?_⟩
    obtain ⟨rfl, hy⟩ := hy
    have := hy ys ht1.seq
    rw [ey] at this
    cases this
    exact ⟨Ext.refl, R1, ry⟩
  · refine ⟨ys, ht1.seq, ?_⟩
    rw [← r1.len]
    exact List.getElem?_eq_none_iff.mp hn
theorem good_str {z : List Nat} : GoodIt K kA ι H (Its (tx z)) ⟨z.map fun c => .str [c], []⟩ := fun i ι1 H1 h1 e1 R1 hh => by
  have hs : (tx z).cps.size = z.length := by unfold tx; simp
  refine ⟨fun w hw => ?_, fun hn => ?_⟩
  · rw [List.getElem?_map] at hw
    obtain ⟨c, ec, rfl⟩ := Option.map_eq_some_iff.mp hw
    refine ⟨by show i < (tx z).cps.size; rw [hs]; exact (List.getElem?_eq_some_iff.mp ec).1, fun x H' hy => ?_⟩
    obtain ⟨rfl, c', ec', rfl⟩ := hy
    have : (tx z).cps[i]? = some c := by unfold tx; simpa using ec
    rw [this] at ec'
    cases ec'
    exact ⟨Ext.refl, R1, rfl⟩
  · show (tx z).cps.size ≤ i
    rw [hs]
    rw [List.getElem?_map, Option.map_eq_none_iff] at hn
    exact List.getElem?_eq_none_iff.mp hn
theorem ranges_get : ∀ (n i : Nat) (lo : Int), (ranges lo n)[i]? = if i < n then some (.int (lo + i)) else none
  | 0, i, lo => by simp [ranges]
  | n + 1, 0, lo => by simp [ranges]
  | n + 1, i + 1, lo => by
    have : (ranges lo (n + 1))[i + 1]? = (ranges (lo + 1) n)[i]? := by simp [ranges]
    rw [this, ranges_get n i (lo + 1)]
    by_cases hi : i < n
    · rw [if_pos hi, if_pos (by omega)]
      congr 2
      omega
    · rw [if_neg hi, if_neg (by omega)]
theorem good_range {lo : Int} {n : Nat} : GoodIt K kA ι H (Itr lo n) ⟨ranges lo n, []⟩ := fun i ι1 H1 h1 e1 R1 hh => by
  refine ⟨fun w hw => ?_, fun hn => ?_⟩
  · have hw : (ranges lo n)[i]? = some w := hw
    rw [ranges_get] at hw
    by_cases hi : i < n
    · rw [if_pos hi] at hw
      cases hw
      refine ⟨hi, fun x H' hy => ?_⟩
      obtain ⟨rfl, rfl⟩ := hy
      exact ⟨Ext.refl, R1, rfl⟩
    · rw [if_neg hi] at hw
      cases hw
  · have hn : (ranges lo n)[i]? = none := hn
    rw [ranges_get] at hn
    by_cases hi : i < n
    · rw [if_pos hi] at hn
      cases hn
    · exact Nat.le_of_not_lt hi
theorem zips_get : ∀ (xs ys : List W) (i : Nat), (zips xs ys)[i]? = match xs[i]?, ys[i]? with | some x, some y => some (.tup [x, y]) | _, _ => none
  | [], ys, i => by simp [zips]
  | x :: xs, [], i => by cases h : (x :: xs)[i]? <;> simp [zips]
  | x :: xs, y :: ys, 0 => by simp [zips]
  | x :: xs, y :: ys, i + 1 => by simpa [zips] using zips_get xs ys i
theorem pair_V {T : Addr} {x y : V} {a b : W} (R : Rep K kA ι h H) (hT : H T = none) (ra : RW K kA ι H a x) (rb : RW K kA ι H b y) : Ext ι H ι (upd H T (.tup [x, y])) ∧ Rep K kA ι h (upd H T (.tup [x, y])) ∧ RW K kA ι (upd H T (.tup [x, y])) (.tup [a, b]) (.ref T) :=
  ⟨Ext.fresh hT, R.fresh hT, T, [x, y], rfl, .inl upd_same, x, [y], rfl, RW.ext R.out (Ext.fresh hT) ra, y, [], rfl, RW.ext R.out (Ext.fresh hT) rb, rfl⟩
theorem good_zip {r q : Nat} {a b : Addr} {xs ys : List W} (hr : ι[r]? = some a) (hq : ι[q]? = some b) : GoodIt K kA ι H (Itz K a b) ⟨zips xs ys, [(r, xs), (q, ys)]⟩ := fun i ι1 H1 h1 e1 R1 hh => by
  have e2 := held_at hh (show (r, xs) ∈ [(r, xs), (q, ys)] by simp)
  have e3 := held_at hh (show (q, ys) ∈ [(r, xs), (q, ys)] by simp)
  obtain ⟨a', ea, us, q1, r1⟩ := R1.at_ r _ e2
  rw [e1.at hr] at ea
  cases ea
  obtain ⟨b', eb, vs, q2, r2⟩ := R1.at_ q _ e3
  rw [e1.at hq] at eb
  cases eb
  refine ⟨fun w hw => ?_, fun hn => ?_⟩
  · have hw : (zips xs ys)[i]? = some w := hw
    rw [zips_get] at hw
    split at hw
    · rename_i x y ex ey
      cases hw
      obtain ⟨x', ex', rx⟩ := r1.get ex
      obtain ⟨y', ey', ry⟩ := r2.get ey
      refine ⟨⟨us, vs, x', y', SqL.of q1, SqL.of q2, ex', ey'⟩, fun x H' hy => ?_⟩
      obtain ⟨T, x2, y2, rfl, hT, rfl, f1, f2⟩ := hy
      have g1 := f1 us (SqL.of q1)
      have g2 := f2 vs (SqL.of q2)
      rw [ex'] at g1
      rw [ey'] at g2
      cases g1; cases g2
      exact pair_V R1 hT rx ry
    · cases hw
  · have hn : (zips xs ys)[i]? = none := hn
    rw [zips_get] at hn
    refine ⟨us, vs, SqL.of q1, SqL.of q2, ?_⟩
    rw [← r1.len, ← r2.len]
    cases ex : xs[i]? with
    | none => exact .inl (List.getElem?_eq_none_iff.mp ex)
    | some x => cases ey : ys[i]? with
      | none => exact .inr (List.getElem?_eq_none_iff.mp ey)
      | some y => rw [ex, ey] at hn; cases hn
theorem good_zipT {a b : Addr} {xs ys : List W} {us vs : List V} (o : Out ι H) (ha : TuL K H a us) (hb : TuL K H b vs) (r1 : RWs K kA ι H xs us) (r2 : RWs K kA ι H ys vs) : GoodIt K kA ι H (RZ.ItzT K a b) ⟨zips xs ys, []⟩ := fun i ι1 H1 h1 e1 R1 hh => by
  have q1 := (TuL.ext o e1 ha).seq
  have q2 := (TuL.ext o e1 hb).seq
  have r1 := RWs.ext o e1 r1
  have r2 := RWs.ext o e1 r2
  refine ⟨fun w hw => ?_, fun hn => ?_⟩
  · have hw : (zips xs ys)[i]? = some w := hw
    rw [zips_get] at hw
    split at hw
    · rename_i x y ex ey
      cases hw
      obtain ⟨x', ex', rx⟩ := r1.get ex
      obtain ⟨y', ey', ry⟩ := r2.get ey
      refine ⟨⟨us, vs, x', y', q1, q2, ex', ey'⟩, fun x H' hy => ?_⟩
      obtain ⟨T, x2, y2, rfl, hT, rfl, f1, f2⟩ := hy
      have g1 := f1 us q1
      have g2 := f2 vs q2
      rw [ex'] at g1
      rw [ey'] at g2
      cases g1; cases g2
      exact pair_V R1 hT rx ry
    · cases hw
  · have hn : (zips xs ys)[i]? = none := hn
    rw [zips_get] at hn
    refine ⟨us, vs, q1, q2, ?_⟩
    rw [← r1.len, ← r2.len]
    cases ex : xs[i]? with
    | none => exact .inl (List.getElem?_eq_none_iff.mp ex)
    | some x => cases ey : ys[i]? with
      | none => exact .inr (List.getElem?_eq_none_iff.mp ey)
      | some y => rw [ex, ey] at hn; cases hn
theorem enums_get : ∀ (xs : List W) (k : Int) (i : Nat), (enums k xs)[i]? = (xs[i]?).map fun x => .tup [.int (k + i), x]
  | [], k, i => by simp [enums]
  | x :: xs, k, 0 => by simp [enums]
  | x :: xs, k, i + 1 => by
    have : (enums k (x :: xs))[i + 1]? = (enums (k + 1) xs)[i]? := by simp [enums]
    rw [this, enums_get xs (k + 1) i]
    have e : k + 1 + (i : Int) = k + ((i + 1 : Nat) : Int) := by omega
    rw [e]
    simp
theorem good_enum {r : Nat} {a : Addr} {xs : List W} (hr : ι[r]? = some a) : GoodIt K kA ι H (Ite K a) ⟨enums 0 xs, [(r, xs)]⟩ := fun i ι1 H1 h1 e1 R1 hh => by
  have e2 := held_at hh (List.mem_singleton.mpr rfl)
  obtain ⟨b, eb, ys, q1, r1⟩ := R1.at_ r _ e2
  rw [e1.at hr] at eb
  cases eb
  refine ⟨fun w hw => ?_, fun hn => ?_⟩
  · have hw : (enums 0 xs)[i]? = some w := hw
    rw [enums_get] at hw
    obtain ⟨x, ex, rfl⟩ := Option.map_eq_some_iff.mp hw
    obtain ⟨y, ey, ry⟩ := r1.get ex
    refine ⟨⟨ys, y, SqL.of q1, ey⟩, fun x H' hy => ?_⟩
    obtain ⟨T, x2, rfl, hT, rfl, f⟩ := hy
    have g := f ys (SqL.of q1)
    rw [ey] at g
    cases g
    have e0 : (0 : Int) + (i : Nat) = (i : Nat) := by omega
    rw [e0]
    exact pair_V R1 hT rfl ry
  · have hn : (enums 0 xs)[i]? = none := hn
    rw [enums_get, Option.map_eq_none_iff] at hn
    refine ⟨ys, SqL.of q1, ?_⟩
    rw [← r1.len]
    exact List.getElem?_eq_none_iff.mp hn
end
section
variable {X : Cx} {kA : KT} {wx : WX} {kd : Kd} {C : Orc} {a b c tg : Expr} {ca cb cc : E} {pos : Pos} {es : List Expr} {ces : Es}
theorem i_of (ha : PE X a (tE X.K kA wx (ev C kd (ca)))) : PI X tg a (tI X.K kA wx (evi C kd ((.of ca)))) := by
  refine ⟨fun pins s σ H Q I ⟨ε, h, ι, R, E, k⟩ => ?_⟩
  simp only [evi] at k
  have kb := KG.bind k
  by_cases hn1 : ∃ xs h1, ev C kd ca ε h = .ok (.tup xs) h1
  · obtain ⟨xs, h0, e0⟩ := hn1
    refine (pi_tup ha).run pins s σ H Q I ⟨ε, h, ι, R, E, kb.impE fun ι1 H1 h1 v ev' e1 R1 k1 x rx => ?_⟩
    rw [e0] at ev'
    cases ev'
    obtain ⟨p, ys, rfl, ht, r1⟩ := rx
    exact ⟨p, rfl, ⟨ys, ht.seq⟩, KG.here k1 R1 _ (good_tup R1.out ht r1)⟩
  by_cases ht : ∃ z h1, ev C kd ca ε h = .ok (.str z) h1
  · obtain ⟨z, h0, e0⟩ := ht
    refine (pi_str ha).run pins s σ H Q I ⟨ε, h, ι, R, E, kb.impE fun ι1 H1 h1 v ev' e1 R1 k1 x rx => ?_⟩
    rw [e0] at ev'
    cases ev'
    cases rx
    exact ⟨tx z, rfl, KG.here k1 R1 _ good_str⟩
  refine (pi_list ha).run pins s σ H Q I ⟨ε, h, ι, R, E, kb.impE fun ι1 H1 h1 v ev' e1 R1 k2 x rx => ?_⟩
  cases v with
  | ref r =>
    cases e : h1[r]? with
    | none => simp only [srcOf, e] at k2; exact k2.no.elim
    | some o => cases o with
      | lst xs =>
        simp only [srcOf, e] at k2
        obtain ⟨p, ys, rfl, hr, q1, r1⟩ := R1.lst e rx
        exact ⟨p, rfl, ⟨ys, SqL.of q1⟩, k2.here R1 _ (good_list hr)⟩
      | _ => simp only [srcOf, e] at k2; exact k2.no.elim
  | tup xs => exact absurd ⟨xs, h1, ev'⟩ hn1
  | str z => exact absurd ⟨z, h1, ev'⟩ ht
  | _ => exact (KG.no k2).elim
theorem i_rng1 {p : Pos} (hg : Gl X "range") (hm : X.mg "range" = none) (ha : PA X [a] (tAs X.K kA wx (evs C kd (ces)))) (hs : starEach [a] X.env = (false, eval a X.env) :: starEach [] X.env) : PI X tg (.Call (.Name "range" p) [a] [] pos) (tI X.K kA wx (evi C kd ((.rng1 ces)))) := by
  refine ⟨fun pins s σ H Q I ⟨ε, h, ι, R, E, k⟩ => ?_⟩
  simp only [evi] at k
  refine (pi_range1 hg hm ha hs).run pins s σ H Q I ⟨ε, h, ι, R, E, (KG.bind k).imp fun ι1 H1 h1 v e1 R1 k1 x rx => ?_⟩
  split at k1
  · obtain ⟨y, rfl, q⟩ := rx.one
    cases q
    obtain ⟨hc, k1⟩ := KG.ite k1
    exact ⟨_, rfl, hc.1, hc.2, k1.here R1 _ good_range⟩
  · exact k1.no.elim
theorem i_rng2 {p : Pos} (hg : Gl X "range") (hm : X.mg "range" = none) (ha : PA X [a, b] (tAs X.K kA wx (evs C kd (ces)))) (hs : starEach [a, b] X.env = [(false, eval a X.env), (false, eval b X.env)]) (hs2 : starEach [b] X.env = [(false, eval b X.env)]) : PI X tg (.Call (.Name "range" p) [a, b] [] pos) (tI X.K kA wx (evi C kd ((.rng2 ces)))) := by
  refine ⟨fun pins s σ H Q I ⟨ε, h, ι, R, E, k⟩ => ?_⟩
  simp only [evi] at k
  refine (pi_range2 hg hm ha hs hs2).run pins s σ H Q I ⟨ε, h, ι, R, E, (KG.bind k).imp fun ι1 H1 h1 v e1 R1 k1 x rx => ?_⟩
  split at k1
  · obtain ⟨y, y', rfl, q, q'⟩ := rx.two
    cases q; cases q'
    obtain ⟨hc, k1⟩ := KG.ite k1
    exact ⟨_, _, rfl, hc, k1.here R1 _ good_range⟩
  · exact k1.no.elim
theorem i_zip {p tpos : Pos} {elts : List Expr} {kk : Nat} (hg : Gl X "zip") (hm : X.mg "zip" = none) (ha : PA X [a, b] (tAs X.K kA wx (evs C kd (ces)))) (hs : starEach [a, b] X.env = (false, eval a X.env) :: starEach [b] X.env) (hpl : (backTo pos (starEach [b] X.env)).any (·.1) = false) :
    PI X (.Tuple elts kk tpos) (.Call (.Name "zip" p) [a, b] [] pos) (tI X.K kA wx (evi C kd ((.zip ces)))) := by
  refine ⟨fun pins s σ H Q I ⟨ε, h, ι, R, E, k⟩ => ?_⟩
  simp only [evi] at k
  refine (RZ.pi_zipA hg hm ha hs hpl).run pins s σ H Q I ⟨ε, h, ι, R, E, (KG.bind k).imp fun ι1 H1 h1 v e1 R1 k1 x rx => ?_⟩
  split at k1
  · rename_i x1 x2
    obtain ⟨y, y', rfl, q, q'⟩ := rx.two
    cases e : zipS h1 x1 x2 with
    | none => rw [e] at k1; exact k1.no.elim
    | some sr =>
      rw [e] at k1
      unfold zipS at e
      split at e
      · cases e
        obtain ⟨a', us, rfl, h1', r1⟩ := q
        obtain ⟨b', vs, rfl, h2', r2⟩ := q'
        exact ⟨a', b', us, vs, rfl, .inr ⟨h1'.seq, h2'.seq, k1.here R1 _ (good_zipT R1.out h1' h2' r1 r2)⟩⟩
      · split at e
        · rename_i xs ys e1' e2'
          cases e
          obtain ⟨a', us, rfl, hr, h1', r1⟩ := R1.lst e1' q
          obtain ⟨b', vs, rfl, hr', h2', r2⟩ := R1.lst e2' q'
          exact ⟨a', b', us, vs, rfl, .inl ⟨SqL.of h1', SqL.of h2', k1.here R1 _ (good_zip hr hr')⟩⟩
        · cases e
      · cases e
  · exact k1.no.elim
theorem i_enum {p tpos : Pos} {elts : List Expr} {kk : Nat} (hg : Gl X "enumerate") (hm : X.mg "enumerate" = none) (ha : PE X a (tE X.K kA wx (ev C kd (ca)))) (hs : starEach [a] X.env = [(false, eval a X.env)]) :
    PI X (.Tuple elts kk tpos) (.Call (.Name "enumerate" p) [a] [] pos) (tI X.K kA wx (evi C kd ((.enum ca)))) := by
  refine ⟨fun pins s σ H Q I ⟨ε, h, ι, R, E, k⟩ => ?_⟩
  simp only [evi] at k
  refine (pi_enum hg hm (pa_cons ha pa_nil hs) hs).run pins s σ H Q I ⟨ε, h, ι, R, E, (KG.bind k).imp fun ι1 H1 h1 v e1 R1 k1 x rx => ?_⟩
  cases v with
  | ref r =>
    have k1 : KG X.K kA wx σ ι1 H1 (match h1[r]? with | some (.lst xs) => .ok (Src.mk (enums 0 xs) [(r, xs)]) h1 | _ => .stuck) _ := k1
    split at k1
    · rename_i xs e
      obtain ⟨p, ys, rfl, hr, q1, r1⟩ := R1.lst e rx
      exact ⟨p, ys, rfl, SqL.of q1, k1.here R1 _ (good_enum hr)⟩
    · exact k1.no.elim
  | _ => exact k1.no.elim
/-! ### targets -/
/-- the slots that a target stores -/
def SameBut (vs : List Nat) (σ σ' : L2.St) : Prop := σ'.length = σ.length ∧ ∀ i, i ∉ vs → σ'[i]? = σ[i]?
theorem SameBut.refl {vs : List Nat} {σ : L2.St} : SameBut vs σ σ := ⟨rfl, fun _ _ => rfl⟩
theorem SameBut.trans {vs : List Nat} {σ σ' σ'' : L2.St} (a : SameBut vs σ σ') (b : SameBut vs σ' σ'') : SameBut vs σ σ'' := ⟨b.1.trans a.1, fun i h => (b.2 i h).trans (a.2 i h)⟩
theorem SameBut.mono {vs us : List Nat} {σ σ' : L2.St} (a : SameBut vs σ σ') (h : ∀ i ∈ vs, i ∈ us) : SameBut us σ σ' := ⟨a.1, fun i n => a.2 i fun z => n (h i z)⟩
theorem wipe_get (σ : L2.St) : ∀ (vs : List Nat) (i : Nat), (L2.wipe σ vs)[i]? = if i ∈ vs then (if i < σ.length then some none else none) else σ[i]?
  | [], i => by simp [L2.wipe]
  | v :: vs, i => by
    unfold L2.wipe
    rw [List.getElem?_set]
    by_cases h : v = i
    · subst h
      rw [if_pos rfl, if_pos List.mem_cons_self, L2.wipe_length]
    · rw [if_neg h, wipe_get σ vs i]
      have : i ∈ v :: vs ↔ i ∈ vs := by
        rw [List.mem_cons]
        exact ⟨fun z => z.elim (fun z => absurd z.symm h) id, .inr⟩
      by_cases hi : i ∈ vs
      · rw [if_pos hi, if_pos (this.mpr hi)]
      · rw [if_neg hi, if_neg (fun z => hi (this.mp z))]
theorem SameBut.wipe {vs : List Nat} {σ σ' : L2.St} (a : SameBut vs σ σ') : L2.wipe σ' vs = L2.wipe σ vs := by
  apply List.ext_getElem?
  intro i
  rw [wipe_get, wipe_get, a.1]
  by_cases hi : i ∈ vs
  · rw [if_pos hi, if_pos hi]
  · rw [if_neg hi, if_neg hi, a.2 i hi]
mutual
def slT : T → List Nat
  | .nm i => [i]
  | .tp ts => slTs ts
  | .sb _ _ => []
def slTs : Ts → List Nat
  | .nil => []
  | .cons t ts => slT t ++ slTs ts
end
def sG (K : PySem.W.Frag) (kA : KT) (C : Orc) (kd : Kd) (t : T) : TG := fun v σ H Q => ∃ (ε : Env) (h : L) (ι : List Addr) (w : W), Rep K kA ι h H ∧ RE K kA ι H ε σ ∧ RW K kA ι H w v ∧
  K0 K kA ι H (sto C kd t w ε h) fun ι' H' _ ε' => ∀ σ', RE K kA ι' H' ε' σ' → SameBut (slT t) σ σ' → Q σ' H'
def sGs (K : PySem.W.Frag) (kA : KT) (C : Orc) (kd : Kd) (t : Ts) : TGs := fun v σ H Q => ∃ (ε : Env) (h : L) (ι : List Addr) (w : List W), Rep K kA ι h H ∧ RE K kA ι H ε σ ∧ RWs K kA ι H w v ∧
  K0 K kA ι H (stos C kd t w ε h) fun ι' H' _ ε' => ∀ σ', RE K kA ι' H' ε' σ' → SameBut (slTs t) σ σ' → Q σ' H'
theorem _root_.L2.PG.wk {X : Cx} {e : Expr} {t t' : TG} (h : PG X e t) (i : ∀ v σ H Q, t' v σ H Q → t v σ H Q) : PG X e t' := ⟨fun pins s σ H v u Q I r q => h.run pins s σ H v u Q I r (i v σ H Q q)⟩
theorem _root_.L2.PGs.wk {X : Cx} {e : List Expr} {t t' : TGs} (h : PGs X e t) (i : ∀ v σ H Q, t' v σ H Q → t v σ H Q) : PGs X e t' := ⟨fun pins s σ H v u Q I r q => h.run pins s σ H v u Q I r (i v σ H Q q)⟩
theorem g_nm {i : Nat} {x : Str} (hN : X.N.Nodup) (hi : X.N[i]? = some x) (hx : Loc X.env.scope x) (hf : X.fn x = true ∨ X.env.scope.names.lookup x = some .local) : PG X (.Name x pos) (sG X.K kA C kd ((.nm i))) :=
  (pg_name hN hi hx hf).wk fun v σ H Q ⟨ε, h, ι, w, R, E, rw', k⟩ => by
    have k : K0 X.K kA ι H (.ok (sets ε i (some w)) h) _ := k
    exact k.here R _ (RE.set rw' i E) ⟨by simp, fun j hj => by
      have : i ≠ j := fun e => hj (by rw [e]; exact List.mem_singleton.mpr rfl)
      rw [List.getElem?_set_ne this]⟩
theorem gs_nil : PGs X [] (sGs X.K kA C kd (.nil)) :=
  pgs_nil.wk fun v σ H Q ⟨ε, h, ι, w, R, E, rw', k⟩ => by
    cases w with
    | nil =>
      cases (show _ = [] from rw')
      have k : K0 X.K kA ι H (.ok ε h) _ := k
      exact ⟨rfl, k.here R _ E SameBut.refl⟩
    | cons _ _ => exact k.no.elim
theorem gs_cons {e : Expr} {es : List Expr} {t : T} {ts : Ts} (h1 : PG X e (sG X.K kA C kd (t))) (h2 : PGs X es (sGs X.K kA C kd (ts)))
    (hs : (assignEach (e :: es) X.env).map (·.2) = assign e X.env :: (assignEach es X.env).map (·.2)) : PGs X (e :: es) (sGs X.K kA C kd ((.cons t ts))) :=
  (pgs_cons h1 h2 hs).wk fun v σ H Q ⟨ε, h, ι, w, R, E, rw', k⟩ => by
    cases w with
    | nil => exact k.no.elim
    | cons x xs =>
      obtain ⟨y, ys, rfl, q, r⟩ := rw'
      simp only [stos] at k
      refine ⟨y, ys, rfl, ε, h, ι, x, R, E, q, (K0.bind k).imp fun ι1 H1 h1 ε1 e1 R1 k1 σ1 E1 s1 => ?_⟩
      refine ⟨ε1, h1, ι1, xs, R1, E1, RWs.ext R.out e1 r, k1.imp fun ι2 H2 h2 ε2 e2 R2 k2 σ2 E2 s2 => ?_⟩
      exact k2 σ2 E2 ((s1.mono fun i hi => List.mem_append_left _ hi).trans (s2.mono fun i hi => List.mem_append_right _ hi))
def tsLen : Ts → Nat
  | .nil => 0
  | .cons _ ts => tsLen ts + 1
theorem stos_len {C : Orc} {kd : Kd} : ∀ {ts : Ts} {xs : List W} {ε : Env} {h : L} {r : Env} {h' : L}, stos C kd ts xs ε h = .ok r h' → xs.length = tsLen ts
  | .nil, [], _, _, _, _, _ => rfl
  | .nil, _ :: _, _, _, _, _, e => by simp only [stos] at e; cases e
  | .cons t ts, [], _, _, _, _, e => by simp only [stos] at e; cases e
  | .cons t ts, x :: xs, ε, h, r, h', e => by
    simp only [stos] at e
    cases es : sto C kd t x ε h with
    | ok ε1 h1 =>
      rw [es] at e
      exact congrArg Nat.succ (stos_len (ts := ts) e)
    | exc _ _ _ => rw [es] at e; cases e
    | stuck => rw [es] at e; cases e
theorem g_tp {es : List Expr} {k0 : Nat} {ts : Ts} (hc : X.calm = true) (h : PGs X es (sGs X.K kA C kd (ts))) (hn : (assignEach es X.env).length = tsLen ts) (hst : (assignEach es X.env).findIdx? (·.1) = none) : PG X (.Tuple es k0 pos) (sG X.K kA C kd ((.tp ts))) := by
  refine ⟨fun pins s σ H v u Q I r ⟨ε, h', ι, w, R, E, rw', k⟩ => ?_⟩
  cases w with
  | tup xs =>
    have k : K0 X.K kA ι H (stos C kd ts xs ε h') _ := k
    obtain ⟨a', ys, rfl, ht, r1⟩ := rw'
    obtain ⟨_, _, el, _⟩ := id k
    exact (pg_tup hc h hn hst).run pins s σ H _ u Q I r ⟨a', ys, rfl, ht.seq, by rw [← r1.len]; exact stos_len el, ε, h', ι, xs, R, E, r1, k⟩
  | ref q =>
    have k : K0 X.K kA ι H (match h'[q]? with | some (.lst xs) => stos C kd ts xs ε h' | _ => .stuck) _ := k
    split at k
    · rename_i xs e
      obtain ⟨a', ys, rfl, hr, q1, r1⟩ := R.lst e rw'
      obtain ⟨_, _, el, _⟩ := id k
      exact (pg_lst hc h hn hst).run pins s σ H _ u Q I r ⟨a', ys, rfl, SqL.of q1, by rw [← r1.len]; exact stos_len el, ε, h', ι, xs, R, E, r1, k⟩
    · exact k.no.elim
  | _ => exact k.no.elim
theorem sto_sb {C : Orc} {kd : Kd} {a i : E} {v : W} {ε : Env} {h : L} : sto C kd (.sb a i) v ε h = (ev C kd a ε h).bind fun x h => (ev C kd i ε h).bind fun y h => (putv x y v h).bind fun _ h => .ok ε h := by
  simp only [sto]
def rSet (K : PySem.W.Frag) (kA : KT) : TSet := fun o i v H Q => ∃ (x y w : W) (h : L) (ι : List Addr), Rep K kA ι h H ∧ RW K kA ι H x o ∧ RW K kA ι H y i ∧ RW K kA ι H w v ∧ K0 K kA ι H (putv x y w h) fun ι' H' _ _ => Q H'
theorem ok_set (hu : X.A.units + 64 < cLine) : PSet X (rSet X.K kA) := by
  intro pins s σ H o i v ov iv u Q I ro ri rv h
  obtain ⟨x, y, w, h, ι, R, rx, ry, rw', k⟩ := h
  cases x with
  | ref r => cases y with
    | int j =>
      cases ry
      have k : K0 X.K kA ι H (match h[r]? with | some (.lst xs) => (match Vl.ixN xs.length j with | some k => .ok () (h.set r (.lst (xs.set k w))) | none => .stuck) | _ => .stuck) _ := k
      split at k
      · rename_i xs e
        split at k
        · rename_i m em
          obtain ⟨p, ys, rfl, hr, q1, r1⟩ := R.lst e rx
          have hp : p ∈ ι := List.mem_of_getElem? hr
          refine set_list pins s σ H _ _ _ ov iv u Q I ro ri rv ⟨p, ys, j, m, rfl, rfl, q1, by rw [← r1.len]; exact em, ?_⟩
          obtain ⟨_, _, e2, k⟩ := k
          cases e2
          exact k ι _ (Ext.write hp) (R.write hr ⟨_, upd_same, RWs.ext R.out (Ext.write hp) (r1.set rw' m)⟩)
        · exact k.no.elim
      · exact k.no.elim
    | str z =>
      cases ry
      have k : K0 X.K kA ι H (match h[r]? with | some (.dic kvs) => (if kvs.length < 1000 then .ok () (h.set r (.dic (Vl.putK kvs z w))) else .stuck) | _ => .stuck) _ := k
      split at k
      · rename_i kvs e
        obtain ⟨hc, k⟩ := K0.ite k
        obtain ⟨p, ys, rfl, hr, q1, r1⟩ := R.dic e rx
        have hp : p ∈ ι := List.mem_of_getElem? hr
        refine set_dict (by omega) pins s σ H _ _ _ ov iv u Q I ro ri rv ⟨p, _, rfl, DPut.k (k := Sum.inr (tx z)) q1 (by rw [← r1.len, sizeLine_eq]; omega), ?_⟩
        obtain ⟨_, _, e2, k⟩ := k
        cases e2
        exact k ι _ (Ext.write hp) (R.write hr ⟨_, upd_same, RK.ext R.out (Ext.write hp) (put_K rw' z r1)⟩)
      · exact k.no.elim
    | _ => exact k.no.elim
  | _ => cases y <;> exact k.no.elim
theorem g_sb (hu : X.A.units + 64 < cLine) (ha : PE X a (tE X.K kA wx (ev C kd (ca)))) (hb : PE X b (tE X.K kA wx (ev C kd (cb))))
    (has : ∀ v, assign (.Subscript a b pos) X.env v = (do
      let ov ← holding [v] (eval a X.env)
      let iv ← holding [v, ov] (eval b X.env)
      standAt pos
      holding [v, ov, iv] (setItem ov iv v)
      release [v, ov, iv] [])) : PG X (.Subscript a b pos) (sG X.K kA C kd ((.sb ca cb))) :=
  (pg_sub ha hb (ok_set (kA := kA) hu) has).wk fun v σ H Q ⟨ε, h, ι, w, R, E, rw', k⟩ => by
    rw [sto_sb] at k
    refine ⟨ε, h, ι, R, E, ((K0.bind k).imp fun ι1 H1 h1 x e1 R1 k1 xv rx => ?_).kg⟩
    refine ⟨ε, h1, ι1, R1, RE.ext R.out e1 E, ((K0.bind k1).imp fun ι2 H2 h2 y e2 R2 k2 yv ry => ?_).kg⟩
    refine ⟨x, y, w, h2, ι2, R2, RW.ext R1.out e2 rx, ry, RW.ext R.out (e1.trans e2) rw', (K0.bind k2).imp fun ι3 H3 h3 _ e3 R3 k3 => ?_⟩
    have k3 : K0 X.K kA ι3 H3 (.ok ε h3) _ := k3
    exact k3.here R3 σ (RE.ext R.out (e1.trans (e2.trans e3)) E) SameBut.refl
end
end Vl
set_option maxRecDepth 100000
namespace Vl
open PySem PySem.Spec PyProof.Rows L2
/-- what tuples and lists that are read alone ask of a change -/
structure Ext0 (ι : List Addr) (H : Hp) (ι' : List Addr) (H' : Hp) : Prop where
  pre : ∃ t, ι' = ι ++ t
  tup : ∀ a ys, H a = some (.tup ys) → H' a = some (.tup ys)
  frz : ∀ a o ys, H a = some (.frz o (.lst ys)) → a ∉ ι → H' a = some (.frz o (.lst ys)) ∧ a ∉ ι'
  own : ∀ a p, H a = some (.own p) → a ∉ ι → H' a = some (.own p) ∧ a ∉ ι'
  xd : ∀ a ys, H a = some (.xd ys) → a ∉ ι → H' a = some (.xd ys) ∧ a ∉ ι'
/-- no part of a thing of ours -/
def Pl : HO → Prop
  | .tup _ => False
  | .frz _ _ => False
  | .own _ => False
  | .xd _ => False
  | _ => True
section
variable {K : PySem.W.Frag} {kA : KT} {ι ι' : List Addr} {H H' : Hp}
theorem Ext0.at (e : Ext0 ι H ι' H') {r : Nat} {a : Addr} (h : ι[r]? = some a) : ι'[r]? = some a := by
  obtain ⟨t, rfl⟩ := e.pre
  rw [List.getElem?_append_left (List.getElem?_eq_some_iff.mp h).1]
  exact h
theorem TuL.ext0 (e : Ext0 ι H ι' H') {a : Addr} {ys : List V} (h : TuL K H a ys) : TuL K H' a ys := by
  rcases h with h | h
  · exact .inl (e.tup a ys h)
  · exact .inr h
theorem FzL.ext0 (e : Ext0 ι H ι' H') {a : Addr} {ys : List V} (h : FzL K ι H a ys) : FzL K ι' H' a ys := by
  rcases h with ⟨o, h, n⟩ | h
  · obtain ⟨h1, n1⟩ := e.frz a _ _ h n
    exact .inl ⟨o, h1, n1⟩
  · exact .inr h
mutual
theorem RW.ext0 (e : Ext0 ι H ι' H') : ∀ {w : W} {v : V}, RW K kA ι H w v → RW K kA ι' H' w v
  | .non, _, h => h
  | .bl _, _, h => h
  | .int _, _, h => h
  | .str _, _, h => h
  | .tup xs, _, h => by
    obtain ⟨a, ys, rfl, q, r⟩ := h
    exact ⟨a, ys, rfl, TuL.ext0 e q, RWs.ext0 e r⟩
  | .ref _, _, h => by
    obtain ⟨a, rfl, q⟩ := h
    exact ⟨a, rfl, e.at q⟩
  | .ty _, _, h => h
  | .cls _ _, _, h => h
  | .kd _, _, h => h
  | .frz xs, _, h => by
    obtain ⟨a, ys, rfl, q, r⟩ := h
    exact ⟨a, ys, rfl, FzL.ext0 e q, RWs.ext0 e r⟩
theorem RWs.ext0 (e : Ext0 ι H ι' H') : ∀ {w : List W} {v : List V}, RWs K kA ι H w v → RWs K kA ι' H' w v
  | [], _, h => h
  | x :: xs, _, h => by
    obtain ⟨y, ys, rfl, q, r⟩ := h
    exact ⟨y, ys, rfl, RW.ext0 e q, RWs.ext0 e r⟩
end
theorem RK.ext0 (e : Ext0 ι H ι' H') : ∀ {w : List (List Nat × W)} {v : List (L2.Key × V)}, RK K kA ι H w v → RK K kA ι' H' w v
  | [], _, h => h
  | (k, x) :: xs, _, h => by
    obtain ⟨y, ys, rfl, q, r⟩ := h
    exact ⟨y, ys, rfl, RW.ext0 e q, RK.ext0 e r⟩
theorem RF.ext0 (e : Ext0 ι H ι' H') : ∀ {w : List (List Nat × W)} {v : List (Str × V)}, RF K kA ι H w v → RF K kA ι' H' w v
  | [], _, h => h
  | (k, x) :: xs, _, h => by
    obtain ⟨y, ys, rfl, q, r⟩ := h
    exact ⟨y, ys, rfl, RW.ext0 e q, RF.ext0 e r⟩
theorem RE.ext0 (e : Ext0 ι H ι' H') : ∀ {ε : Env} {σ : L2.St}, RE K kA ι H ε σ → RE K kA ι' H' ε σ
  | [], _, h => h
  | x :: xs, _, h => by
    obtain ⟨y, ys, rfl, q, r⟩ := h
    refine ⟨y, ys, rfl, fun w hw => ?_, RE.ext0 e r⟩
    obtain ⟨z, e1, q1⟩ := q w hw
    exact ⟨z, e1, RW.ext0 e q1⟩
theorem OR.ext0 (e : Ext0 ι H ι' H') {a : Addr} (ha : ∀ u, H a = Option.some u → H' a = Option.some u) : ∀ {x : O}, OR K kA ι H a x → OR K kA ι' H' a x
  | .lst xs, h => by
    obtain ⟨ys, q, r⟩ := h
    exact ⟨ys, ha _ q, RWs.ext0 e r⟩
  | .dic xs, h => by
    obtain ⟨ys, q, r⟩ := h
    exact ⟨ys, ha _ q, RK.ext0 e r⟩
  | .ins c fs, h => by
    obtain ⟨C, dx, ys, q1, q2, q3, q4, r⟩ := h
    obtain ⟨k1, k2⟩ := e.own _ _ q3 q4
    exact ⟨C, dx, ys, q1, ha _ q2, k1, k2, RF.ext0 e r⟩
  | .exn c fs, h => by
    obtain ⟨C, d, q1, q2, q3⟩ := h
    refine ⟨C, d, q1, ha _ q2, q3.imp id fun ⟨dd, ys, p1, p2, p3, r⟩ => ?_⟩
    obtain ⟨k1, k2⟩ := e.xd _ _ p2 p3
    exact ⟨dd, ys, p1, k1, k2, RF.ext0 e r⟩
/-- a thing that is none of ours, and no part of one, is written -/
theorem Ext0.updD {D : Addr} {o : HO} {u : HO} (hD : H D = some u) (pl : Pl u) : Ext0 ι H ι (upd H D o) := by
  have k : ∀ a v, ¬ Pl v → H a = some v → upd H D o a = some v := fun a v hv e => by
    rw [upd_ne (fun z => by subst z; rw [hD] at e; cases e; exact hv pl)]
    exact e
  exact ⟨⟨[], by simp⟩, fun a ys e => k _ _ id e, fun a o' ys e n => ⟨k _ _ id e, n⟩, fun a p e n => ⟨k _ _ id e, n⟩, fun a p e n => ⟨k _ _ id e, n⟩⟩
theorem Rep.updD {h : L} {D : Addr} {o u : HO} (R : Rep K kA ι h H) (hn : D ∉ ι) (hD : H D = some u) (pl : Pl u) : Rep K kA ι h (upd H D o) :=
  ⟨R.len, R.nd, fun i x e => by
    obtain ⟨a, e1, o1⟩ := R.at_ i x e
    refine ⟨a, e1, OR.ext0 (Ext0.updD hD pl) (fun u hu => ?_) o1⟩
    rw [upd_ne (fun z => hn (by rw [← z]; exact List.mem_of_getElem? e1))]
    exact hu⟩
/-- .. becomes one of ours -/
theorem Ext0.adopt {D : Addr} {u : HO} (hD : H D = some u) (pl : Pl u) : Ext0 ι H (ι ++ [D]) H := by
  have k : ∀ a v, ¬ Pl v → H a = some v → a ∉ ι → a ∉ ι ++ [D] := fun a v hv e n => by
    rw [List.mem_append, List.mem_singleton]
    rintro (z | z)
    · exact n z
    · subst z; rw [hD] at e; cases e; exact hv pl
  exact ⟨⟨[D], rfl⟩, fun a ys e => e, fun a o' ys e n => ⟨e, k _ _ id e n⟩, fun a p e n => ⟨e, k _ _ id e n⟩, fun a p e n => ⟨e, k _ _ id e n⟩⟩
theorem Rep.adopt {h : L} {D : Addr} {u : HO} {x : O} (R : Rep K kA ι h H) (hn : D ∉ ι) (hD : H D = some u) (pl : Pl u) (ho : OR K kA (ι ++ [D]) H D x) : Rep K kA (ι ++ [D]) (h ++ [x]) H := by
  refine ⟨by simp [R.len], ?_, fun i y e => ?_⟩
  · rw [List.nodup_append]
    refine ⟨R.nd, by simp, fun a ha b hb => ?_⟩
    rw [List.mem_singleton] at hb
    subst hb
    exact fun z => hn (z ▸ ha)
  · by_cases hi : i < h.length
    · rw [List.getElem?_append_left hi] at e
      obtain ⟨a, e1, o1⟩ := R.at_ i y e
      exact ⟨a, by rw [List.getElem?_append_left (by rw [R.len]; exact hi)]; exact e1, OR.ext0 (Ext0.adopt hD pl) (fun u hu => hu) o1⟩
    · have hi2 : i = h.length := by
        have := (List.getElem?_eq_some_iff.mp e).1
        simp at this
        omega
      subst hi2
      rw [List.getElem?_append_right (Nat.le_refl _)] at e
      simp at e
      subst e
      refine ⟨D, ?_, ho⟩
      rw [← R.len, List.getElem?_append_right (Nat.le_refl _)]
      simp
theorem Ext.overD {D : Addr} {o : HO} {ι1 : List Addr} {H1 : Hp} (e : Ext ι1 H1 ι H) (hD : H1 D = none) : Ext ι1 H1 ι (upd H D o) :=
  ⟨e.pre, fun a u h n nt => ⟨by rw [upd_ne (ne_of_none h hD)]; exact (e.keep a u h n nt).1, (e.keep a u h n nt).2⟩⟩
theorem Ext.adoptD {D : Addr} {ι1 : List Addr} {H1 : Hp} (e : Ext ι1 H1 ι H) (hD : H1 D = none) : Ext ι1 H1 (ι ++ [D]) H := by
  obtain ⟨t, ht⟩ := e.pre
  refine ⟨⟨t ++ [D], by rw [ht]; simp⟩, fun a u h n nt => ?_⟩
  obtain ⟨k1, k2⟩ := e.keep a u h n nt
  refine ⟨k1, ?_⟩
  rw [List.mem_append, List.mem_singleton]
  rintro (z | z)
  · exact k2 z
  · exact ne_of_none h hD z
theorem drop_cons {xs : List W} {i : Nat} {x : W} (h : xs[i]? = some x) : xs.drop i = x :: xs.drop (i + 1) := by
  obtain ⟨hi, e⟩ := List.getElem?_eq_some_iff.mp h
  rw [List.drop_eq_getElem_cons hi, e]
theorem drop_none {xs : List W} {i : Nat} (h : xs[i]? = none) : xs.drop i = [] := List.drop_eq_nil_of_le (List.getElem?_eq_none_iff.mp h)
end
/-- a clause's tests -/
def tTs (K : PySem.W.Frag) (kA : KT) (wx : WX) (c : Env → L → R Bool) : TT := fun σ H Q =>
  ∃ (ε : Env) (h : L) (ι : List Addr), Rep K kA ι h H ∧ RE K kA ι H ε σ ∧ KG K kA wx σ ι H (c ε h) fun ι' H' h' b => Q b H'
theorem _root_.L2.PTs.wk {X : Cx} {e : List Expr} {t t' : TT} (h : PTs X e t) (i : ∀ σ H Q, t' σ H Q → t σ H Q) : PTs X e t' := ⟨fun pins s σ H Q I q => h.run pins s σ H Q I (i σ H Q q)⟩
section
variable {X : Cx} {kA : KT} {wx : WX} {kd : Kd} {C : Orc} {a b c tg elt iter : Expr} {ca cb cc : E} {pos : Pos} {ifs : List Expr} {ces cs : Es} {it : It} {t : T}
/-- nothing is wished for: nothing is raised -/
abbrev w0 : WX := fun _ _ _ _ => False
theorem ts_nil : PTs X [] (tTs X.K kA wx (evt C kd (.nil))) := pts_nil.wk fun σ H Q ⟨ε, h, ι, R, E, k⟩ => by
  simp only [evt] at k
  exact k.here R
theorem ts_one (h : PT X a (tT X.K kA wx (ev C kd ca))) : PTs X [a] (tTs X.K kA wx (evt C kd ((.cons ca .nil)))) := (pts_one h).wk fun σ H Q ⟨ε, h, ι, R, E, k⟩ => by
  simp only [evt] at k
  refine ⟨ε, h, ι, R, E, (KG.bind k).imp fun ι1 H1 h1 v e1 R1 k1 => ?_⟩
  cases e : truth v h1 with
  | none => rw [e] at k1; exact k1.no.elim
  | some b =>
    rw [e] at k1
    refine ⟨b, rfl, ?_⟩
    cases b with
    | true =>
      have k1 : KG X.K kA wx σ ι1 H1 (.ok true h1) _ := k1
      exact k1.here R1
    | false =>
      have k1 : KG X.K kA wx σ ι1 H1 (.ok false h1) _ := k1
      exact k1.here R1
theorem bind_okE {α β : Type} {r : R α} {f : α → L → R β} {v : β} {h' : L} (e : r.bind f = .ok v h') : ∃ w h1, r = .ok w h1 ∧ f w h1 = .ok v h' := by
  cases r with
  | ok w h1 => exact ⟨w, h1, rfl, e⟩
  | exc _ _ _ => cases e
  | stuck => cases e
theorem calm_okE {α : Type} {r : R α} {v : α} {h : L} (e : r.calm = .ok v h) : r = .ok v h := by
  cases r <;> first | exact e | cases e
theorem ite_ok {α : Type} {c : Prop} [Decidable c] {a : R α} {v : α} {h' : L} (e : (if c then a else .stuck) = .ok v h') : c ∧ a = .ok v h' := by
  by_cases hc : c
  · rw [if_pos hc] at e; exact ⟨hc, e⟩
  · rw [if_neg hc] at e; cases e
/-- a comprehension's code, ended by what is done with the list (its own object at D) -/
theorem cp_core {own : List Nat} {σ : L2.St} {H : Hp} {Q : VK} {ε : Env} {h : L} {ι : List Addr} (R : Rep X.K kA ι h H) (E : RE X.K kA ι H ε σ)
    (hs : ∀ i ∈ slT t, i ∈ own) (kx : KG X.K kA wx σ ι H (evc C kd (.mk own t it cs ca) ε h) fun _ _ _ _ => True)
    (fin : ∀ (xsF : List W) (hF : L), evc C kd (.mk own t it cs ca) ε h = .ok xsF hF → ∀ (ιn : List Addr) (Hn : Hp) (D : Addr) (ys : List V), Ext ι H ιn Hn → Rep X.K kA ιn hF Hn → D ∉ ιn → Ext ι H (ιn ++ [D]) Hn → Hn D = some (.lst ys) → RWs X.K kA ιn Hn xsF ys → Q (.ref D) Hn) :
    tLc (tI X.K kA wx (evi C kd (it))) (sG X.K kA C kd (t)) (tTs X.K kA w0 (evt C kd (cs))) (tE X.K kA w0 (ev C kd (ca))) own σ H Q := by
  rw [evc_eq] at kx
  refine ⟨ε, h, ι, R, E, (KG.bind kx).impE fun ι1 H1 h1 s e1 x1 R1 k1 J good D hD => ?_⟩
  obtain ⟨xsF, hF, e2, _⟩ := k1.okE
  have fin := fin xsF hF (by rw [evc_eq, e1]; exact e2)
  have hDn : D ∉ ι1 := fun z => by
    obtain ⟨u, hu⟩ := R1.live z
    rw [hD] at hu
    cases hu
  refine ⟨fun i m Hc => m = s.items.length - i ∧ ∃ (ιc : List Addr) (hc : L) (acc : List W) (accV : List V), Ext ι1 H1 ιc Hc ∧ D ∉ ιc ∧ Hc D = some (.lst accV) ∧ RWs X.K kA ιc Hc acc accV ∧ Rep X.K kA ιc hc Hc ∧
      turns s.held (cturn C kd own t cs ca ε) (s.items.drop i) hc acc = .ok xsF hF, ⟨_, rfl, ι1, h1, [], [], Ext.fresh hD, hDn, upd_same, rfl, R1.fresh hD, e2⟩, ?_⟩
  rintro i m Hc ⟨rfl, ιc, hc, acc, accV, x2, hn, hl, ra, R2, e3⟩
  cases ei : s.items[i]? with
  | none =>
    rw [drop_none ei] at e3
    have e3 : (if heldB hc s.held then (.ok acc hc : Vl.R (List W)) else .stuck) = .ok xsF hF := e3
    obtain ⟨hh, e4⟩ := ite_ok e3
    cases e4
    obtain ⟨_, stop⟩ := good i ιc Hc _ x2 R2 hh
    have xa : Ext ι H ιc Hc := x1.trans x2
    exact .inl ⟨stop ei, fin ιc Hc D accV xa R2 hn (x1.trans (x2.adoptD hD)) hl ra⟩
  | some w =>
    rw [drop_cons ei] at e3
    have e3 : (if heldB hc s.held then ((cturn C kd own t cs ca ε w hc).calm.bind fun r h => match r with
      | some y => if acc.length < LINE then turns s.held (cturn C kd own t cs ca ε) (s.items.drop (i + 1)) h (acc ++ [y]) else .stuck
      | none => turns s.held (cturn C kd own t cs ca ε) (s.items.drop (i + 1)) h acc) else (.stuck : Vl.R (List W))) = .ok xsF hF := e3
    obtain ⟨hh, e4⟩ := ite_ok e3
    obtain ⟨go, _⟩ := good i ιc Hc hc x2 R2 hh
    obtain ⟨go, yl⟩ := go w ei
    have hlt : i < s.items.length := (List.getElem?_eq_some_iff.mp ei).1
    refine .inr ⟨go, fun H' => ∃ (ιc : List Addr) (hc : L) (acc : List W) (accV : List V), Ext ι1 H1 ιc H' ∧ D ∉ ιc ∧ H' D = some (.lst accV) ∧ RWs X.K kA ιc H' acc accV ∧ Rep X.K kA ιc hc H' ∧
      turns s.held (cturn C kd own t cs ca ε) (s.items.drop (i + 1)) hc acc = .ok xsF hF, fun H' p => ⟨_, by omega, rfl, p⟩, fun x H' hy => ?_⟩
    obtain ⟨x3, R3, rx⟩ := yl x H' hy
    obtain ⟨r, h5, e5, e6⟩ := bind_okE e4
    have e5 := calm_okE e5
    unfold cturn at e5
    obtain ⟨ε2, h6, e7, e8⟩ := bind_okE e5
    obtain ⟨b, h7, e9, e10⟩ := bind_okE e8
    have E3 : RE X.K kA ιc H' (wipes ε own) (L2.wipe σ own) := RE.wipe (RE.ext R2.out x3 (RE.ext R1.out x2 (RE.ext R.out x1 E))) own
    obtain ⟨hl3, hn3⟩ := x3.keep D _ hl hn (fun _ z => nomatch z)
    refine ⟨wipes ε own, hc, ιc, w, R3, E3, rx, ε2, h6, e7, fun ι4 H4 x4 R4 σ2 E4 sb => ⟨?_, ?_⟩⟩
    · have := (sb.mono hs).wipe
      rw [this]
      exact (SameBut.mono (vs := own) ⟨L2.wipe_length σ own, fun j hj => by rw [wipe_get, if_neg hj]⟩ fun _ z => z).wipe
    · refine ⟨ε2, h6, ι4, R4, E4, .inl ⟨b, h7, e9, fun ι5 H5 x5 R5 => ?_⟩⟩
      have ra5 := RWs.ext (Rep.out R3) (x4.trans x5) (RWs.ext R2.out x3 ra)
      obtain ⟨hl5, hn5⟩ := (x4.trans x5).keep D _ hl3 hn3 (fun _ z => nomatch z)
      cases b with
      | true =>
        have e10 : ((ev C kd ca ε2 h7).bind fun y h => .ok (some y) h) = .ok r h5 := e10
        obtain ⟨y, h8, e11, e12⟩ := bind_okE e10
        cases e12
        obtain ⟨hz, e13⟩ := ite_ok e6
        show (if true = true then _ else _)
        rw [if_pos rfl]
        refine ⟨ε2, h7, ι5, R5, RE.ext R4.out x5 E4, .inl ⟨y, h5, e11, fun ι6 H6 x6 R6 yv ry => ?_⟩⟩
        obtain ⟨hl6, hn6⟩ := x6.keep D _ hl5 hn5 (fun _ z => nomatch z)
        have ra6 := RWs.ext R5.out x6 ra5
        have xx : Ext0 ι6 H6 ι6 (upd H6 D (.lst (accV ++ [yv]))) := Ext0.updD hl6 trivial
        refine ⟨accV, hl6, by rw [← ra6.len, ← LINE_eq]; exact hz, ι6, h5, acc ++ [y], accV ++ [yv], ((((x2.trans x3).trans x4).trans x5).trans x6).overD hD, hn6, upd_same, RWs.ext0 xx (ra6.app ⟨yv, [], rfl, ry, rfl⟩),
          R6.updD hn6 hl6 trivial, e13⟩
      | false =>
        have e10 : (.ok none h7 : Vl.R (Option W)) = .ok r h5 := e10
        cases e10
        show (if false = true then _ else _)
        rw [if_neg (by decide)]
        exact ⟨ι5, _, acc, accV, ((x2.trans x3).trans x4).trans x5, hn5, hl5, ra5, R5, e6⟩
theorem e_lc {own : List (Str × Nat)} {scope : Scope} (hc : X.calm = true) (hN : X.N.Nodup) (hi : PI X tg iter (tI X.K kA wx (evi C kd (it)))) (ok : BlkOk X.N X.env.scope scope own) (hs : ∀ i ∈ slT t, i ∈ own.map (·.2))
    (hg : ∀ (s : Shared) (H : Hp) (C' : Addr) (cl : List (Str × Addr)) (fp : List Addr), PG (X.blk s H scope (compEnvC scope cl C' X.env) fp) tg (sG X.K kA C kd (t))) (ht : ∀ (s : Shared) (H : Hp) (C' : Addr) (cl : List (Str × Addr)) (fp : List Addr), PTs (X.blk s H scope (compEnvC scope cl C' X.env) fp) ifs (tTs X.K kA w0 (evt C kd (cs))))
    (he : ∀ (s : Shared) (H : Hp) (C' : Addr) (cl : List (Str × Addr)) (fp : List Addr), PE (X.blk s H scope (compEnvC scope cl C' X.env) fp) elt (tE X.K kA w0 (ev C kd (ca)))) (hf : ∀ x, foldedSetIterable iter X.env x = pure x) :
    PE X (.ListComp elt [⟨tg, iter, ifs, 0⟩] scope pos) (tE X.K kA wx (ev C kd ((.lc (.mk (own.map (·.2)) t it cs ca))))) :=
  (pe_lc hc hN hi ok hg ht he hf).wk fun σ H Q ⟨ε, h, ι, R, E, k⟩ => by
    simp only [ev] at k
    refine cp_core R E hs ((KG.bind k).imp fun _ _ _ _ _ _ _ => trivial) fun xsF hF e1 ιn Hn D ys x Rn hn xa hl ra => ?_
    have er : ((evc C kd (.mk (own.map (·.2)) t it cs ca) ε h).bind fun xs h => alloc (.lst xs) h) = .ok (.ref hF.length) (hF ++ [.lst xsF]) := by rw [e1]; rfl
    refine k.at er xa (Rn.adopt hn hl trivial ⟨ys, hl, RWs.ext0 (Ext0.adopt hl trivial) ra⟩) _ ⟨D, rfl, ?_⟩
    rw [← Rn.len, List.getElem?_append_right (Nat.le_refl _)]
    simp
/-- f([..]) -/
def rCmp (K : PySem.W.Frag) (kA : KT) (f : BF) : List V → Hp → VK → Prop := fun vs H Q =>
  ∃ (p : Addr) (ys : List V) (xs : List W) (ι : List Addr) (h : L), vs = [.ref p] ∧ Rep K kA ι h H ∧ SqL K H p ys ∧ RWs K kA ι H xs ys ∧ KW K kA ι H (cfn f xs h) Q
theorem e_bfc {own : List (Str × Nat)} {scope : Scope} {x : Str} {p cpos : Pos} (f : BF) (hx : x = bstr f) (hgl : Gl X x) (hm : X.mg x = none) (hc : X.calm = true) (hN : X.N.Nodup) (hi : PI X tg iter (tI X.K kA wx (evi C kd (it)))) (ok : BlkOk X.N X.env.scope scope own) (hs : ∀ i ∈ slT t, i ∈ own.map (·.2))
    (hg : ∀ (s : Shared) (H : Hp) (C' : Addr) (cl : List (Str × Addr)) (fp : List Addr), PG (X.blk s H scope (compEnvC scope cl C' X.env) fp) tg (sG X.K kA C kd (t))) (ht : ∀ (s : Shared) (H : Hp) (C' : Addr) (cl : List (Str × Addr)) (fp : List Addr), PTs (X.blk s H scope (compEnvC scope cl C' X.env) fp) ifs (tTs X.K kA w0 (evt C kd (cs))))
    (he : ∀ (s : Shared) (H : Hp) (C' : Addr) (cl : List (Str × Addr)) (fp : List Addr), PE (X.blk s H scope (compEnvC scope cl C' X.env) fp) elt (tE X.K kA w0 (ev C kd (ca)))) (hf : ∀ x, foldedSetIterable iter X.env x = pure x) :
    PE X (.Call (.Name x p) [.ListComp elt [⟨tg, iter, ifs, 0⟩] scope cpos] [] pos) (tE X.K kA wx (ev C kd ((.bfc f (.mk (own.map (·.2)) t it cs ca))))) := by
  have hcall : CallR X (fval f) (rCmp X.K kA f) := by
    intro pins s σ H vs us Q I r h
    obtain ⟨p, ys, xs, ι, h, rfl, R, hs, r1, k⟩ := h
    exact ok_cfn hc f I r R hs r1 k
  refine (call_any hcall hx hgl hm (pa_cons (pe_lc hc hN hi ok hg ht he hf) pa_nil rfl) rfl rfl).wk fun σ H Q ⟨ε, h, ι, R, E, k⟩ => ?_
  simp only [ev] at k
  refine cp_core (Q := fun x H1 => rCmp X.K kA f [x] H1 Q) R E hs ((KG.bind k).imp fun _ _ _ _ _ _ _ => trivial) fun xsF hF e1 ιn Hn D ys x Rn hn xa hl ra => ?_
  exact ⟨D, ys, xsF, ιn, hF, rfl, Rn, SqL.of hl, ra, ((KG.bind k).at e1 x Rn).kw⟩
end
end Vl
set_option maxRecDepth 100000
namespace Vl
open PySem PySem.Spec PyProof.Rows L2
def EndsP (K : PySem.W.Frag) (kA : KT) (D : Ends) (ι : List Addr) (H : Hp) : F → Prop
  | .nx ε => ∀ σ, RE K kA ι H ε σ → D.nx σ H
  | .bk ε => ∀ σ, RE K kA ι H ε σ → D.bk σ H
  | .ct ε => ∀ σ, RE K kA ι H ε σ → D.ct σ H
  | .rt v => ∀ x, RW K kA ι H v x → D.rt x H
/-- statements -/
def tS (K : PySem.W.Frag) (kA : KT) (wx : WX) (c : Env → L → R F) : TS := fun D σ H =>
  ∃ (ε : Env) (h : L) (ι : List Addr), Rep K kA ι h H ∧ RE K kA ι H ε σ ∧ KG K kA wx σ ι H (c ε h) fun ι' H' _ f => EndsP K kA D ι' H' f
/-- the wish does not look at the slots -/
def WI (wx : WX) : Prop := ∀ c d σ σ' H, wx c d σ H → wx c d σ' H
section
variable {X : Cx} {kA : KT} {wx : WX} {kd : Kd} {C : Orc} {a b c tg e iter : Expr} {ca cb cc ce : E} {pos : Pos} {st : Stmt} {sts sts' : List Stmt} {s1 : S} {ss ss' : Ss} {it : It} {t : T} {es : List Expr} {ces : Es}
theorem ss_nil : PSs X [] (tS X.K kA wx (exs C kd (.nil))) := pss_nil.wk fun D σ H ⟨ε, h, ι, R, E, k⟩ => by
  simp only [exs] at k
  exact k.here R σ E
theorem ss_one (h1 : PS X st (tS X.K kA wx (ex C kd (s1)))) : PSs X [st] (tS X.K kA wx (exs C kd ((.cons s1 .nil)))) := (pss_cons h1 pss_nil).wk fun D σ H ⟨ε, h, ι, R, E, k⟩ => by
  simp only [exs] at k
  refine ⟨ε, h, ι, R, E, (KG.bind k).imp fun ι1 H1 h1 f e1 R1 k1 => ?_⟩
  cases f with
  | nx ε1 => exact fun σ1 E1 => KG.here (h := h1) (v := F.nx ε1) k1 R1 σ1 E1
  | rt v => exact KG.here (h := h1) (v := F.rt v) k1 R1
  | bk ε1 => exact KG.here (h := h1) (v := F.bk ε1) k1 R1
  | ct ε1 => exact KG.here (h := h1) (v := F.ct ε1) k1 R1
theorem ss_cons (wi : WI wx) (h1 : PS X st (tS X.K kA wx (ex C kd (s1)))) (h2 : PSs X sts (tS X.K kA wx (exs C kd (ss)))) : PSs X (st :: sts) (tS X.K kA wx (exs C kd ((.cons s1 ss)))) := (pss_cons h1 h2).wk fun D σ H ⟨ε, h, ι, R, E, k⟩ => by
  simp only [exs] at k
  refine ⟨ε, h, ι, R, E, (KG.bind k).imp fun ι1 H1 h1 f e1 R1 k1 => ?_⟩
  cases f with
  | nx ε1 => exact fun σ1 E1 => ⟨ε1, h1, ι1, R1, E1, KG.slots wi k1⟩
  | rt v => exact KG.here (h := h1) (v := F.rt v) k1 R1
  | bk ε1 => exact KG.here (h := h1) (v := F.bk ε1) k1 R1
  | ct ε1 => exact KG.here (h := h1) (v := F.ct ε1) k1 R1
theorem s_pass : PS X (.Pass pos) (tS X.K kA wx (ex C kd (.pass))) := ps_pass.wk fun D σ H ⟨ε, h, ι, R, E, k⟩ => by
  simp only [ex] at k
  exact k.here R σ E
theorem s_brk : PS X (.Break pos) (tS X.K kA wx (ex C kd (.brk))) := ps_break.wk fun D σ H ⟨ε, h, ι, R, E, k⟩ => by
  simp only [ex] at k
  exact k.here R σ E
theorem s_cont : PS X (.Continue pos) (tS X.K kA wx (ex C kd (.cont))) := ps_continue.wk fun D σ H ⟨ε, h, ι, R, E, k⟩ => by
  simp only [ex] at k
  exact k.here R σ E
theorem s_retN : PS X (.Return none pos) (tS X.K kA wx (ex C kd (.retn))) := ps_retN.wk fun D σ H ⟨ε, h, ι, R, E, k⟩ => by
  simp only [ex] at k
  exact k.here R _ rfl
theorem s_ret (he : PE X e (tE X.K kA wx (ev C kd (ce)))) : PS X (.Return (some e) pos) (tS X.K kA wx (ex C kd ((.ret ce)))) := (ps_ret he).wk fun D σ H ⟨ε, h, ι, R, E, k⟩ => by
  simp only [ex] at k
  refine ⟨ε, h, ι, R, E, (KG.bind k).imp fun ι1 H1 h1 v e1 R1 k1 x rx => ?_⟩
  exact k1.here R1 x rx
theorem s_expr (he : PE X e (tE X.K kA wx (ev C kd (ce)))) (hs : swapsWith e none pos.line X.env = pure false) : PS X (.Expr e pos) (tS X.K kA wx (ex C kd ((.expr ce)))) := (ps_expr he hs).wk fun D σ H ⟨ε, h, ι, R, E, k⟩ => by
  simp only [ex] at k
  refine ⟨ε, h, ι, R, E, (KG.bind k).imp fun ι1 H1 h1 v e1 R1 k1 x rx => ?_⟩
  exact k1.here R1 σ (RE.ext R.out e1 E)
theorem s_ife (hc : PT X c (tT X.K kA wx (ev C kd cc))) (ha : PSs X sts (tS X.K kA wx (exs C kd (ss)))) (hb : PSs X sts' (tS X.K kA wx (exs C kd (ss')))) : PS X (.If c sts sts' pos) (tS X.K kA wx (ex C kd ((.ife cc ss ss')))) := (ps_if hc ha hb).wk fun D σ H ⟨ε, h, ι, R, E, k⟩ => by
  simp only [ex] at k
  refine ⟨ε, h, ι, R, E, (KG.bind k).imp fun ι1 H1 h1 v e1 R1 k1 => ?_⟩
  cases e : truth v h1 with
  | none => rw [e] at k1; exact k1.no.elim
  | some b =>
    rw [e] at k1
    refine ⟨b, rfl, ?_⟩
    cases b with
    | true => exact ⟨ε, h1, ι1, R1, RE.ext R.out e1 E, k1⟩
    | false => exact ⟨ε, h1, ι1, R1, RE.ext R.out e1 E, k1⟩
theorem s_asg (he : PE X e (tE X.K kA wx (ev C kd (ce)))) (hg : PG X tg (sG X.K kA C kd (t))) (hs : swapsWithSole [tg] e pos.line X.env = pure false) (hw : swappedStores [tg] e X.env = pure none)
    (h1 : (assignEach [tg] X.env).map (·.2) = [assign tg X.env]) : PS X (.Assign [tg] e pos) (tS X.K kA wx (ex C kd ((.asg t ce)))) := (ps_asg he hg hs hw h1).wk fun D σ H ⟨ε, h, ι, R, E, k⟩ => by
  simp only [ex] at k
  refine ⟨ε, h, ι, R, E, (KG.bind k).imp fun ι1 H1 h1 v e1 R1 k1 x rx => ?_⟩
  refine ⟨ε, h1, ι1, v, R1, RE.ext R.out e1 E, rx, (KG.calm k1).imp fun ι2 H2 h2 ε2 e2 R2 k2 σ2 E2 _ => ?_⟩
  exact k2.here R2 σ2 E2
/-- a, b = x, y -/
theorem s_par {i j : Nat} {x y : Str} {px py pt : Pos} {kt k2 pt2} (hc : X.calm = true) (hN : X.N.Nodup) (hi : X.N[i]? = some x) (hj : X.N[j]? = some y) (hij : i ≠ j)
    (hx : X.env.scope.names.lookup x = some .local) (hy : X.env.scope.names.lookup y = some .local) (ha : PA X [a, b] (tAs X.K kA wx (evs C kd (ces))))
    (hw : swappedStores [.Tuple [.Name x px, .Name y py] kt pt] (.Tuple [a, b] k2 pt2) X.env = pure (some [x, y]))
    (hs : swapsWithSole [.Tuple [.Name x px, .Name y py] kt pt] (.Tuple [a, b] k2 pt2) pos.line X.env = pure false) :
    PS X (.Assign [.Tuple [.Name x px, .Name y py] kt pt] (.Tuple [a, b] k2 pt2) pos) (tS X.K kA wx (ex C kd ((.asg (.tp (.cons (.nm i) (.cons (.nm j) .nil))) (.tup ces))))) := (ps_par hc hN hi hj hij hx hy ha hw hs).wk fun D σ H ⟨ε, h, ι, R, E, k⟩ => by
  simp only [ex] at k
  have k := KG.bind k
  simp only [ev] at k
  refine ⟨ε, h, ι, R, E, (KG.bind k).imp fun ι1 H1 h1 vs e1 R1 k1 xs rs => ?_⟩
  obtain ⟨hl, k1⟩ := KG.ite k1
  have k1 := k1.here R1
  match vs, rs, k1 with
  | [], _, k1 => exact (KG.bind k1).no.elim
  | [_], _, k1 => 
    simp only [sto, stos] at k1
    exact (KG.no k1).elim
  | _ :: _ :: _ :: _, _, k1 =>
    simp only [sto, stos] at k1
    exact (KG.no k1).elim
  | [v, w], rs, k1 =>
    obtain ⟨v', w', rfl, rv, rw'⟩ := rs.two
    simp only [sto, stos, Vl.R.bind] at k1
    exact ⟨v', w', rfl, k1.here R1 _ (RE.set rw' j (RE.set rv i (RE.ext R.out e1 E)))⟩
theorem RWs.three {K : PySem.W.Frag} {kA : KT} {ι : List Addr} {H : Hp} {w w' w'' : W} {vs : List V} (r : RWs K kA ι H [w, w', w''] vs) : ∃ v v' v'', vs = [v, v', v''] ∧ RW K kA ι H w v ∧ RW K kA ι H w' v' ∧ RW K kA ι H w'' v'' := by
  obtain ⟨y, ys, rfl, q, r⟩ := r
  obtain ⟨v', v'', rfl, q', r⟩ := r.two
  exact ⟨y, v', v'', rfl, q, q', r⟩
theorem s_par3 {i j l : Nat} {x y z : Str} {px py pz pt : Pos} {kt k2 pt2} (hc : X.calm = true) (hN : X.N.Nodup) (hi : X.N[i]? = some x) (hj : X.N[j]? = some y) (hl : X.N[l]? = some z) (hij : i ≠ j) (hil : i ≠ l) (hjl : j ≠ l)
    (hx : X.env.scope.names.lookup x = some .local) (hy : X.env.scope.names.lookup y = some .local) (hz : X.env.scope.names.lookup z = some .local) (ha : PA X [a, b, c] (tAs X.K kA wx (evs C kd (ces))))
    (hw : swappedStores [.Tuple [.Name x px, .Name y py, .Name z pz] kt pt] (.Tuple [a, b, c] k2 pt2) X.env = pure (some [x, y, z]))
    (hs : swapsWithSole [.Tuple [.Name x px, .Name y py, .Name z pz] kt pt] (.Tuple [a, b, c] k2 pt2) pos.line X.env = pure false) :
    PS X (.Assign [.Tuple [.Name x px, .Name y py, .Name z pz] kt pt] (.Tuple [a, b, c] k2 pt2) pos) (tS X.K kA wx (ex C kd ((.asg (.tp (.cons (.nm i) (.cons (.nm j) (.cons (.nm l) .nil)))) (.tup ces))))) := (ps_par3 hc hN hi hj hl hij hil hjl hx hy hz ha hw hs).wk fun D σ H ⟨ε, h, ι, R, E, k⟩ => by
  simp only [ex] at k
  have k := KG.bind k
  simp only [ev] at k
  refine ⟨ε, h, ι, R, E, (KG.bind k).imp fun ι1 H1 h1 vs e1 R1 k1 xs rs => ?_⟩
  obtain ⟨hl, k1⟩ := KG.ite k1
  have k1 := k1.here R1
  match vs, rs, k1 with
  | [], _, k1 => exact (KG.bind k1).no.elim
  | [_], _, k1 => 
    simp only [sto, stos] at k1
    exact (KG.no k1).elim
  | [_, _], _, k1 => 
    simp only [sto, stos] at k1
    exact (KG.no k1).elim
  | _ :: _ :: _ :: _ :: _, _, k1 =>
    simp only [sto, stos] at k1
    exact (KG.no k1).elim
  | [u, v, w], rs, k1 =>
    obtain ⟨u', v', w', rfl, ru, rv, rw'⟩ := rs.three
    simp only [sto, stos, Vl.R.bind] at k1
    exact ⟨u', v', w', rfl, k1.here R1 _ (RE.set rw' l (RE.set rv j (RE.set ru i (RE.ext R.out e1 E))))⟩
/-- name op= e -/
def rIp (K : PySem.W.Frag) (kA : KT) (f : W → W → L → R W) : TIp := fun x y H Q => ∃ (v w : W) (h : L) (ι : List Addr), Rep K kA ι h H ∧ RW K kA ι H v x ∧ RW K kA ι H w y ∧ K0 K kA ι H (f v w h) fun ι' H' _ u => ∀ z, RW K kA ι' H' u z → Q z H'
theorem ok_aug (o : BOp) : PIp X (toB o) (rIp X.K kA (augop o)) := by
  intro pins s σ H x y v u Q I rx ry h
  obtain ⟨a, b, h, ι, R, ra, rb, k⟩ := h
  cases o with
  | add =>
    cases a with
    | int i => cases b with
      | int j =>
        cases ra; cases rb
        exact iop_add pins s σ H _ _ _ _ Q I rx ry ⟨i, j, rfl, rfl, K0.here (v := W.int (i + j)) (h := h) k R _ rfl⟩
      | _ => exact k.no.elim
    | _ => cases b <;> exact k.no.elim
  | sub =>
    cases a with
    | int i => cases b with
      | int j =>
        cases ra; cases rb
        exact iop_sub pins s σ H _ _ _ _ Q I rx ry ⟨i, j, rfl, rfl, K0.here (v := W.int (i - j)) (h := h) k R _ rfl⟩
      | _ => exact k.no.elim
    | _ => cases b <;> exact k.no.elim
  | fdiv =>
    cases a with
    | int i => cases b with
      | int j =>
        cases ra; cases rb
        have k : K0 X.K kA ι H (if 0 < j ∧ j < 1073741824 then .ok (W.int (i / j)) h else (.stuck : Vl.R W)) _ := k
        obtain ⟨hc, k⟩ := K0.ite k
        exact iop_fdiv pins s σ H _ _ _ _ Q I rx ry ⟨i, j, rfl, rfl, hc, k.here R _ rfl⟩
      | _ => exact k.no.elim
    | _ => cases b <;> exact k.no.elim
  | _ => cases a <;> cases b <;> exact k.no.elim
theorem s_aug {i : Nat} {x : Str} {pos' : Pos} (o : BOp) (hN : X.N.Nodup) (hi : X.N[i]? = some x) (hx : Loc X.env.scope x) (he : PE X e (tE X.K kA wx (ev C kd (ce)))) (hf : X.fn x = true ∨ X.env.scope.names.lookup x = some .local) :
    PS X (.AugAssign (.Name x pos') (toB o) e pos) (tS X.K kA wx (ex C kd ((.aug i o ce)))) := (ps_aug hN hi hx he (ok_aug (kA := kA) o) hf).wk fun D σ H ⟨ε, h, ι, R, E, k⟩ => by
  simp only [ex] at k
  cases eg : gets ε i with
  | none => rw [eg] at k; exact k.no.elim
  | some w =>
    rw [eg] at k
    obtain ⟨y, ey, ry⟩ := E.get eg
    refine ⟨y, ey, ε, h, ι, R, E, (KG.bind k).imp fun ι1 H1 h1 v e1 R1 k1 x rx => ?_⟩
    refine ⟨w, v, h1, ι1, R1, RW.ext R.out e1 ry, rx, (KG.bind k1).k0.imp fun ι2 H2 h2 u e2 R2 k2 z rz => ?_⟩
    exact k2.here R2 _ (RE.set rz i (RE.ext R.out (e1.trans e2) E))
/-- while -/
theorem s_whl (wi : WI wx) (hp : PassesOwn (model X.prog X.w) X.A X.env X.xe) (hc : PT X c (tT X.K kA wx (ev C kd cc))) (hb : PSs X sts (tS X.K kA wx (exs C kd (ss)))) : PS X (.While c sts [] pos) (tS X.K kA wx (ex C kd ((.whl cc ss)))) := (ps_while hp hc hb).wk fun D σ H ⟨ε, h, ι, R, E, k⟩ => by
  simp only [ex] at k
  refine ⟨fun m σ H => ∃ (ε : Env) (h : L) (ι : List Addr), Rep X.K kA ι h H ∧ RE X.K kA ι H ε σ ∧ KG X.K kA wx σ ι H (whiles (fun σ h => (ev C kd cc σ h).bind fun x h => match truth x h with
      | some k => .ok k h
      | none => .stuck) (fun σ h => exs C kd ss σ h) m ε h) fun ι' H' _ f => EndsP X.K kA D ι' H' f, ⟨FUEL, ε, h, ι, R, E, k⟩, ?_⟩
  rintro m σ H ⟨ε, h, ι, R, E, k⟩
  cases m with
  | zero => exact k.no.elim
  | succ n =>
    simp only [whiles] at k
    refine ⟨ε, h, ι, R, E, (KG.bind (KG.bind k)).imp fun ι1 H1 h1 v e1 R1 k1 => ?_⟩
    cases e : truth v h1 with
    | none => rw [e] at k1; exact k1.no.elim
    | some b =>
      rw [e] at k1
      have k1 := k1.here R1
      refine ⟨b, rfl, ?_⟩
      cases b with
      | true =>
        rw [if_pos rfl]
        refine ⟨fun σ H => ∃ (ε : Env) (h : L) (ι : List Addr), Rep X.K kA ι h H ∧ RE X.K kA ι H ε σ ∧ KG X.K kA wx σ ι H (whiles (fun σ h => (ev C kd cc σ h).bind fun x h => match truth x h with
          | some k => .ok k h
          | none => .stuck) (fun σ h => exs C kd ss σ h) n ε h) fun ι' H' _ f => EndsP X.K kA D ι' H' f, fun σ' H' p => ⟨n, Nat.lt_succ_self n, p⟩, ?_⟩
        refine ⟨ε, h1, ι1, R1, RE.ext R.out e1 E, (KG.bind k1).imp fun ι2 H2 h2 f e2 R2 k2 => ?_⟩
        cases f with
        | nx ε2 => exact fun σ2 E2 => ⟨ε2, h2, ι2, R2, E2, KG.slots wi k2⟩
        | ct ε2 => exact fun σ2 E2 => ⟨ε2, h2, ι2, R2, E2, KG.slots wi k2⟩
        | bk ε2 => exact fun σ2 E2 => KG.here (v := F.nx ε2) (h := h2) k2 R2 σ2 E2
        | rt v => exact KG.here (v := F.rt v) (h := h2) k2 R2
      | false =>
        rw [if_neg (by decide)]
        exact KG.here (v := F.nx ε) (h := h1) k1 R1 σ (RE.ext R.out e1 E)
/-- for -/
theorem s_for (wi : WI wx) (hp : PassesOwn (model X.prog X.w) X.A X.env X.xe) (hc : X.calm = true) (hi : PI X tg iter (tI X.K kA wx (evi C kd (it)))) (hg : PG X tg (sG X.K kA C kd (t))) (hb : PSs X sts (tS X.K kA wx (exs C kd (ss)))) (hs : ∀ x, foldedSetIterable iter X.env x = pure x) :
    PS X (.For tg iter sts [] pos) (tS X.K kA wx (ex C kd ((.for t it ss)))) := (ps_for hp hc hi hg hb hs).wk fun D σ H ⟨ε, h, ι, R, E, k⟩ => by
  simp only [ex] at k
  refine ⟨ε, h, ι, R, E, (KG.bind k).imp fun ι1 H1 h1 s e1 R1 k1 J good => ?_⟩
  refine ⟨fun i m σ Hc => m = s.items.length - i ∧ ∃ (ε : Env) (hc : L) (ιc : List Addr), Ext ι1 H1 ιc Hc ∧ Rep X.K kA ιc hc Hc ∧ RE X.K kA ιc Hc ε σ ∧
    KG X.K kA wx σ ιc Hc (fors s.held (fun x σ h => sto C kd t x σ h) (fun σ h => exs C kd ss σ h) (s.items.drop i) ε hc) fun ι' H' _ f => EndsP X.K kA D ι' H' f, ⟨_, rfl, ε, h1, ι1, Ext.refl, R1, RE.ext R.out e1 E, k1⟩, ?_⟩
  rintro i m σ Hc ⟨rfl, ε, hc, ιc, x2, R2, E2, k2⟩
  cases ei : s.items[i]? with
  | none =>
    rw [drop_none ei] at k2
    have k2 : KG X.K kA wx σ ιc Hc (if heldB hc s.held then (.ok (.nx ε) hc : Vl.R F) else .stuck) _ := k2
    obtain ⟨hh, k3⟩ := KG.ite k2
    exact .inl ⟨(good i ιc Hc hc x2 R2 hh).2 ei, k3.here R2 σ E2⟩
  | some w =>
    rw [drop_cons ei] at k2
    have k2 : KG X.K kA wx σ ιc Hc (if heldB hc s.held then ((sto C kd t w ε hc).calm.bind fun σ h => (exs C kd ss σ h).bind fun f h => match f with
      | .nx σ => fors s.held (fun x σ h => sto C kd t x σ h) (fun σ h => exs C kd ss σ h) (s.items.drop (i + 1)) σ h
      | .ct σ => fors s.held (fun x σ h => sto C kd t x σ h) (fun σ h => exs C kd ss σ h) (s.items.drop (i + 1)) σ h
      | .bk σ => .ok (.nx σ) h
      | .rt v => .ok (.rt v) h) else .stuck) _ := k2
    obtain ⟨hh, k3⟩ := KG.ite k2
    obtain ⟨go, yl⟩ := (good i ιc Hc hc x2 R2 hh).1 w ei
    have hlt : i < s.items.length := (List.getElem?_eq_some_iff.mp ei).1
    refine .inr ⟨go, fun σ Hc => ∃ (ε : Env) (hc : L) (ιc : List Addr), Ext ι1 H1 ιc Hc ∧ Rep X.K kA ιc hc Hc ∧ RE X.K kA ιc Hc ε σ ∧
      KG X.K kA wx σ ιc Hc (fors s.held (fun x σ h => sto C kd t x σ h) (fun σ h => exs C kd ss σ h) (s.items.drop (i + 1)) ε hc) fun ι' H' _ f => EndsP X.K kA D ι' H' f, fun σ' H' p => ⟨_, by omega, rfl, p⟩, fun x H' hy => ?_⟩
    obtain ⟨x3, R3, rx⟩ := yl x H' hy
    have k3' := k3.move x3
    refine ⟨ε, hc, ιc, w, R3, RE.ext R2.out x3 E2, rx, (KG.calm k3').imp fun ι4 H4 h4 ε4 x4 R4 k4 σ4 E4 _ => ?_⟩
    refine ⟨ε4, h4, ι4, R4, E4, (KG.slots wi (KG.bind k4)).imp fun ι5 H5 h5 f x5 R5 k5 => ?_⟩
    cases f with
    | nx ε5 => exact fun σ5 E5 => ⟨ε5, h5, ι5, ((x2.trans x3).trans x4).trans x5, R5, E5, KG.slots wi k5⟩
    | ct ε5 => exact fun σ5 E5 => ⟨ε5, h5, ι5, ((x2.trans x3).trans x4).trans x5, R5, E5, KG.slots wi k5⟩
    | bk ε5 => exact fun σ5 E5 => KG.here (v := F.nx ε5) (h := h5) k5 R5 σ5 E5
    | rt v => exact KG.here (v := F.rt v) (h := h5) k5 R5
end
end Vl
set_option maxRecDepth 100000
namespace Vl
open PySem PySem.Spec PyProof.Rows L2
section
variable {X : Cx} {kA : KT} {wx : WX} {kd : Kd} {C : Orc} {a b c tg elt iter : Expr} {ca cb cc : E} {pos : Pos} {ifs : List Expr} {ces cs : Es} {it : It} {t : T}
/-- name = [..] on one line -/
theorem s_setLc {i : Nat} {y : Str} {py spos : Pos} {own : List (Str × Nat)} {scope : Scope} (hc : X.calm = true) (hN : X.N.Nodup) (hy : X.N[i]? = some y) (hyl : X.env.scope.names.lookup y = some .local)
    (hsw : swapsWith (.ListComp elt [⟨tg, iter, ifs, 0⟩] scope pos) (some (.Name y py)) spos.line X.env = pure true) (hi : PI X tg iter (tI X.K kA wx (evi C kd (it)))) (ok : BlkOk X.N X.env.scope scope own) (hs : ∀ i ∈ slT t, i ∈ own.map (·.2))
    (hg : ∀ (s : Shared) (H : Hp) (C' : Addr) (cl : List (Str × Addr)) (fp : List Addr), PG (X.blk s H scope (compEnvC scope cl C' X.env) fp) tg (sG X.K kA C kd (t))) (ht : ∀ (s : Shared) (H : Hp) (C' : Addr) (cl : List (Str × Addr)) (fp : List Addr), PTs (X.blk s H scope (compEnvC scope cl C' X.env) fp) ifs (tTs X.K kA w0 (evt C kd cs)))
    (he : ∀ (s : Shared) (H : Hp) (C' : Addr) (cl : List (Str × Addr)) (fp : List Addr), PE (X.blk s H scope (compEnvC scope cl C' X.env) fp) elt (tE X.K kA w0 (ev C kd ca))) (hf : ∀ x, foldedSetIterable iter X.env x = pure x) :
    PS X (.Assign [.Name y py] (.ListComp elt [⟨tg, iter, ifs, 0⟩] scope pos) spos) (tS X.K kA wx (ex C kd (.asg (.nm i) (.lc (.mk (own.map (·.2)) t it cs ca))))) :=
  (ps_setLc hc hN hy hyl hsw hi ok hg ht he hf).wk fun D σ H ⟨ε, h, ι, R, E, k⟩ => by
    simp only [ex] at k
    have k1 := KG.bind k
    simp only [ev] at k1
    refine cp_core (Q := fun x H1 => gName i x σ H1 D.nx) R E hs ((KG.bind k1).imp fun _ _ _ _ _ _ _ => trivial) fun xsF hF e3 ιn Hn D' ys x Rn hn xa hl ra => ?_
    have Rn' : Rep X.K kA (ιn ++ [D']) (hF ++ [.lst xsF]) Hn := Rn.adopt hn hl trivial ⟨ys, hl, RWs.ext0 (Ext0.adopt hl trivial) ra⟩
    have hr : RW X.K kA (ιn ++ [D']) Hn (.ref hF.length) (.ref D') := ⟨D', rfl, by
      rw [← Rn.len, List.getElem?_append_right (Nat.le_refl _)]
      simp⟩
    have e1 : ev C kd (.lc (.mk (own.map (·.2)) t it cs ca)) ε h = .ok (.ref hF.length) (hF ++ [.lst xsF]) := by
      simp only [ev]
      rw [e3]
      rfl
    have kk := k.at (v := F.nx (sets ε i (some (.ref hF.length)))) (h' := hF ++ [.lst xsF]) (by rw [e1]; rfl) xa Rn'
    exact kk _ (RE.set hr i (RE.ext R.out xa E))
theorem e_var {i : Nat} {x : Str} (hN : X.N[i]? = some x) (hv : Vis X.env.scope x) (hd : (x == ("__debug__" : Str)) = false) (hcd : (x == ("__classdict__" : Str)) = false) : PE X (.Name x pos) (tE X.K kA wx (ev C kd ((.var i)))) :=
  (pe_var hN hv hd hcd).wk fun σ H Q ⟨ε, h, ι, R, E, k⟩ => by
    simp only [ev] at k
    cases e : gets ε i with
    | none => rw [e] at k; exact k.no.elim
    | some w =>
      rw [e] at k
      obtain ⟨y, ey, ry⟩ := E.get e
      exact ⟨y, ey, k.here R _ ry⟩
theorem e_cst {v : V} {w : W} {e : Expr} (he : PE X e (tC v)) (hw : ∀ ι H, RW X.K kA ι H w v) : PE X e (tE X.K kA wx (ev C kd ((.cst w)))) :=
  he.wk fun σ H Q ⟨ε, h, ι, R, E, k⟩ => by
    simp only [ev] at k
    exact k.here R _ (hw ι H)
end
inductive G where
  | val (w : W) | fn (g np : Nat)
structure Tc where
  N : List Str
  sc : Scope
  top : List (Str × G)
  fre : List Str
  cell : Bool
/-- what the rules ask of a context -/
structure Good (T : Tc) (kA : KT) (kd : Kd) (C : Orc) (wx : WX) (X : Cx) : Prop where
  N : X.N = T.N
  nd : T.N.Nodup
  sc : X.env.scope = T.sc
  kind : T.sc.kind = .function
  calm : X.calm = true
  un : X.A.units + 64 < cLine
  KD : KdOk X.K X.w kA kd
  val : ∀ x w, T.top.lookup x = some (.val w) → ∃ u v, X.mg x = some u ∧ RelV v u ∧ ∀ ι H, RW X.K kA ι H w v
  fn : ∀ x g np, T.top.lookup x = some (.fn g np) → ∃ f fd ps k, ps.length = np ∧ FnG X.prog X.w X.K X.mg X.base k f fd ps (rSp X.K kA (C g)) ∧ Room k X.A ∧ X.mg x = some (.ref f) ∧ PySem.W.keepIn X.K (.ref f) = true ∧ Binds X.K fd ps []
  fre : ∀ x ∈ T.fre, X.mg x = none
  cl : T.cell = true → ∀ x, X.fn x = true
  gd : X.A.guards = some []
  tk : Takes X wx
  pas : PassesOwn (model X.prog X.w) X.A X.env X.xe
def Tc.blk (T : Tc) (scope : Scope) : Tc := { T with sc := relS scope T.sc, cell := false }
theorem takes_w0 {X : Cx} : Takes X w0 := takes_none5
theorem Good.blk {T : Tc} {kA : KT} {kd : Kd} {C : Orc} {wx : WX} {X : Cx} (g : Good T kA kd C wx X) {scope : Scope} (hk : scope.kind = .function) (s : Shared) (H : Hp) (C' : Addr) (cl : List (Str × Addr)) (fp : List Addr) :
    Good (T.blk scope) kA kd C w0 (X.blk s H scope (compEnvC scope cl C' X.env) fp) :=
  ⟨g.N, g.nd, by show relS scope X.env.scope = relS scope T.sc; rw [g.sc], hk, g.calm, g.un, g.KD, g.val, g.fn, g.fre, fun h => (by cases h), g.gd, takes_w0, PassesOwn.never⟩
theorem Good.nox {T : Tc} {kA : KT} {kd : Kd} {C : Orc} {wx : WX} {X : Cx} (g : Good T kA kd C wx X) : Good T kA kd C w0 X.nox :=
  ⟨g.N, g.nd, g.sc, g.kind, g.calm, g.un, g.KD, g.val, g.fn, g.fre, g.cl, g.gd, takes_w0, PassesOwn.never⟩
/-! ### the check -/
def isStar : Expr → Bool
  | .Starred .. => true
  | _ => false
def isSet : Expr → Bool
  | .Set .. => true
  | _ => false
def isSlice : Expr → Bool
  | .Slice .. => true
  | _ => false
def isComp : Expr → Bool
  | .ListComp .. => true | .SetComp .. => true | .DictComp .. => true
  | _ => false
def isTup : Expr → Bool
  | .Tuple .. => true
  | _ => false
def isCall : Expr → Bool
  | .Call .. => true
  | _ => false
/-- the test of it is its value's truth -/
def plainT : Expr → Bool
  | .UnaryOp .Not .. => false | .BoolOp .. => false | .IfExp .. => false | .Compare .. => false
  | _ => true
def isGl (T : Tc) (x : Str) : Bool := decide (T.sc.names.lookup x = some .globalImplicit)
def isVis (T : Tc) (x : Str) : Bool := decide (T.sc.names.lookup x = some .local) || decide (T.sc.names.lookup x = some .cell) || decide (T.sc.names.lookup x = some .free)
def isLoc (T : Tc) (x : Str) : Bool := decide (T.sc.names.lookup x = some .local) || (T.cell && decide (T.sc.names.lookup x = some .cell))
def cEs (r : Expr → E → Bool) : List Expr → Es → Bool
  | [], .nil => true
  | e :: es, .cons c cs => !isStar e && r e c && cEs r es cs
  | _, _ => false
def cTs (r : Expr → E → Bool) : List Expr → Es → Bool
  | [], .nil => true
  | [e], .cons c .nil => r e c
  | _, _ => false
def cGs (r : Expr → T → Bool) : List Expr → Ts → Bool
  | [], .nil => true
  | e :: es, .cons c cs => !isStar e && r e c && cGs r es cs
  | _, _ => false
def cG (T : Tc) (r : Expr → E → Bool) : Nat → Expr → Vl.T → Bool
  | 0, _, _ => false
  | n + 1, e, c => match e, c with
    | .Name x _, .nm i => decide (T.N[i]? = some x) && isLoc T x
    | .Tuple es _ _, .tp ts => cGs (cG T r n) es ts
    | .Subscript a b _, .sb ca cb => !isSlice b && r a ca && r b cb
    | _, _ => false
def cI (T : Tc) (r : Expr → E → Bool) (tg : Expr) : Expr → It → Bool
  | .Call (.Name x _) [a] [] _, .rng1 ces => decide (x = "range") && decide (x ∈ T.fre) && isGl T x && cEs r [a] ces
  | .Call (.Name x _) [a, b] [] _, .rng2 ces => decide (x = "range") && decide (x ∈ T.fre) && isGl T x && cEs r [a, b] ces
  | .Call (.Name x _) [a, b] [] _, .zip ces => decide (x = "zip") && decide (x ∈ T.fre) && isGl T x && isTup tg && cEs r [a, b] ces
  | .Call (.Name x _) [a] [] _, .enum ca => decide (x = "enumerate") && decide (x ∈ T.fre) && isGl T x && isTup tg && !isStar a && r a ca
  | e, .of ce => r e ce
  | _, _ => false
def cO (r : Expr → E → Bool) : Option Expr → E → Bool
  | none, .cst .non => true
  | some e, .idx c => r e c
  | _, _ => false
def ownN (T : Tc) (own : List Nat) : List (Str × Nat) := own.map fun i => ((T.N[i]?).getD ("" : Str), i)
def cCp (T : Tc) (r : Tc → Bool → Expr → E → Bool) (elt tg iter : Expr) (ifs : List Expr) (scope : Scope) : Cp → Bool
  | .mk own t it cs ca => decide (scope.kind = .function) && !isSet iter && blkC T.N T.sc scope (ownN T own) && (slT t).all (fun i => decide (i ∈ own)) &&
      cI T (r T false) tg iter it && cG (T.blk scope) (r (T.blk scope) false) 4 tg t && cTs (r (T.blk scope) true) ifs cs && r (T.blk scope) false elt ca
def isKey : Option Expr → List Nat → Bool
  | some (.Constant (.str s) _ _), k => decide (s = tx k)
  | _, _ => false
def cDs (r : Expr → E → Bool) : List (Option Expr) → List Expr → List (List Nat) → Es → Bool
  | [], [], [], .nil => true
  | x :: xs, e :: es, k :: ks, .cons c cs => isKey x k && r e c && cDs r xs es ks cs
  | _, _, _, _ => false
def cX : Nat → Tc → Bool → Expr → E → Bool
  | 0, _, _, _, _ => false
  | n + 1, T, true, e, c => match e, c with
    | .UnaryOp .Not a _, .not ca => cX n T true a ca
    | .BoolOp op [a] _, c => cX n T true a c
    | .BoolOp .And (a :: b :: rest) pos, .and ca cb => cX n T true a ca && cX n T true (.BoolOp .And (b :: rest) pos) cb
    | .BoolOp .Or (a :: b :: rest) pos, .or ca cb => cX n T true a ca && cX n T true (.BoolOp .Or (b :: rest) pos) cb
    | .Compare a [op] [b] _, .cmp o ca cb => decide (op = toC o) && !isSet b && cX n T false a ca && cX n T false b cb
    | .Compare a [op, op'] [b, d] _, .cmp2 o o' ca cb cd => decide (op = toC o) && decide (op' = toC o') && !isSet d && cX n T false a ca && cX n T false b cb && cX n T false d cd
    | e, c => plainT e && cX n T false e c
  | n + 1, T, false, e, c => match e, c with
    | .Constant .none _ _, .cst .non => true
    | .Constant (.bool b) _ _, .cst (.bl b') => decide (b = b')
    | .Constant (.int i) _ _, .cst (.int j) => decide (i = j)
    | .Constant (.str s) _ _, .cst (.str z) => decide (s = tx z)
    | .Name x _, .var i => decide (T.N[i]? = some x) && isVis T x && decide (x ≠ "__debug__") && decide (x ≠ "__classdict__")
    | .Name x _, .cst (.ty t) => decide (x = bstr (match t with | .int => .toint | .bool => .tobool | .str => .tostr | .tuple => .totup | .list => .tolist | .dict => .todict)) && decide (x ∈ T.fre) && isGl T x
    | .Name x _, .cst w => (match T.top.lookup x with | some (.val w') => W.beq w' w | _ => false) && isGl T x && decide (x ≠ "__debug__")
    | .BinOp a op b _, .bin o ca cb => decide (op = toB o) && cX n T false a ca && cX n T false b cb
    | .UnaryOp .USub a _, .neg ca => cX n T false a ca
    | .UnaryOp .Not a _, .not ca => cX n T false a ca
    | .BoolOp _ [a] _, c => cX n T false a c
    | .BoolOp .And (a :: b :: rest) pos, .and ca cb => cX n T false a ca && cX n T false (.BoolOp .And (b :: rest) pos) cb
    | .BoolOp .Or (a :: b :: rest) pos, .or ca cb => cX n T false a ca && cX n T false (.BoolOp .Or (b :: rest) pos) cb
    | .Compare a [op] [b] _, .cmp o ca cb => decide (op = toC o) && !isSet b && cX n T false a ca && cX n T false b cb
    | .Compare a [op, op'] [b, d] _, .cmp2 o o' ca cb cd => decide (op = toC o) && decide (op' = toC o') && !isSet d && cX n T false a ca && cX n T false b cb && cX n T false d cd
    | .IfExp t a b _, .ite ct ca cb => cX n T true t ct && cX n T false a ca && cX n T false b cb
    | .Tuple es _ _, .tup ces => cEs (cX n T false) es ces
    | .List es _, .lst ces => cEs (cX n T false) es ces
    | .Subscript a (.Slice lo hi none _) _, .slc ca cl ch => cX n T false a ca && cO (cX n T false) lo cl && cO (cX n T false) hi ch
    | .Subscript a (.Slice none none (some (.UnaryOp .USub (.Constant (.int i) _ _) _)) _) _, .rev ca => decide (i = 1) && cX n T false a ca
    | .Subscript a b _, .sub ca cb => !isSlice b && cX n T false a ca && cX n T false b cb
    | .Call (.Name x _) args [] _, .call g ces => (match T.top.lookup x with | some (.fn g' np) => decide (g' = g) && decide (args.length = np) | _ => false) && isGl T x && decide (x ≠ "__debug__") && cEs (cX n T false) args ces
    | .Call (.Name x _) [.ListComp elt [⟨tg, iter, ifs, asy⟩] scope _] [] _, .bfc f cp => decide (asy = 0) && decide (x = bstr f) && decide (x ∈ T.fre) && isGl T x && cCp T (cX n) elt tg iter ifs scope cp
    | .Call (.Name x _) (a :: args) [] _, .bf f ces => decide (x = bstr f) && decide (x ∈ T.fre) && isGl T x && cEs (cX n T false) (a :: args) ces
    | .Call (.Attribute o nm apos) (a :: args) [] pos, .mt m co ces => (decide (m = .append) || decide (m = .extend) || decide (m = .pop)) && decide (nm = mname m) && decide (apos.endLine = pos.line) && !isCall o && decide (args.length < 28) && cX n T false o co && cEs (cX n T false) (a :: args) ces
    | .Call (.Attribute o nm apos) [] [] pos, .mt .bits co .nil => decide (nm = "bit_length") && decide (apos.endLine = pos.line) && !isCall o && cX n T false o co
    | .Dict [] [] _, .dic [] .nil => true
    | .Dict keys values _, .dic ks cs => !keys.isEmpty && decide (keys.length ≤ 15) && cDs (cX n T false) keys values ks cs
    | .ListComp elt [⟨tg, iter, ifs, asy⟩] scope _, .lc cp => decide (asy = 0) && cCp T (cX n) elt tg iter ifs scope cp
    | _, _ => false
end Vl
set_option maxRecDepth 100000
namespace Vl
open PySem PySem.Spec PyProof.Rows L2
section
variable {X : Cx} {kA : KT} {wx : WX} {kd : Kd} {C : Orc} {pos : Pos}
def trsOf (X : Cx) (kA : KT) (wx : WX) (kd : Kd) (C : Orc) : List (List Nat) → Es → List (TE × TE)
  | k :: ks, .cons c cs => (tC (.str (tx k)), tE X.K kA wx (ev C kd c)) :: trsOf X kA wx kd C ks cs
  | _, _ => []
def esLen : Es → Nat
  | .nil => 0
  | .cons _ es => esLen es + 1
theorem pairs_go {σ : L2.St} : ∀ (ks : List (List Nat)) (cs : Es) {ε : Env} {h : L} {ι : List Addr} {H : Hp} {Q : List (V × V) → Hp → Prop}, ks.length = esLen cs → Rep X.K kA ι h H → RE X.K kA ι H ε σ →
    KG X.K kA wx σ ι H (evs C kd cs ε h) (fun ι' H' _ xs => ∀ ys, RWs X.K kA ι' H' xs ys → Q ((ks.zip ys).map fun p => (V.str (tx p.1), p.2)) H') → tPairs (trsOf X kA wx kd C ks cs) σ H Q
  | [], .nil, ε, h, ι, H, Q, _, R, E, k => by
    simp only [evs] at k
    exact k.here R [] rfl
  | z :: ks, .cons c cs, ε, h, ι, H, Q, hl, R, E, k => by
    simp only [evs] at k
    refine (show (tE X.K kA wx (ev C kd (c))) σ H _ from ⟨ε, h, ι, R, E, (KG.bind k).imp fun ι1 H1 h1 v e1 R1 k1 y ry => ?_⟩)
    refine pairs_go ks cs (by simpa [esLen] using hl) R1 (RE.ext R.out e1 E) ((KG.bind k1).imp fun ι2 H2 h2 xs e2 R2 k2 ys rs => ?_)
    exact k2.here R2 (y :: ys) ⟨y, ys, rfl, RW.ext R1.out e2 ry, rs⟩
  | [], .cons _ _, _, _, _, _, _, hl, _, _, _ => by simp [esLen] at hl
  | _ :: _, .nil, _, _, _, _, _, hl, _, _, _ => by simp [esLen] at hl
theorem evs_len : ∀ {cs : Es} {ε : Env} {h : L} {xs : List W} {h' : L}, evs C kd cs ε h = .ok xs h' → xs.length = esLen cs
  | .nil, _, _, _, _, e => by simp only [evs] at e; cases e; rfl
  | .cons c cs, ε, h, xs, h', e => by
    simp only [evs] at e
    obtain ⟨v, h1, e1, e2⟩ := bind_okE e
    obtain ⟨ys, h2, e3, e4⟩ := bind_okE e2
    cases e4
    simp [esLen, evs_len e3]
theorem merge_K {K : PySem.W.Frag} {ι : List Addr} {H : Hp} : ∀ {ks : List (List Nat)} {xs : List W} {ys : List V} {acc : List (List Nat × W)} {accV : List (L2.Key × V)}, RK K kA ι H acc accV → RWs K kA ι H xs ys →
    RK K kA ι H ((ks.zip xs).foldl (fun kvs p => Vl.putK kvs p.1 p.2) acc) (mergeK accV ((ks.zip ys).map fun p => (Sum.inr (tx p.1), p.2)))
  | [], _, _, _, _, r, _ => r
  | _ :: _, [], ys, _, _, r, q => by cases (show ys = [] from q); exact r
  | k :: ks, x :: xs, ys, acc, accV, r, q => by
    obtain ⟨y, ys, rfl, q1, q2⟩ := q
    exact merge_K (ks := ks) (xs := xs) (ys := ys) (acc := Vl.putK acc k x) (accV := L2.putK accV (Sum.inr (tx k)) y) (put_K q1 k r) q2
theorem e_dic {keys : List (Option Expr)} {values : List Expr} {ks : List (List Nat)} {cs : Es} (h : PPs X pos keys values (trsOf X kA wx kd C ks cs)) (hall : keys.all (·.isSome) = true) (hl : keys.length = values.length) (h0 : keys ≠ [])
    (h15 : keys.length ≤ 15) (hk : ks.length = keys.length) (hc : ks.length = esLen cs) : PE X (.Dict keys values pos) (tE X.K kA wx (ev C kd ((.dic ks cs)))) :=
  (pe_disp h hall hl h0 h15).wk fun σ H Q ⟨ε, h, ι, R, E, k⟩ => by
    simp only [ev] at k
    intro p hp
    have hpn : p ∉ ι := fun z => by
      obtain ⟨u, hu⟩ := R.live z
      rw [hp] at hu
      cases hu
    refine pairs_go ks cs hc (R.fresh (o := .dK []) hp) (RE.ext R.out (Ext.fresh hp) E) ((KG.bind k).move (Ext.fresh hp) |>.impE fun ι2 H2 h1 xs e1 x2 R2 k2 ys rs => ?_)
    obtain ⟨hz, k2⟩ := KG.ite k2
    obtain ⟨hl2, hn2⟩ := x2.keep p _ upd_same hpn (fun _ z => nomatch z)
    have xx : Ext ι H ι2 H2 := (Ext.fresh hp).trans x2
    refine ⟨hl2, (ks.zip ys).map fun p => (Sum.inr (tx p.1), p.2), ?_, ?_, ?_⟩
    · rw [List.map_map]
      rfl
    · rw [List.length_map, List.length_zip]
      omega
    · have R3 := R2.updD (o := .dK (mergeK [] ((ks.zip ys).map fun p => (Sum.inr (tx p.1), p.2)))) hn2 hl2 trivial
      have x3 : Ext0 ι2 H2 ι2 (upd H2 p (.dK (mergeK [] ((ks.zip ys).map fun p => (Sum.inr (tx p.1), p.2))))) := Ext0.updD hl2 trivial
      have rs3 := RWs.ext0 (Ext0.adopt (u := .dK _) upd_same trivial) (RWs.ext0 x3 rs)
      have R4 := R3.adopt (u := .dK _) hn2 upd_same trivial (x := .dic ((ks.zip xs).foldl (fun kvs p => Vl.putK kvs p.1 p.2) [])) ⟨_, upd_same, merge_K (acc := []) (accV := []) rfl rs3⟩
      have kk := k.at (v := W.ref h1.length) (h' := h1 ++ [.dic ((ks.zip xs).foldl (fun kvs p => Vl.putK kvs p.1 p.2) [])]) (by rw [e1]; exact if_pos hz) (by
        have := (xx.overD (D := p) (o := .dK (mergeK [] ((ks.zip ys).map fun p => (Sum.inr (tx p.1), p.2)))) hp)
        exact this.adoptD hp) R4
      refine kk _ ⟨p, rfl, ?_⟩
      · rw [← R2.len, List.getElem?_append_right (Nat.le_refl _)]
        simp
theorem e_dnil : PE X (.Dict [] [] pos) (tE X.K kA wx (ev C kd ((.dic [] .nil)))) :=
  pe_dnewK.wk fun σ H Q ⟨ε, h, ι, R, E, k⟩ => by
    simp only [ev, evs] at k
    intro p hp
    have k : KG X.K kA wx σ ι H (.ok (W.ref h.length) (h ++ [O.dic []]) : Vl.R W) _ := k
    refine k.at rfl (Ext.freshN hp) (R.new hp ⟨[], upd_same, rfl⟩) _ ⟨p, rfl, ?_⟩
    rw [← R.len, List.getElem?_append_right (Nat.le_refl _)]
    simp
end
end Vl
set_option maxRecDepth 100000
namespace Vl
open PySem PySem.Spec PyProof.Rows L2
theorem star_of {e : Expr} {es : List Expr} {env : PySem.Env} (h : isStar e = false) : starEach (e :: es) env = (false, eval e env) :: starEach es env := by
  cases e <;> first | rfl | cases h
theorem aeach_of {e : Expr} {es : List Expr} {env : PySem.Env} (h : isStar e = false) : assignEach (e :: es) env = (false, assign e env) :: assignEach es env := by
  cases e <;> first | rfl | cases h
theorem set_of {e : Expr} {env : PySem.Env} (h : isSet e = false) : ∀ x, foldedSetIterable e env x = pure x := by
  cases e <;> first | (intro x; rfl) | cases h
theorem mark_of {op : CmpOp} {e : Expr} (h : isSet e = false) : behindInMarks op e = false := by
  cases e <;> first | rfl | cases h
theorem ix_of {e : Expr} (h : isSlice e = false) : PlainIx e := by
  cases e <;> first | (intro o i; rfl) | cases h
theorem sw_of {e : Expr} {t : Option Expr} {l : Nat} {env : PySem.Env} (h : isComp e = false) : swapsWith e t l env = pure false := by
  cases e <;> first | rfl | cases h
theorem base_of {o : Expr} {nm : Str} {env : PySem.Env} (h : isCall o = false) : attributeBase o nm env (eval o env) = eval o env := by
  cases o <;> first | rfl | cases h
theorem true_of {e : Expr} {env : PySem.Env} (h : plainT e = true) : ∀ whole, isTrue e env whole = (do let v ← whole; standAt e.pos; holding [v] (truthy v)) := by
  cases e with
  | UnaryOp op a p => cases op <;> first | (intro w; rfl) | cases h
  | BoolOp _ _ _ => cases h
  | IfExp _ _ _ _ => cases h
  | Compare _ _ _ _ => cases h
  | _ => intro w; rfl
section
variable {X : Cx} {T : Tc} {kA : KT} {wx : WX} {kd : Kd} {C : Orc}
theorem Good.gl (g : Good T kA kd C wx X) {x : Str} (h : isGl T x = true) : Gl X x := by
  show X.env.scope.names.lookup x = _
  rw [g.sc]
  exact of_decide_eq_true h
theorem Good.vis (g : Good T kA kd C wx X) {x : Str} (h : isVis T x = true) : Vis X.env.scope x := by
  unfold Vis
  rw [g.sc]
  unfold isVis at h
  simpa [Bool.or_eq_true, or_assoc] using h
theorem Good.loc (g : Good T kA kd C wx X) {x : Str} (h : isLoc T x = true) : L2.Loc X.env.scope x ∧ (X.fn x = true ∨ X.env.scope.names.lookup x = some .local) := by
  unfold L2.Loc
  rw [g.sc]
  unfold isLoc at h
  rw [Bool.or_eq_true, Bool.and_eq_true, decide_eq_true_eq, decide_eq_true_eq] at h
  rcases h with h | ⟨h1, h2⟩
  · exact ⟨.inl h, .inr h⟩
  · exact ⟨.inr h2, .inl (g.cl h1 x)⟩
/-- arguments -/
theorem cEs_ok {r : Expr → E → Bool} (hr : ∀ e c, r e c = true → PE X e (tE X.K kA wx (ev C kd (c)))) : ∀ (es : List Expr) (cs : Es), cEs r es cs = true →
    PA X es (tAs X.K kA wx (evs C kd (cs))) ∧ ∀ (env : PySem.Env) (p : Pos), (backTo p (starEach es env)).any (·.1) = false
  | [], cs, h => by
    cases cs with
    | nil => exact ⟨e_nil, fun _ _ => rfl⟩
    | cons _ _ => cases h
  | e :: es, cs, h => by
    cases cs with
    | nil => cases h
    | cons c cs =>
      simp only [cEs, Bool.and_eq_true, Bool.not_eq_true'] at h
      obtain ⟨⟨h1, h2⟩, h3⟩ := h
      obtain ⟨q1, q2⟩ := cEs_ok hr es cs h3
      refine ⟨e_cons (hr _ _ h2) q1 (star_of h1), fun env p => ?_⟩
      rw [star_of h1]
      exact q2 env p
theorem cEs_star {r : Expr → E → Bool} {e : Expr} {es : List Expr} {cs : Es} (h : cEs r (e :: es) cs = true) : isStar e = false ∧ ∃ c cs', cs = .cons c cs' ∧ r e c = true ∧ cEs r es cs' = true := by
  cases cs with
  | nil => cases h
  | cons c cs =>
    simp only [cEs, Bool.and_eq_true, Bool.not_eq_true'] at h
    exact ⟨h.1.1, c, cs, rfl, h.1.2, h.2⟩
theorem cTs_ok {r : Expr → E → Bool} (hr : ∀ e c, r e c = true → PT X e (tT X.K kA wx (ev C kd c))) {es : List Expr} {cs : Es} (h : cTs r es cs = true) : PTs X es (tTs X.K kA wx (evt C kd (cs))) := by
  unfold cTs at h
  split at h
  · exact ts_nil
  · exact ts_one (hr _ _ h)
  · cases h
theorem cGs_ok {r : Expr → Vl.T → Bool} (hr : ∀ e c, r e c = true → PG X e (sG X.K kA C kd (c))) : ∀ (es : List Expr) (cs : Ts), cGs r es cs = true →
    PGs X es (sGs X.K kA C kd cs) ∧ (assignEach es X.env).length = tsLen cs ∧ (assignEach es X.env).findIdx? (·.1) = none
  | [], cs, h => by
    cases cs with
    | nil => exact ⟨gs_nil, rfl, rfl⟩
    | cons _ _ => cases h
  | e :: es, cs, h => by
    cases cs with
    | nil => cases h
    | cons c cs =>
      simp only [cGs, Bool.and_eq_true, Bool.not_eq_true'] at h
      obtain ⟨⟨h1, h2⟩, h3⟩ := h
      obtain ⟨q1, q2, q3⟩ := cGs_ok hr es cs h3
      refine ⟨gs_cons (hr _ _ h2) q1 (by rw [aeach_of h1]; rfl), ?_, ?_⟩
      · rw [aeach_of h1]
        exact congrArg Nat.succ q2
      · rw [aeach_of h1]
        simp [List.findIdx?_cons, q3]
theorem cG_ok (g : Good T kA kd C wx X) {r : Expr → E → Bool} (hr : ∀ e c, r e c = true → PE X e (tE X.K kA wx (ev C kd (c)))) : ∀ (n : Nat) (e : Expr) (c : Vl.T), cG T r n e c = true → PG X e (sG X.K kA C kd (c))
  | 0, _, _, h => by cases h
  | n + 1, e, c, h => by
    unfold cG at h
    split at h
    · simp only [Bool.and_eq_true, decide_eq_true_eq] at h
      obtain ⟨h1, h2⟩ := h
      obtain ⟨q1, q2⟩ := g.loc h2
      exact g_nm (by rw [g.N]; exact g.nd) (by rw [g.N]; exact h1) q1 q2
    · obtain ⟨q1, q2, q3⟩ := cGs_ok (cG_ok g hr n) _ _ h
      exact g_tp g.calm q1 q2 q3
    · rename_i a b p ca cb
      simp only [Bool.and_eq_true, Bool.not_eq_true'] at h
      obtain ⟨⟨h1, h2⟩, h3⟩ := h
      refine g_sb g.un (hr _ _ h2) (hr _ _ h3) ?_
      cases b <;> first | (intro v; rfl) | cases h1
    · cases h
theorem cI_ok (g : Good T kA kd C wx X) {r : Expr → E → Bool} (hr : ∀ e c, r e c = true → PE X e (tE X.K kA wx (ev C kd (c)))) {tg iter : Expr} {it : It} (h : cI T r tg iter it = true) : PI X tg iter (tI X.K kA wx (evi C kd (it))) := by
  unfold cI at h
  split at h
  · simp only [Bool.and_eq_true, decide_eq_true_eq] at h
    obtain ⟨⟨⟨rfl, h2⟩, h3⟩, h4⟩ := h
    obtain ⟨q1, _⟩ := cEs_ok hr _ _ h4
    exact i_rng1 (g.gl h3) (g.fre _ h2) q1 (star_of (cEs_star h4).1)
  · simp only [Bool.and_eq_true, decide_eq_true_eq] at h
    obtain ⟨⟨⟨rfl, h2⟩, h3⟩, h4⟩ := h
    obtain ⟨q1, _⟩ := cEs_ok hr _ _ h4
    obtain ⟨s1, c, cs', rfl, _, h5⟩ := cEs_star h4
    have s2 := (cEs_star h5).1
    exact i_rng2 (g.gl h3) (g.fre _ h2) q1 (by rw [star_of s1, star_of s2]; rfl) (by rw [star_of s2]; rfl)
  · simp only [Bool.and_eq_true, decide_eq_true_eq] at h
    obtain ⟨⟨⟨⟨rfl, h2⟩, h3⟩, h5⟩, h4⟩ := h
    obtain ⟨q1, _⟩ := cEs_ok hr _ _ h4
    obtain ⟨s1, c, cs', rfl, _, h6⟩ := cEs_star h4
    obtain ⟨_, q3⟩ := cEs_ok hr _ _ h6
    cases tg <;> first | exact i_zip (g.gl h3) (g.fre _ h2) q1 (star_of s1) (q3 _ _) | cases h5
  · simp only [Bool.and_eq_true, decide_eq_true_eq, Bool.not_eq_true'] at h
    obtain ⟨⟨⟨⟨⟨rfl, h2⟩, h3⟩, h5⟩, s1⟩, h4⟩ := h
    cases tg <;> first | exact i_enum (g.gl h3) (g.fre _ h2) (hr _ _ h4) (by rw [star_of s1]; rfl) | cases h5
  · exact i_of (hr _ _ h)
  · cases h
theorem cDs_ok {r : Expr → E → Bool} (hr : ∀ e c, r e c = true → PE X e (tE X.K kA wx (ev C kd (c)))) {pos : Pos} : ∀ (xs : List (Option Expr)) (es : List Expr) (ks : List (List Nat)) (cs : Es), cDs r xs es ks cs = true →
    PPs X pos xs es (trsOf X kA wx kd C ks cs) ∧ xs.all (·.isSome) = true ∧ xs.length = es.length ∧ ks.length = xs.length ∧ ks.length = esLen cs
  | [], [], [], .nil, _ => ⟨pps_nil, rfl, rfl, rfl, rfl⟩
  | x :: xs, e :: es, k :: ks, .cons c cs, h => by
    simp only [cDs, Bool.and_eq_true] at h
    obtain ⟨⟨h1, h2⟩, h3⟩ := h
    obtain ⟨q1, q2, q3, q4, q5⟩ := cDs_ok hr (pos := pos) xs es ks cs h3
    unfold isKey at h1
    split at h1
    · rename_i s kk p
      rw [decide_eq_true_eq] at h1
      subst h1
      refine ⟨pps_cons pe_str (hr _ _ h2) q1, ?_, by simp [q3], by simp [q4], by simp [esLen, q5]⟩
      rw [List.all_cons, q2]
      rfl
    · cases h1
  | [], _ :: _, _, _, h => by cases h
  | _ :: _, [], _, _, h => by cases h
  | [], [], _ :: _, _, h => by cases h
  | [], [], [], .cons _ _, h => by cases h
  | _ :: _, _ :: _, [], _, h => by cases h
  | _ :: _, _ :: _, _ :: _, .nil, h => by cases h
theorem own_map {T : Tc} {own : List Nat} : (ownN T own).map (·.2) = own := by
  unfold ownN
  rw [List.map_map]
  exact List.map_id' _
end
end Vl
set_option maxRecDepth 100000
namespace Vl
open PySem PySem.Spec PyProof.Rows L2
/-- what is shown of the check -/
def RecOk (kA : KT) (kd : Kd) (C : Orc) (r : Tc → Bool → Expr → E → Bool) : Prop :=
  ∀ (T : Tc) (X : Cx) (wx : WX), Good T kA kd C wx X → ∀ (e : Expr) (c : E), (r T false e c = true → PE X e (tE X.K kA wx (ev C kd c))) ∧
    (r T true e c = true → PT X e (tT X.K kA wx (ev C kd c)) ∧ ∀ op vs p, e = .BoolOp op vs p → PW X e (tT X.K kA wx (ev C kd c)))
section
variable {kA : KT} {kd : Kd} {C : Orc}
structure CpOk (X : Cx) (kA : KT) (wx : WX) (kd : Kd) (C : Orc) (elt tg iter : Expr) (ifs : List Expr) (scope : Scope) (own : List (Str × Nat)) (t : Vl.T) (it : It) (cs : Es) (ca : E) : Prop where
  hi : PI X tg iter (tI X.K kA wx (evi C kd it))
  ok : BlkOk X.N X.env.scope scope own
  hs : ∀ i ∈ slT t, i ∈ own.map (·.2)
  hg : ∀ (s : Shared) (H : Hp) (C' : Addr) (cl : List (Str × Addr)) (fp : List Addr), PG (X.blk s H scope (compEnvC scope cl C' X.env) fp) tg (sG X.K kA C kd t)
  ht : ∀ (s : Shared) (H : Hp) (C' : Addr) (cl : List (Str × Addr)) (fp : List Addr), PTs (X.blk s H scope (compEnvC scope cl C' X.env) fp) ifs (tTs X.K kA w0 (evt C kd cs))
  he : ∀ (s : Shared) (H : Hp) (C' : Addr) (cl : List (Str × Addr)) (fp : List Addr), PE (X.blk s H scope (compEnvC scope cl C' X.env) fp) elt (tE X.K kA w0 (ev C kd ca))
  hf : ∀ x, foldedSetIterable iter X.env x = pure x
theorem cCp_ok {r : Tc → Bool → Expr → E → Bool} (hr : RecOk kA kd C r) {T : Tc} {X : Cx} {wx : WX} (g : Good T kA kd C wx X) {elt tg iter : Expr} {ifs : List Expr} {scope : Scope} {own : List Nat} {t : Vl.T} {it : It} {cs : Es} {ca : E}
    (h : cCp T r elt tg iter ifs scope (.mk own t it cs ca) = true) : CpOk X kA wx kd C elt tg iter ifs scope (ownN T own) t it cs ca := by
  simp only [cCp, Bool.and_eq_true, decide_eq_true_eq, Bool.not_eq_true', List.all_eq_true] at h
  obtain ⟨⟨⟨⟨⟨⟨⟨hk, hset⟩, hb⟩, hs⟩, hi⟩, hg⟩, ht⟩, he⟩ := h
  refine ⟨cI_ok g (fun e c q => (hr T X wx g e c).1 q) hi, ?_, ?_, fun s H C' cl fp => ?_, fun s H C' cl fp => ?_, fun s H C' cl fp => ?_, set_of hset⟩
  · rw [g.N, g.sc]
    exact blkOk_by hb
  · rw [own_map]
    exact hs
  · exact cG_ok (g.blk hk s H C' cl fp) (fun e c q => (hr _ _ _ (g.blk hk s H C' cl fp) e c).1 q) 4 _ _ hg
  · exact cTs_ok (fun e c q => ((hr _ _ _ (g.blk hk s H C' cl fp) e c).2 q).1) ht
  · exact (hr _ _ _ (g.blk hk s H C' cl fp) _ _).1 he
theorem cO_ok {r : Expr → E → Bool} {X : Cx} {wx : WX} (hr : ∀ e c, r e c = true → PE X e (tE X.K kA wx (ev C kd c))) {e : Option Expr} {c : E} (h : cO r e c = true) : PO X e (tO X.K kA wx (ev C kd c)) ∧ isPart c = true := by
  unfold cO at h
  split at h
  · exact ⟨o_none, rfl⟩
  · exact ⟨o_some (hr _ _ h), rfl⟩
  · cases h
theorem ty_ok (t : BT) : bootBuiltins (bstr (match t with | .int => BF.toint | .bool => .tobool | .str => .tostr | .tuple => .totup | .list => .tolist | .dict => .todict)) = some (.type t.name) := by
  cases t <;> decide +kernel
theorem dbg_ne {x : Str} (h : x ≠ "__debug__") : (x == ("__debug__" : Str)) = false := by
  cases e : (x == ("__debug__" : Str)) with
  | false => rfl
  | true => exact absurd (eq_of_beq e) h
theorem cls_ne {x : Str} (h : x ≠ "__classdict__") : (x == ("__classdict__" : Str)) = false := by
  cases e : (x == ("__classdict__" : Str)) with
  | false => rfl
  | true => exact absurd (eq_of_beq e) h
theorem cX_ok : ∀ n, RecOk kA kd C (cX n)
  | 0 => fun T X wx g e c => ⟨fun h => (by cases h), fun h => (by cases h)⟩
  | n + 1 => by
    have ih := cX_ok n
    intro T X wx g e c
    have ihE : ∀ e c, cX n T false e c = true → PE X e (tE X.K kA wx (ev C kd c)) := fun e c q => (ih T X wx g e c).1 q
    have ihT : ∀ e c, cX n T true e c = true → PT X e (tT X.K kA wx (ev C kd c)) := fun e c q => ((ih T X wx g e c).2 q).1
    have ihW : ∀ op vs p c, cX n T true (.BoolOp op vs p) c = true → PW X (.BoolOp op vs p) (tT X.K kA wx (ev C kd c)) := fun op vs p c q => ((ih T X wx g _ c).2 q).2 op vs p rfl
    refine ⟨fun h => ?_, fun h => ?_⟩
    · unfold cX at h
      split at h
      · exact e_cst pe_non fun _ _ => rfl
      · rw [decide_eq_true_eq] at h; subst h
        exact e_cst pe_bl fun _ _ => rfl
      · rw [decide_eq_true_eq] at h; subst h
        exact e_cst pe_int fun _ _ => rfl
      · rw [decide_eq_true_eq] at h; subst h
        exact e_cst pe_str fun _ _ => rfl
      · simp only [Bool.and_eq_true, decide_eq_true_eq] at h
        obtain ⟨⟨⟨h1, h2⟩, h3⟩, h4⟩ := h
        exact e_var (by rw [g.N]; exact h1) (g.vis h2) (dbg_ne h3) (cls_ne h4)
      · rename_i x p t
        simp only [Bool.and_eq_true, decide_eq_true_eq] at h
        obtain ⟨⟨h1, h2⟩, h3⟩ := h
        subst h1
        refine e_cst (pe_bltn (v := .ty t.name) (g.gl h3) (g.fre _ h2) (ty_ok t) rfl ?_ ?_) fun _ _ => rfl
        · cases t <;> decide +kernel
        · cases t <;> decide +kernel
      · simp only [Bool.and_eq_true, decide_eq_true_eq] at h
        obtain ⟨⟨h1, h2⟩, h3⟩ := h
        split at h1
        · rename_i w' e1
          obtain ⟨u, v, q1, q2, q3⟩ := g.val _ _ e1
          rw [beq_eq h1] at q3
          exact e_cst (pe_glob (g.gl h2) q1 q2 (dbg_ne h3)) q3
        · cases h1
      · simp only [Bool.and_eq_true, decide_eq_true_eq] at h
        obtain ⟨⟨rfl, h2⟩, h3⟩ := h
        exact e_bin _ (ihE _ _ h2) (ihE _ _ h3)
      · exact e_neg (ihE _ _ h)
      · exact e_not (ihE _ _ h)
      · exact pe_one (ihE _ _ h)
      · simp only [Bool.and_eq_true] at h
        exact e_and (ihE _ _ h.1) (ihE _ _ h.2)
      · simp only [Bool.and_eq_true] at h
        exact e_or (ihE _ _ h.1) (ihE _ _ h.2)
      · simp only [Bool.and_eq_true, decide_eq_true_eq, Bool.not_eq_true'] at h
        obtain ⟨⟨⟨rfl, h1⟩, h2⟩, h3⟩ := h
        exact e_cmp g.KD g.un _ (ihE _ _ h2) (ihE _ _ h3) (mark_of h1)
      · simp only [Bool.and_eq_true, decide_eq_true_eq, Bool.not_eq_true'] at h
        obtain ⟨⟨⟨⟨⟨rfl, rfl⟩, h1⟩, h2⟩, h3⟩, h4⟩ := h
        exact e_cmp2 g.KD g.un _ _ (ihE _ _ h2) (ihE _ _ h3) (ihE _ _ h4) (mark_of h1)
      · simp only [Bool.and_eq_true] at h
        exact e_ite (ihT _ _ h.1.1) (ihE _ _ h.1.2) (ihE _ _ h.2)
      · exact e_tup (cEs_ok ihE _ _ h).1
      · exact e_lst (cEs_ok ihE _ _ h).1
      · simp only [Bool.and_eq_true] at h
        obtain ⟨⟨h1, h2⟩, h3⟩ := h
        obtain ⟨q1, q2⟩ := cO_ok ihE h2
        obtain ⟨q3, q4⟩ := cO_ok ihE h3
        exact e_slc (ihE _ _ h1) q1 q3 q2 q4
      · simp only [Bool.and_eq_true, decide_eq_true_eq] at h
        obtain ⟨rfl, h1⟩ := h
        exact e_rev (ihE _ _ h1)
      · simp only [Bool.and_eq_true, Bool.not_eq_true'] at h
        obtain ⟨⟨h1, h2⟩, h3⟩ := h
        exact e_sub g.KD g.un (ihE _ _ h2) (ihE _ _ h3) (ix_of h1)
      · rename_i x p args pos gg ces
        simp only [Bool.and_eq_true, decide_eq_true_eq] at h
        obtain ⟨⟨⟨h1, h2⟩, h3⟩, h4⟩ := h
        split at h1
        · rename_i g' np e1
          simp only [Bool.and_eq_true, decide_eq_true_eq] at h1
          obtain ⟨rfl, hl⟩ := h1
          obtain ⟨f, fd, ps, k, hp, F, hr, hm, hkp, hb⟩ := g.fn _ _ _ e1
          obtain ⟨q1, q2⟩ := cEs_ok ihE _ _ h4
          cases args with
          | nil =>
            cases ces with
            | nil => exact e_call0 F hr g.gd g.tk (g.gl h2) hm hkp hb (dbg_ne h3)
            | cons _ _ => cases h4
          | cons a as =>
            obtain ⟨s1, c, cs', rfl, _, h6⟩ := cEs_star h4
            exact e_call F hr g.gd g.tk (g.gl h2) hm hkp hb q1 (dbg_ne h3) (star_of s1) ((cEs_ok ihE _ _ h6).2 _ _)
        · cases h1
      · rename_i x p elt tg iter ifs asy scope cpos pos f cp
        simp only [Bool.and_eq_true, decide_eq_true_eq] at h
        obtain ⟨⟨⟨⟨rfl, h1⟩, h2⟩, h3⟩, h4⟩ := h
        cases cp with
        | mk own t it cs ca =>
          have q := cCp_ok ih g h4
          have := e_bfc (p := p) (cpos := cpos) (pos := pos) f h1 (g.gl h3) (g.fre _ h2) g.calm (by rw [g.N]; exact g.nd) q.hi q.ok q.hs q.hg q.ht q.he q.hf
          rw [own_map] at this
          exact this
      · rename_i x p a args pos f ces
        simp only [Bool.and_eq_true, decide_eq_true_eq] at h
        obtain ⟨⟨⟨h1, h2⟩, h3⟩, h4⟩ := h
        obtain ⟨q1, q2⟩ := cEs_ok ihE _ _ h4
        obtain ⟨s1, c, cs', rfl, _, h6⟩ := cEs_star h4
        exact e_bf g.KD g.calm g.gd g.un f h1 (g.gl h3) (g.fre _ h2) q1 (star_of s1) ((cEs_ok ihE _ _ h6).2 _ _)
      · rename_i o nm apos a args pos m co ces
        simp only [Bool.and_eq_true, decide_eq_true_eq, Bool.or_eq_true, Bool.not_eq_true'] at h
        obtain ⟨⟨⟨⟨⟨⟨h1, h2⟩, h3⟩, h4⟩, h5⟩, h6⟩, h7⟩ := h
        obtain ⟨q1, q2⟩ := cEs_ok ihE _ _ h7
        obtain ⟨s1, c, cs', rfl, _, h8⟩ := cEs_star h7
        refine e_mt m nm (by rcases h1 with (h1 | h1) | h1 <;> simp [h1]) h2 (ihE _ _ h6) q1 (base_of h4) ?_ (by rw [h3]; exact beq_self_eq_true _) (star_of s1) ((cEs_ok ihE _ _ h8).2 _ _)
        have q3 := q2 X.env pos
        simp only [Bool.and_eq_true, decide_eq_true_eq]
        refine ⟨⟨?_, rfl⟩, ?_⟩
        · rw [List.all_eq_true]
          intro x hx
          rw [List.any_eq_false] at q3
          simpa using q3 x hx
        · simp
          omega
      · rename_i o nm apos pos co
        simp only [Bool.and_eq_true, decide_eq_true_eq, Bool.not_eq_true'] at h
        obtain ⟨⟨⟨rfl, h2⟩, h3⟩, h4⟩ := h
        exact e_bits (ihE _ _ h4) (base_of h3) (by rw [h2]; exact beq_self_eq_true _)
      · exact e_dnil
      · simp only [Bool.and_eq_true, decide_eq_true_eq, Bool.not_eq_true'] at h
        obtain ⟨⟨h1, h2⟩, h3⟩ := h
        obtain ⟨q1, q2, q3, q4, q5⟩ := cDs_ok ihE _ _ _ _ h3
        exact e_dic q1 q2 q3 (fun z => by rw [z] at h1; cases h1) h2 q4 q5
      · rename_i elt tg iter ifs asy scope pos cp
        simp only [Bool.and_eq_true, decide_eq_true_eq] at h
        obtain ⟨rfl, h4⟩ := h
        cases cp with
        | mk own t it cs ca =>
          have q := cCp_ok ih g h4
          have := e_lc (pos := pos) g.calm (by rw [g.N]; exact g.nd) q.hi q.ok q.hs q.hg q.ht q.he q.hf
          rw [own_map] at this
          exact this
      · cases h
    · unfold cX at h
      split at h
      · refine ⟨t_not (ihT _ _ h), fun _ _ _ z => by cases z⟩
      · rename_i op a p
        have q : PW X (.BoolOp op [a] p) (tT X.K kA wx (ev C kd c)) := by
          cases op
          · exact pw_and1 (ihT _ _ h)
          · exact pw_or1 (ihT _ _ h)
        exact ⟨q.pt, fun _ _ _ z => by cases z; exact q⟩
      · simp only [Bool.and_eq_true] at h
        have q := t_and (ihT _ _ h.1) (ihW _ _ _ _ h.2)
        exact ⟨q.pt, fun _ _ _ z => by cases z; exact q⟩
      · simp only [Bool.and_eq_true] at h
        have q := t_or (ihT _ _ h.1) (ihW _ _ _ _ h.2)
        exact ⟨q.pt, fun _ _ _ z => by cases z; exact q⟩
      · simp only [Bool.and_eq_true, decide_eq_true_eq, Bool.not_eq_true'] at h
        obtain ⟨⟨⟨rfl, h1⟩, h2⟩, h3⟩ := h
        exact ⟨t_cmp g.KD g.un _ (ihE _ _ h2) (ihE _ _ h3) (mark_of h1), fun _ _ _ z => by cases z⟩
      · simp only [Bool.and_eq_true, decide_eq_true_eq, Bool.not_eq_true'] at h
        obtain ⟨⟨⟨⟨⟨rfl, rfl⟩, h1⟩, h2⟩, h3⟩, h4⟩ := h
        exact ⟨t_cmp2 g.KD g.un _ _ (ihE _ _ h2) (ihE _ _ h3) (ihE _ _ h4) (mark_of h1), fun _ _ _ z => by cases z⟩
      · simp only [Bool.and_eq_true] at h
        refine ⟨t_val (ihE _ _ h.2) (true_of h.1), fun _ _ _ z => ?_⟩
        rw [z] at h
        cases h.1
end
end Vl
set_option maxRecDepth 100000
namespace Vl
open PySem PySem.Spec PyProof.Rows L2
theorem ite_some {α : Type} {c : Prop} [Decidable c] {a b r : α} (h : (if c then a else b) = r) : (c ∧ a = r) ∨ (¬ c ∧ b = r) := by
  by_cases hc : c
  · rw [if_pos hc] at h; exact .inl ⟨hc, h⟩
  · rw [if_neg hc] at h; exact .inr ⟨hc, h⟩
/-- which stores are swapped -/
def swM (sc : Scope) (ts vs : List Expr) : Option (Option (List Str)) :=
  if !(ts.length == 2 || ts.length == 3) || vs.length != ts.length then some none else
  if vs.any (fun | .Starred .. => true | _ => false) then some none else
  let line := (ts.head?.map (·.pos.line)).getD 0
  let names := ts.filterMap fun
    | .Name id pos => if sc.names.lookup id == some .local && pos.line == line then some id else none
    | _ => none
  if names.length != ts.length || names.eraseDups.length != names.length then some none else
  if vs.all (foldedForSure 8) then some none else
  if vs.all (constantsAlone 8) then none else
  some (some names)
theorem swM_ok {env : PySem.Env} {ts vs : List Expr} {k k' : Nat} {p p' : Pos} {r : Option (List Str)} (hk : env.scope.kind = .function) (h : swM env.scope ts vs = some r) : swappedStores [.Tuple ts k p] (.Tuple vs k' p') env = pure r := by
  have hb : env.blockKind = .function := by unfold Env.blockKind; rw [hk]; rfl
  unfold swappedStores
  unfold swM at h
  simp only [hb]
  have hkind : ∀ id, env.kindOf id = env.scope.names.lookup id := fun _ => rfl
  simp only [hkind]
  have hne : (ScopeKind.function != ScopeKind.function) = false := by decide
  rw [hne, Bool.or_false]
  rcases ite_some h with ⟨h1, h⟩ | ⟨h1, h⟩
  · cases h
    exact if_pos h1
  refine (if_neg h1).trans ?_
  rcases ite_some h with ⟨h2, h⟩ | ⟨h2, h⟩
  · cases h
    exact if_pos h2
  refine (if_neg h2).trans ?_
  rcases ite_some h with ⟨h3, h⟩ | ⟨h3, h⟩
  · cases h
    exact if_pos h3
  refine (if_neg h3).trans ?_
  rcases ite_some h with ⟨h4, h⟩ | ⟨h4, h⟩
  · cases h
    exact if_pos h4
  refine (if_neg h4).trans ?_
  rcases ite_some h with ⟨h5, h⟩ | ⟨h5, h⟩
  · cases h
  · cases h
    exact if_neg h5
def isLst' : Expr → Bool
  | .List .. => true
  | _ => false
theorem sw_none {tg e : Expr} {env : PySem.Env} (h1 : isLst' tg = false) (h2 : (isTup tg && isTup e) = false) : swappedStores [tg] e env = pure none := by
  cases tg <;> first | rfl | cases h1 | skip
  cases e <;> first | rfl | cases h2
/-- how deep an expression may be -/
def FE : Nat := 40
def cPar (T : Tc) (ts vs : List Expr) (names : List Str) (t : Vl.T) (ce : E) : Bool := match ts, vs, t, ce with
  | [.Name x _, .Name y _], [a, b], .tp (.cons (.nm i) (.cons (.nm j) .nil)), .tup ces => decide (names = [x, y]) && decide (i ≠ j) && decide (T.N[i]? = some x) && decide (T.N[j]? = some y) &&
      decide (T.sc.names.lookup x = some .local) && decide (T.sc.names.lookup y = some .local) && cEs (cX FE T false) [a, b] ces
  | [.Name x _, .Name y _, .Name z _], [a, b, c], .tp (.cons (.nm i) (.cons (.nm j) (.cons (.nm l) .nil))), .tup ces => decide (names = [x, y, z]) && decide (i ≠ j) && decide (i ≠ l) && decide (j ≠ l) && decide (T.N[i]? = some x) && decide (T.N[j]? = some y) && decide (T.N[l]? = some z) &&
      decide (T.sc.names.lookup x = some .local) && decide (T.sc.names.lookup y = some .local) && decide (T.sc.names.lookup z = some .local) && cEs (cX FE T false) [a, b, c] ces
  | _, _, _, _ => false
def cAsg (T : Tc) (tg e : Expr) (t : Vl.T) (ce : E) : Bool := match tg, e, t, ce with
  | .Name y py, .ListComp elt [⟨tg', iter, ifs, asy⟩] scope cpos, .nm i, .lc cp => decide (asy = 0) && decide (T.N[i]? = some y) && decide (T.sc.names.lookup y = some .local) && (py.line == cpos.line) &&
      !(scope.names.any fun (n, k) => n == y && (k == .local || k == .cell)) && cCp T (cX FE) elt tg' iter ifs scope cp
  | .Tuple ts _ _, .Tuple vs _ _, t, ce => match swM T.sc ts vs with
    | some none => cG T (cX FE T false) 4 tg t && cX FE T false e ce
    | some (some names) => cPar T ts vs names t ce
    | none => false
  | tg, e, t, ce => !isComp e && !isLst' tg && !(isTup tg && isTup e) && !isStar tg && cG T (cX FE T false) 4 tg t && cX FE T false e ce
def cS1 (T : Tc) (r : List Stmt → Ss → Bool) : Stmt → S → Bool
  | .Pass _, .pass => true
  | .Break _, .brk => true
  | .Continue _, .cont => true
  | .Raise _ _ _, .raise => true
  | .Return none _, .retn => true
  | .Return (some e) _, .ret ce => cX FE T false e ce
  | .Expr e _, .expr ce => !isComp e && cX FE T false e ce
  | .If t a b _, .ife ct sa sb => cX FE T true t ct && r a sa && r b sb
  | .While t b [] _, .whl ct sb => cX FE T true t ct && r b sb
  | .For tg iter b [] _, .for t it sb => !isSet iter && cI T (cX FE T false) tg iter it && cG T (cX FE T false) 4 tg t && r b sb
  | .Assign [tg] e _, .asg t ce => cAsg T tg e t ce
  | .AugAssign (.Name x _) op e _, .aug i o ce => decide (op = toB o) && decide (T.N[i]? = some x) && isLoc T x && cX FE T false e ce
  | .Try b (_ :: _) [] [] _, .try sb => r b sb
  | _, _ => false
def cSs : Nat → Tc → List Stmt → Ss → Bool
  | 0, _, _, _ => false
  | _ + 1, _, [], .nil => true
  | n + 1, T, s :: ss, .cons c cs => cS1 T (cSs n T) s c && cSs n T ss cs
  | _, _, _, _ => false
section
variable {X : Cx} {T : Tc} {kA : KT} {wx : WX} {kd : Kd} {C : Orc}
theorem cPar_ok (g : Good T kA kd C wx X) {ts vs : List Expr} {names : List Str} {t : Vl.T} {ce : E} {k k' : Nat} {p p' pos : Pos} (h : cPar T ts vs names t ce = true) (hw : swappedStores [.Tuple ts k p] (.Tuple vs k' p') X.env = pure (some names)) :
    PS X (.Assign [.Tuple ts k p] (.Tuple vs k' p') pos) (tS X.K kA wx (ex C kd (.asg t ce))) := by
  have ihE : ∀ e c, cX FE T false e c = true → PE X e (tE X.K kA wx (ev C kd c)) := fun e c q => (cX_ok FE T X wx g e c).1 q
  have hN : X.N.Nodup := by rw [g.N]; exact g.nd
  unfold cPar at h
  split at h
  · simp only [Bool.and_eq_true, decide_eq_true_eq] at h
    obtain ⟨⟨⟨⟨⟨⟨h0, h1⟩, h2⟩, h3⟩, h4⟩, h5⟩, h6⟩ := h
    subst h0
    exact s_par g.calm hN (by rw [g.N]; exact h2) (by rw [g.N]; exact h3) h1 (by rw [g.sc]; exact h4) (by rw [g.sc]; exact h5) (cEs_ok ihE _ _ h6).1 hw rfl
  · simp only [Bool.and_eq_true, decide_eq_true_eq] at h
    obtain ⟨⟨⟨⟨⟨⟨⟨⟨⟨⟨h0, h1⟩, h2⟩, h3⟩, h4⟩, h5⟩, h6⟩, h7⟩, h8⟩, h9⟩, h10⟩ := h
    subst h0
    exact s_par3 g.calm hN (by rw [g.N]; exact h4) (by rw [g.N]; exact h5) (by rw [g.N]; exact h6) h1 h2 h3 (by rw [g.sc]; exact h7) (by rw [g.sc]; exact h8) (by rw [g.sc]; exact h9) (cEs_ok ihE _ _ h10).1 hw rfl
  · cases h
theorem cAsg_ok (g : Good T kA kd C wx X) {tg e : Expr} {t : Vl.T} {ce : E} {pos : Pos} (h : cAsg T tg e t ce = true) : PS X (.Assign [tg] e pos) (tS X.K kA wx (ex C kd (.asg t ce))) := by
  have ihE : ∀ e c, cX FE T false e c = true → PE X e (tE X.K kA wx (ev C kd c)) := fun e c q => (cX_ok FE T X wx g e c).1 q
  have hN : X.N.Nodup := by rw [g.N]; exact g.nd
  unfold cAsg at h
  split at h
  · rename_i y py elt tg' iter ifs asy scope cpos i cp
    simp only [Bool.and_eq_true, decide_eq_true_eq, Bool.not_eq_true'] at h
    obtain ⟨⟨⟨⟨⟨rfl, h1⟩, h2⟩, h3⟩, h4⟩, h5⟩ := h
    cases cp with
    | mk own t it cs ca =>
      have q := cCp_ok (cX_ok FE) g h5
      have h2' : X.env.scope.names.lookup y = some .local := by rw [g.sc]; exact h2
      have := s_setLc (spos := pos) (py := py) (pos := cpos) g.calm hN (i := i) (y := y) (by rw [g.N]; exact h1) h2' (sw_true (by rw [g.sc]; exact g.kind) h2' h3 h4) q.hi q.ok q.hs q.hg q.ht q.he q.hf
      rw [own_map] at this
      exact this
  · split at h
    · rename_i e1
      simp only [Bool.and_eq_true] at h
      refine s_asg (ihE _ _ h.2) (cG_ok g ihE 4 _ _ h.1) rfl (swM_ok (by rw [g.sc]; exact g.kind) (by rw [g.sc]; exact e1)) rfl
    · rename_i e1
      exact cPar_ok g h (swM_ok (by rw [g.sc]; exact g.kind) (by rw [g.sc]; exact e1))
    · cases h
  · simp only [Bool.and_eq_true, Bool.not_eq_true'] at h
    obtain ⟨⟨⟨⟨⟨h1, h2⟩, h3⟩, h4⟩, h5⟩, h6⟩ := h
    exact s_asg (ihE _ _ h6) (cG_ok g ihE 4 _ _ h5) (sw_of h1) (sw_none h2 h3) (by rw [aeach_of h4]; rfl)
theorem wi_w0 : WI w0 := fun _ _ _ _ _ z => z
/-- what is shown of the statements' check -/
def RecS (T : Tc) (kA : KT) (kd : Kd) (C : Orc) (r : List Stmt → Ss → Bool) : Prop := ∀ (X : Cx) (wx : WX), Good T kA kd C wx X → WI wx → ∀ ss cs, r ss cs = true → PSs X ss (tS X.K kA wx (exs C kd cs))
theorem cS1_ok (g : Good T kA kd C wx X) (wi : WI wx) {r : List Stmt → Ss → Bool} (hr : RecS T kA kd C r) {s : Stmt} {c : S} (h : cS1 T r s c = true) : PS X s (tS X.K kA wx (ex C kd c)) := by
  have ihE : ∀ e c, cX FE T false e c = true → PE X e (tE X.K kA wx (ev C kd c)) := fun e c q => (cX_ok FE T X wx g e c).1 q
  have ihT : ∀ e c, cX FE T true e c = true → PT X e (tT X.K kA wx (ev C kd c)) := fun e c q => ((cX_ok FE T X wx g e c).2 q).1
  have hN : X.N.Nodup := by rw [g.N]; exact g.nd
  have hp := g.pas
  have hr' := hr X wx g wi
  unfold cS1 at h
  split at h
  · exact s_pass
  · exact s_brk
  · exact s_cont
  · exact ps_never.wk fun D σ H ⟨ε, h, ι, R, E, k⟩ => by
      simp only [ex] at k
      exact k.no
  · exact s_retN
  · exact s_ret (ihE _ _ h)
  · simp only [Bool.and_eq_true, Bool.not_eq_true'] at h
    exact s_expr (ihE _ _ h.2) (sw_of h.1)
  · simp only [Bool.and_eq_true] at h
    exact s_ife (ihT _ _ h.1.1) (hr' _ _ h.1.2) (hr' _ _ h.2)
  · simp only [Bool.and_eq_true] at h
    exact s_whl wi hp (ihT _ _ h.1) (hr' _ _ h.2)
  · simp only [Bool.and_eq_true, Bool.not_eq_true'] at h
    obtain ⟨⟨⟨h1, h2⟩, h3⟩, h4⟩ := h
    exact s_for wi hp g.calm (cI_ok g ihE h2) (cG_ok g ihE 4 _ _ h3) (hr' _ _ h4) (set_of h1)
  · exact cAsg_ok g h
  · simp only [Bool.and_eq_true, decide_eq_true_eq] at h
    obtain ⟨⟨⟨rfl, h1⟩, h2⟩, h3⟩ := h
    obtain ⟨q1, q2⟩ := g.loc h2
    exact s_aug _ hN (by rw [g.N]; exact h1) q1 (ihE _ _ h3) q2
  · refine (ps_try_thru0 (hr X.nox w0 g.nox wi_w0 _ _ h)).wk fun D σ H ⟨ε, h, ι, R, E, k⟩ => ?_
    simp only [ex] at k
    exact ⟨ε, h, ι, R, E, k.k0.calm.kg⟩
  · cases h
theorem cSs_ok : ∀ (n : Nat), RecS T kA kd C (cSs n T)
  | 0, X, wx, g, wi, _, _, h => by cases h
  | n + 1, X, wx, g, wi, [], .nil, _ => ss_nil
  | n + 1, X, wx, g, wi, s :: ss, .cons c cs, h => by
    simp only [cSs, Bool.and_eq_true] at h
    exact ss_cons wi (cS1_ok g wi (cSs_ok n) h.1) (cSs_ok n X wx g wi _ _ h.2)
  | n + 1, X, wx, g, wi, [], .cons _ _, h => by cases h
  | n + 1, X, wx, g, wi, _ :: _, .nil, h => by cases h
end
end Vl
set_option maxRecDepth 100000
namespace Vl
open PySem PySem.Spec PyProof.Rows L2
/-- parameters without defaults -/
def argsOf (l : List Arg) : Arguments := ⟨[], l, none, [], [], none, []⟩
theorem zip_some : ∀ {ps : List Str} {us : List Value} {x : Str}, us.length = ps.length → x ∈ ps → ((ps.zip us).lookup x).isSome = true
  | p :: ps, u :: us, x, h, hx => by
    rw [List.zip_cons_cons, List.lookup_cons]
    cases e : (x == p) with
    | true => rfl
    | false =>
      refine zip_some (by simpa using h) ?_
      rcases List.mem_cons.mp hx with z | z
      · subst z; rw [beq_self_eq_true] at e; cases e
      · exact z
  | p :: ps, [], x, h, _ => by simp at h
theorem zip_none {ps : List Str} {us : List Value} (h : us.length = ps.length) : (ps.filter fun n => ((ps.zip us).lookup n).isNone) = [] := by
  rw [List.filter_eq_nil_iff]
  intro x hx
  have := zip_some h hx
  cases e : (ps.zip us).lookup x with
  | none => rw [e] at this; cases this
  | some _ => simp
theorem zip_map : ∀ {ps : List Str} {us : List Value}, ps.Nodup → us.length = ps.length → ∀ (pre : List (Str × Value)), (∀ p ∈ pre, p.1 ∉ ps) → ps.filterMap (fun n => ((pre ++ ps.zip us).lookup n).map (n, ·)) = ps.zip us
  | [], us, _, h, pre, _ => rfl
  | p :: ps, [], _, h, _, _ => by simp at h
  | p :: ps, u :: us, hn, h, pre, hp => by
    have lk : ∀ (pre : List (Str × Value)) (r : List (Str × Value)), (∀ q ∈ pre, q.1 ≠ p) → (pre ++ (p, u) :: r).lookup p = some u := by
      intro pre r
      induction pre with
      | nil => intro _; simp [List.lookup_cons]
      | cons a t ih =>
        intro ha
        rw [List.cons_append, List.lookup_cons]
        have : (p == a.1) = false := by
          cases e : (p == a.1) with
          | false => rfl
          | true => exact absurd (eq_of_beq e).symm (ha a List.mem_cons_self)
        rw [this]
        exact ih fun q hq => ha q (List.mem_cons_of_mem _ hq)
    rw [List.zip_cons_cons, List.filterMap_cons]
    rw [lk pre _ fun q hq e => hp q hq (by rw [e]; exact List.mem_cons_self)]
    simp only [Option.map_some]
    congr 1
    have ih := zip_map (ps := ps) (us := us) (List.nodup_cons.mp hn).2 (by simpa using h) (pre ++ [(p, u)]) (by
      intro q hq
      rcases List.mem_append.mp hq with z | z
      · exact fun hm => hp q z (List.mem_cons_of_mem _ hm)
      · rw [List.mem_singleton] at z
        subst z
        exact (List.nodup_cons.mp hn).1)
    rw [List.append_assoc] at ih
    exact ih
theorem bind_n {x qual : Str} {body : List Stmt} {scope : Scope} (l : List Arg) (hn : (l.map (·.arg)).Nodup) (kV doc pm : Value) (an : Option Addr) (cdv ct : Value) (us : List Value) (hl : us.length = (l.map (·.arg)).length) :
    bindArgs (PySem.W.fnOf x qual (argsOf l) body scope .none kV doc pm an cdv ct) ⟨us, []⟩ = pure ((l.map (·.arg)).zip us) := by
  have e1 := zip_none hl
  have e2 := zip_map hn hl [] (by simp)
  simp only [List.nil_append] at e2
  have hs : seqItems? (Value.none) = (pure none : Sem (Option (Array Value))) := rfl
  have e3 : (l.map (·.arg)).take l.length = l.map (·.arg) := List.take_of_length_le (by simp)
  have hl' : us.length = l.length := by simpa using hl
  rw [List.filterMap_map] at e2
  unfold bindArgs
  simp [PySem.W.fnOf, argsOf, hs]
  rw [if_neg (by omega)]
  refine (if_neg ?_).trans (congrArg pure e2)
  have e4 : (l.map (·.arg)).length - ([] : List Value).length = l.length := by simp
  simp only [List.map_nil, List.nil_append, List.drop_nil]
  rw [e4, e3, e1]
  simp
end Vl
set_option maxRecDepth 100000
namespace Vl
open PySem PySem.Spec PyProof.Rows L2
/-- a def of the text -/
structure DefQ where
  g : Nat
  x : Str
  args : List Arg
  N : List Str
  sc : Scope
  body : List Stmt
abbrev DefQ.ps (q : DefQ) : List Str := q.args.map (·.arg)
/-- a def's code is the code -/
def cF (top : List (Str × G)) (fre : List Str) (q : DefQ) (f : Fn) : Bool :=
  C8.scC q.N q.ps q.sc && decide (f.np = q.args.length) && decide (f.nn = q.N.length) && cSs 200 ⟨q.N, q.sc, top, fre, true⟩ q.body f.body
def cFs (top : List (Str × G)) (fre : List Str) (qs : List DefQ) (fs : List Fn) : Bool := qs.all fun q => match fs[q.g]? with
  | some f => cF top fre q f
  | none => false
theorem cFs_at {top : List (Str × G)} {fre : List Str} {qs : List DefQ} {fs : List Fn} {q : DefQ} (h : cFs top fre qs fs = true) (e : q ∈ qs) : ∃ f, fs[q.g]? = some f ∧ cF top fre q f = true := by
  have := List.all_eq_true.mp h q e
  have this : (match fs[q.g]? with | some f => cF top fre q f | none => false) = true := this
  split at this
  · rename_i f e1
    exact ⟨f, e1, this⟩
  · cases this
/-- the names of the top that are defs -/
def cTop (top : List (Str × G)) (qs : List DefQ) : Bool := top.all fun p => match p.2 with
  | .fn g np => qs.any fun q => decide (q.g = g) && decide (q.x = p.1) && decide (q.args.length = np)
  | .val _ => true
theorem lookup_mem {α : Type} : ∀ {l : List (Str × α)} {x : Str} {v : α}, l.lookup x = some v → (x, v) ∈ l
  | [], _, _, h => by cases h
  | (a, b) :: l, x, v, h => by
    unfold List.lookup at h
    split at h
    · rename_i e
      cases h
      rw [eq_of_beq e]
      exact List.mem_cons_self
    · exact List.mem_cons_of_mem _ (lookup_mem h)
theorem dps {N ps : List Str} {sc : Scope} (h : C8.scC N ps sc = true) : ps.Nodup := by
  have S := C8.fnScope_by h
  have := S.nd
  rw [← S.pre]
  exact this.sublist (List.take_sublist _ _)
section
variable {P : PySem.Program} {w : World} {K : PySem.W.Frag} {mg : Str → Option Value} {base : Heap} {kA : KT} {kd : Kd}
theorem KF.ite {ι : List Addr} {H : Hp} {c : Prop} [Decidable c] {a : R W} {Q : VK} {E : XK} (k : KF K kA ι H (if c then a else .stuck) Q E) : c ∧ KF K kA ι H a Q E := by
  by_cases hc : c
  · rw [if_pos hc] at k
    exact ⟨hc, k⟩
  · rw [if_neg hc] at k
    rcases k with ⟨_, _, e, _⟩ | ⟨_, _, _, e, _⟩ <;> cases e
/-- a body's end -/
theorem KF.fin {ι : List Addr} {H : Hp} {r : R F} {Q : VK} {E : XK} {σ : L2.St} (k : KF K kA ι H (Vl.fin r) Q E) : KG K kA (fun cls d _ H' => E cls d H') σ ι H r fun ι' H' _ f => EndsP K kA { nx := fun _ H' => Q .non H', rt := Q } ι' H' f := by
  rcases k with ⟨v, h', e1, k⟩ | ⟨c, fs, h', e1, k⟩
  · unfold Vl.fin at e1
    obtain ⟨fl, h1', e2, e3⟩ := bind_okE e1
    refine .inl ⟨fl, h1', e2, fun ι' H' x R' => ?_⟩
    cases fl with
    | nx ε => cases e3; exact fun σ _ => k ι' H' .non x R' rfl
    | rt u => cases e3; exact fun y ry => k ι' H' y x R' ry
    | bk _ => cases e3
    | ct _ => cases e3
  · refine .inr ⟨c, fs, h', ?_, fun ι' H' x R' cls d => k ι' H' x R' cls d⟩
    unfold Vl.fin at e1
    cases r with
    | ok fl h1 => cases fl <;> cases e1
    | exc _ _ _ => cases e1; rfl
    | stuck => cases e1
/-- a def as the top leaves it -/
structure DefAt (K : PySem.W.Frag) (mg : Str → Option Value) (q : DefQ) : Prop where
  ex : ∃ f fd, FunD K q.x q.x (argsOf q.args) q.body q.sc [] [] f fd ∧ mg q.x = some (.ref f)
theorem RE.start {K : PySem.W.Frag} {ι : List Addr} {H : Hp} (m : Nat) : ∀ {ws : List W} {vs : List V}, RWs K kA ι H ws vs → RE K kA ι H (ws.map some ++ List.replicate m none) (vs.map some ++ List.replicate m none)
  | [], vs, r => by
    cases (show vs = [] from r)
    clear r
    induction m with
    | zero => exact rfl
    | succ m ih => exact ⟨none, _, rfl, fun _ e => (by cases e), ih⟩
  | w :: ws, vs, r => by
    obtain ⟨y, ys, rfl, q, r⟩ := r
    exact ⟨some y, _, rfl, fun w' e => (by cases e; exact ⟨y, rfl, q⟩), RE.start m r⟩
/-- a def of the text keeps its promise, by its body -/
theorem _root_.L2.FunD.okG {x qual : Str} {params : Arguments} {body : List Stmt} {scope : Scope} {dvs : List V} {kws : List (Str × V)} {f : Addr} {fd : FuncData} {N ps : List Str} {k : Nat} {sp : Sp} (F : FunD K x qual params body scope dvs kws f fd) (S : FnScope N ps scope)
    (len : ∀ vs H Q E, sp vs H Q E → vs.length = ps.length)
    (hbody : ∀ (cdv : Value) (A : Around) (outer : List PySem.Env) (s : Shared) (H : Hp) (vs : List V) (Q : VK) (E : XK), A.guards = some [] → Room k (A.deeper (envOfC qual scope s.heap.objs.size f cdv)) → sp vs H Q E →
      ∃ t, PSs (cxOf (L2.CX P w) P w K mg base N qual scope f cdv A outer s H E) body t ∧ t { nx := fun _ H' => Q .non H', rt := Q } (L2.start N vs) H) : FnG P w K mg base (k + 1) f fd ps sp := by
  refine ⟨len, fun A out s H as us vs Q E hr hg e0 hb r q => ?_⟩
  obtain ⟨oc, od, dV, kV, doc, pm, an, cdv, ct, osl, rfl, lk, hcd, _, _⟩ := F.ex
  exact LamX.run_ofS lk hcd S hr e0 hb r (len _ _ _ _ q) fun hr' => hbody cdv A out s H vs Q E hg hr' q
/-- all the defs keep what their code promises -/
theorem defs_ok {top : List (Str × G)} {fre : List Str} {qs : List DefQ} {fs : List Fn} (hc : cFs top fre qs fs = true) (ht : cTop top qs = true) (KD : KdOk K w kA kd)
    (hv : ∀ x w, top.lookup x = some (.val w) → ∃ u v, mg x = some u ∧ RelV v u ∧ ∀ ι H, RW K kA ι H w v) (hf : ∀ x ∈ fre, mg x = none) (hq : ∀ (q : DefQ), q ∈ qs → DefAt K mg q) :
    ∀ (d : Nat) (q : DefQ), q ∈ qs → ∃ f fd, FunD K q.x q.x (argsOf q.args) q.body q.sc [] [] f fd ∧ FnG P w K mg base d f fd q.ps (rSp K kA (call kd fs d q.g)) ∧ mg q.x = some (.ref f) ∧ PySem.W.keepIn K (.ref f) = true ∧ Binds K fd q.ps []
  | 0, q, e => by
    obtain ⟨f, fd, F, hm⟩ := (hq q e).ex
    obtain ⟨c, ec, h⟩ := cFs_at hc e
    simp only [cF, Bool.and_eq_true, decide_eq_true_eq] at h
    have stk : ∀ vs H Q E, ¬ rSp K kA (call kd fs 0 q.g) vs H Q E := fun vs H Q E ⟨ws, h, ι, R, r, k⟩ => by
      rcases k with ⟨_, _, e, _⟩ | ⟨_, _, _, e, _⟩ <;> cases e
    exact ⟨f, fd, F, ⟨fun vs H Q E z => absurd z (stk _ _ _ _), fun A outer s H args us vs Q E _ _ _ _ _ z => absurd z (stk _ _ _ _)⟩, hm, F.kp, F.bindsN (bind_n q.args (dps h.1.1.1))⟩
  | d + 1, q, e => by
    have ih := defs_ok hc ht KD hv hf hq d
    obtain ⟨f, fd, F, hm⟩ := (hq q e).ex
    obtain ⟨c, ec, h⟩ := cFs_at hc e
    simp only [cF, Bool.and_eq_true, decide_eq_true_eq] at h
    obtain ⟨⟨⟨h1, h3⟩, h4⟩, h5⟩ := h
    have hcall : ∀ ws h, call kd fs (d + 1) q.g ws h = if ws.length = c.np then fin (exs (call kd fs d) kd c.body (ws.map some ++ List.replicate (c.nn - c.np) none) h) else .stuck := fun ws h => by
      simp only [call, ec]
    refine ⟨f, fd, F, F.okG (C8.fnScope_by h1) (fun vs H Q E ⟨ws, h, ι, R, r, k⟩ => ?_) (fun cdv A outer s H vs Q E hgd hr ⟨ws, h, ι, R, r, k⟩ => ?_), hm, F.kp, F.bindsN (bind_n q.args (dps h1))⟩
    · rw [hcall] at k
      have hl := (KF.ite k).1
      rw [← r.len, hl, h3]
      simp [DefQ.ps]
    · rw [hcall] at k
      obtain ⟨hl, k⟩ := KF.ite k
      have g : Good ⟨q.N, q.sc, top, fre, true⟩ kA kd (call kd fs d) (fun cls d _ H' => E cls d H') (cxOf (L2.CX P w) P w K mg base q.N q.x q.sc f cdv A outer s H E) := by
        have S := C8.fnScope_by h1
        refine ⟨rfl, S.nd, rfl, S.kind, rfl, ?_, KD, hv, fun x gg np ex => ?_, hf, fun _ _ => rfl, hgd, takes_of rfl rfl rfl rfl, passes_of (K := fun e s'' => L2.CX P w outer H s E e s'') rfl⟩
        · have := hr.un
          show (A.deeper _).units + 64 < _
          omega
        · have hm := List.all_eq_true.mp ht _ (lookup_mem ex)
          simp only at hm
          obtain ⟨q', e', hm⟩ := List.any_eq_true.mp hm
          simp only [Bool.and_eq_true, decide_eq_true_eq] at hm
          obtain ⟨f', fd', _, F', m', k', b'⟩ := ih q' e'
          refine ⟨f', fd', q'.ps, d, by simp [DefQ.ps, hm.2], by rw [← hm.1.1]; exact F', hr, ?_, k', b'⟩
          rw [← hm.1.2]
          exact m'
      refine ⟨_, cSs_ok 200 _ _ g (fun _ _ _ _ _ z => z) _ _ h5, ws.map some ++ List.replicate (c.nn - c.np) none, h, ι, R, ?_, ?_⟩
      · have hn : q.N.length - vs.length = c.nn - c.np := by rw [← r.len, hl, h4]
        unfold L2.start
        rw [hn]
        exact RE.start _ r
      · exact KF.fin k
end
end Vl
set_option maxRecDepth 100000
namespace Vl
open PySem PySem.Spec PyProof.Rows L2
/-! ### the top's constants, looked at -/
mutual
def valB (K : PySem.W.Frag) (kA : KT) : W → Value → Bool
  | .non, .none => true
  | .bl b, .bool c => b == c
  | .int i, .int j _ => decide (i = j)
  | .str s, .str z _ => decide (z = tx s)
  | .ty t, .type n => decide (n = t.name)
  | .kd d, .ref a => decide (kA.kd d = some a)
  | .tup xs, .ref a => match K.lookup a with
    | some o => decide (o.cls = .type "tuple") && (match o.data with
      | .seq its _ => decide (its.size ≤ sizeLine) && valsB K kA xs its.toList
      | _ => false)
    | none => false
  | .frz xs, .ref a => match K.lookup a with
    | some o => decide (o.cls = .type "list") && decide (o.dict = none) && (match o.data with
      | .seq its _ => decide (its.size ≤ sizeLine) && valsB K kA xs its.toList
      | _ => false)
    | none => false
  | _, _ => false
def valsB (K : PySem.W.Frag) (kA : KT) : List W → List Value → Bool
  | [], [] => true
  | x :: xs, v :: vs => valB K kA x v && valsB K kA xs vs
  | _, _ => false
end
section
variable {K : PySem.W.Frag} {kA : KT}
mutual
theorem valB_ok : ∀ {w : W} {u : Value}, valB K kA w u = true → ∃ v, RelV v u ∧ ∀ ι H, RW K kA ι H w v
  | .non, u, h => by cases u <;> first | exact ⟨.non, rfl, fun _ _ => rfl⟩ | cases h
  | .bl b, u, h => by cases u <;> first | (rw [beq_iff_eq.mp h]; exact ⟨.bl _, rfl, fun _ _ => rfl⟩) | cases h
  | .int i, u, h => by cases u <;> first | (rw [of_decide_eq_true h]; exact ⟨.int _, ⟨_, rfl⟩, fun _ _ => rfl⟩) | cases h
  | .str s, u, h => by cases u <;> first | (rw [of_decide_eq_true h]; exact ⟨.str _, ⟨_, rfl⟩, fun _ _ => rfl⟩) | cases h
  | .ty t, u, h => by cases u <;> first | (rw [of_decide_eq_true h]; exact ⟨.ty _, rfl, fun _ _ => rfl⟩) | cases h
  | .kd d, u, h => by cases u <;> first | exact ⟨.ref _, rfl, fun _ _ => ⟨_, rfl, of_decide_eq_true h⟩⟩ | cases h
  | .tup xs, u, h => by
    cases u with
    | ref a =>
      simp only [valB] at h
      split at h
      · rename_i o e
        rw [Bool.and_eq_true] at h
        obtain ⟨h1, h2⟩ := h
        split at h2
        · rename_i its n e2
          rw [Bool.and_eq_true] at h2
          obtain ⟨ys, q1, q2⟩ := valsB_ok h2.2
          exact ⟨.ref a, rfl, fun ι H => ⟨a, ys, rfl, .inr ⟨o, its, n, e, of_decide_eq_true h1, e2, of_decide_eq_true h2.1, q1⟩, q2 ι H⟩⟩
        · cases h2
      · cases h
    | _ => cases h
  | .frz xs, u, h => by
    cases u with
    | ref a =>
      simp only [valB] at h
      split at h
      · rename_i o e
        rw [Bool.and_eq_true, Bool.and_eq_true] at h
        obtain ⟨⟨h1, h3⟩, h2⟩ := h
        split at h2
        · rename_i its n e2
          rw [Bool.and_eq_true] at h2
          obtain ⟨ys, q1, q2⟩ := valsB_ok h2.2
          exact ⟨.ref a, rfl, fun ι H => ⟨a, ys, rfl, .inr ⟨o, its, n, e, of_decide_eq_true h1, of_decide_eq_true h3, e2, of_decide_eq_true h2.1, q1⟩, q2 ι H⟩⟩
        · cases h2
      · cases h
    | _ => cases h
  | .ref _, u, h => by cases u <;> cases h
  | .cls _ _, u, h => by cases u <;> cases h
theorem valsB_ok : ∀ {ws : List W} {us : List Value}, valsB K kA ws us = true → ∃ vs, Vals vs us ∧ ∀ ι H, RWs K kA ι H ws vs
  | [], us, h => by
    cases us with
    | nil => exact ⟨[], .nil, fun _ _ => rfl⟩
    | cons _ _ => cases h
  | w :: ws, us, h => by
    cases us with
    | nil => cases h
    | cons u us =>
      simp only [valsB, Bool.and_eq_true] at h
      obtain ⟨v, q1, q2⟩ := valB_ok h.1
      obtain ⟨vs, q3, q4⟩ := valsB_ok h.2
      exact ⟨v :: vs, .cons q1 q3, fun ι H => ⟨v, vs, rfl, q2 ι H, q4 ι H⟩⟩
end
/-- a table's entries -/
def entB (K : PySem.W.Frag) (kA : KT) : List DictEntry → List (List Nat × W) → Bool
  | [], [] => true
  | e :: es, (k, w) :: kvs => (match e.key with
    | .str x _ => decide (x = tx k)
    | _ => false) && valB K kA w e.val && entB K kA es kvs
  | _, _ => false
theorem isStr_tx {v : Value} {k z : List Nat} (h : (match v with | .str x _ => decide (x = tx k) | _ => false) = true) : v.isStr (tx z) = decide (z = k) := by
  cases v with
  | str x t =>
    have e : x = tx k := of_decide_eq_true h
    subst e
    show (tx k == tx z) = decide (z = k)
    by_cases hz : z = k
    · subst hz
      simp
    · rw [decide_eq_false hz]
      cases e : (tx k == tx z) with
      | false => rfl
      | true => exact absurd (tx_inj (eq_of_beq e)).symm hz
  | _ => cases h
theorem entB_ok : ∀ {es : List DictEntry} {kvs : List (List Nat × W)}, entB K kA es kvs = true → ∀ k : List Nat,
    (∀ w, lookK kvs k = some w → ∃ e, es.find? (·.key.isStr (tx k)) = some e ∧ ∃ x, RelV x e.val ∧ ∀ ι H, RW K kA ι H w x) ∧ (lookK kvs k = none → es.find? (·.key.isStr (tx k)) = none ∧ es.any (·.refKey) = false)
  | [], kvs, h, k => by
    cases kvs with
    | nil => exact ⟨fun w e => (by cases e), fun _ => ⟨rfl, rfl⟩⟩
    | cons _ _ => cases h
  | e :: es, [], h, k => by cases h
  | e :: es, (z, w) :: kvs, h, k => by
    simp only [entB, Bool.and_eq_true] at h
    obtain ⟨⟨h1, h2⟩, h3⟩ := h
    have h1' : (match e.key with | .str x _ => decide (x = tx z) | _ => false) = true := h1
    have q := isStr_tx (z := k) h1'
    obtain ⟨i1, i2⟩ := entB_ok h3 k
    have hl : lookK ((z, w) :: kvs) k = if k = z then some w else lookK kvs k := rfl
    by_cases hk : k = z
    · rw [hl, if_pos hk]
      refine ⟨fun w' ew => ?_, fun ew => (by cases ew)⟩
      cases ew
      refine ⟨e, ?_, valB_ok h2⟩
      rw [List.find?_cons, q, decide_eq_true hk]
    · rw [hl, if_neg hk]
      rw [List.find?_cons, q, decide_eq_false hk]
      refine ⟨i1, fun ew => ?_⟩
      obtain ⟨j1, j2⟩ := i2 ew
      refine ⟨j1, ?_⟩
      rw [List.any_cons, j2, Bool.or_false]
      unfold DictEntry.refKey
      split at h1
      · rename_i x t q
        rw [q]
      · cases h1
/-- a table's values -/
theorem ent_vals : ∀ {es : List DictEntry} {kvs : List (List Nat × W)}, entB K kA es kvs = true → (kvs.map (·.1)).Nodup →
    ∃ ys : List (L2.Key × V), (∀ ι H, RK K kA ι H kvs ys) ∧ Paired (fun (y : L2.Key × V) (e : DictEntry) => keyIs y.1 e.key = true ∧ RelV y.2 e.val) ys es ∧ (ys.map (·.1)).Nodup := by
  have key : ∀ {es : List DictEntry} {kvs : List (List Nat × W)}, entB K kA es kvs = true →
      ∃ ys : List (L2.Key × V), (∀ ι H, RK K kA ι H kvs ys) ∧ Paired (fun (y : L2.Key × V) (e : DictEntry) => keyIs y.1 e.key = true ∧ RelV y.2 e.val) ys es ∧ ys.map (·.1) = kvs.map (fun p => Sum.inr (tx p.1)) := by
    intro es
    induction es with
    | nil =>
      intro kvs h
      cases kvs with
      | nil => exact ⟨[], fun _ _ => rfl, .nil, rfl⟩
      | cons _ _ => cases h
    | cons e es ih =>
      intro kvs h
      cases kvs with
      | nil => cases h
      | cons p kvs =>
        obtain ⟨z, w⟩ := p
        simp only [entB, Bool.and_eq_true] at h
        obtain ⟨⟨h1, h2⟩, h3⟩ := h
        obtain ⟨ys, y1, y2, y3⟩ := ih h3
        obtain ⟨v, v1, v2⟩ := valB_ok h2
        split at h1
        · rename_i x t q
          have ex := of_decide_eq_true h1
          exact ⟨(Sum.inr (tx z), v) :: ys, fun ι H => ⟨v, ys, rfl, v2 ι H, y1 ι H⟩, .cons ⟨by rw [q, ex]; exact keyIs_str _ _, v1⟩ y2, by simp [y3]⟩
        · cases h1
  intro es kvs h hn
  obtain ⟨ys, y1, y2, y3⟩ := key h
  refine ⟨ys, y1, y2, ?_⟩
  rw [y3]
  rw [show (kvs.map fun p => (Sum.inr (tx p.1) : L2.Key)) = (kvs.map (·.1)).map (fun k => Sum.inr (tx k)) by rw [List.map_map]; rfl]
  exact List.Pairwise.map _ (fun a b hab e => hab (tx_inj (Sum.inr.inj e))) hn
end
/-! ### what the head is asked -/
abbrev Tb := List (Str × List (List Nat × W))
/-- the tables' numbers: where in the text's tables, if there -/
abbrev Sl := List (Option Nat)
def kAt (K : PySem.W.Frag) (tabs : Tb) (sl : Sl) : Nat → Option Addr := fun d => match sl[d]? with
  | some (some i) => (tabs[i]?).map fun t => He.ga K t.1
  | _ => none
def kAof (K : PySem.W.Frag) (tabs : Tb) (sl : Sl) : KT := ⟨kAt K tabs sl, fun _ => none, fun _ => []⟩
def kdFill (tabs : Tb) : Sl → Kd → Kd
  | o :: sl, k :: kd => (match o with
    | some i => ((tabs[i]?).map (·.2)).getD []
    | none => k) :: kdFill tabs sl kd
  | _, _ => []
theorem kdFill_at {tabs : Tb} : ∀ {sl : Sl} {kd : Kd} {d i : Nat} {kvs}, (kdFill tabs sl kd)[d]? = some kvs → sl[d]? = some (some i) → kvs = ((tabs[i]?).map (·.2)).getD []
  | [], kd, d, i, kvs, _, h => by simp at h
  | o :: sl, [], d, i, kvs, h, _ => by simp [kdFill] at h
  | o :: sl, k :: kd, 0, i, kvs, h, e => by
    simp only [List.getElem?_cons_zero, Option.some.injEq] at e
    subst e
    simp only [kdFill, List.getElem?_cons_zero, Option.some.injEq] at h
    exact h.symm
  | o :: sl, k :: kd, d + 1, i, kvs, h, e => by
    simp only [kdFill, List.getElem?_cons_succ] at h e
    exact kdFill_at h e
abbrev kdOf (tabs : Tb) (sl : Sl) (kd : Kd) : Kd := kdFill tabs sl kd
def tabsOf (tabs : Tb) : List He.Tab := tabs.map fun t => ((fun K => He.ga K t.1), t.2.map fun p => tx p.1)
def defOfQ (q : DefQ) : He.DefD := ⟨(q.x, none), q.x, q.x, argsOf q.args, q.body, q.sc, [], []⟩
def entsB (K : PySem.W.Frag) (kA : KT) (a : Addr) (kvs : List (List Nat × W)) : Bool := match K.lookup a with
  | some o => (match o.data with
    | .dict es _ => entB K kA es.toList kvs
    | _ => false)
  | none => false
def exB (top : List (Str × G)) (fre : List Str) (tabs : Tb) (sl : Sl) (qs : List DefQ) (K : PySem.W.Frag) : Bool :=
  (top.all fun p => match p.2 with
    | .val w => (match PySem.W.nsIn K mainGlobals p.1 with
      | some (some u) => valB K (kAof K tabs sl) w u
      | _ => false)
    | .fn _ _ => true) &&
  (fre.all fun x => match PySem.W.nsIn K mainGlobals x with
    | some none => true
    | _ => false) &&
  (tabs.all fun t => entsB K (kAof K tabs sl) (He.ga K t.1) t.2 && decide ((t.2.map (·.1)).Nodup)) &&
  (qs.all fun q => match PySem.W.nsIn K mainGlobals q.x with
    | some (some (.ref _)) => true
    | _ => false)
abbrev hkOf (n : Nat) (top : List (Str × G)) (fre : List Str) (tabs : Tb) (sl : Sl) (qs : List DefQ) : PySem.W.Hook := He.hookX n [] (qs.map defOfQ) (tabsOf tabs) [] (exB top fre tabs sl qs)
abbrev obOf (n : Nat) (top : List (Str × G)) (fre : List Str) (tabs : Tb) (sl : Sl) (qs : List DefQ) (s : PySem.W.SharedT) : He.AlX := He.obsX n [] (qs.map defOfQ) (tabsOf tabs) [] (exB top fre tabs sl qs) (HandSHeadRun.getT s)
section
variable {P : PySem.Program} {w : World} {K : PySem.W.Frag} {h : Heap} {mg : Str → Option Value} {top : List (Str × G)} {fre : List Str} {tabs : Tb} {sl : Sl} {kd0 : Kd} {qs : List DefQ} {fs : List Fn}
theorem kd_ok (c : He.SaysX [] (qs.map defOfQ) (tabsOf tabs) [] (exB top fre tabs sl qs) w h K) : KdOk K w (kAof K tabs sl) (kdOf tabs sl kd0) := by
  refine ⟨fun d kvs a e ha => ?_⟩
  have ha : kAt K tabs sl d = some a := ha
  unfold kAt at ha
  split at ha
  · rename_i i eo
    obtain ⟨t, et, rfl⟩ := Option.map_eq_some_iff.mp ha
    have e2 := kdFill_at e eo
    rw [et] at e2
    have e2 : kvs = t.2 := e2
    subst e2
    have hex := c.more
    unfold exB at hex
    simp only [Bool.and_eq_true] at hex
    have h3 := List.all_eq_true.mp hex.1.2 t (List.mem_of_getElem? et)
    rw [Bool.and_eq_true, decide_eq_true_eq] at h3
    obtain ⟨h3, hnd⟩ := h3
    obtain ⟨es, n, KD⟩ := c.t.tab i (t := ((fun K => He.ga K t.1), t.2.map fun p => tx p.1)) (by unfold tabsOf; rw [List.getElem?_map, et]; rfl)
    unfold entsB at h3
    rw [KD.at_] at h3
    refine ⟨es, n, KD, ent_vals h3 hnd, fun k => ?_⟩
    obtain ⟨i1, i2⟩ := entB_ok h3 k
    have hn : PySem.W.nsIn K (He.ga K t.1) (tx k) = match es.toList.find? (·.key.isStr (tx k)) with
        | some e => some (some e.val)
        | none => if es.toList.any (·.refKey) then none else some none := by
      unfold PySem.W.nsIn
      rw [show K.lookup (He.ga K t.1) = _ from KD.at_]
      rfl
    refine ⟨fun v ev => ?_, fun ev => ?_⟩
    · obtain ⟨e, e1, x, r1, r2⟩ := i1 v ev
      exact ⟨e.val, x, by rw [hn, e1], r1, r2⟩
    · obtain ⟨j1, j2⟩ := i2 ev
      rw [hn, j1, j2]
      rfl
  · cases ha
theorem ns_ref {K : PySem.W.Frag} {x : Str} (h : (match PySem.W.nsIn K mainGlobals x with | some (some (.ref _)) => true | _ => false) = true) : PySem.W.nsIn K mainGlobals x = some (some (.ref (He.ga K x))) := by
  unfold He.ga
  split at h
  · rename_i a e
    rw [e]
  · cases h
/-- every def keeps its promise, the top being as the head says -/
theorem head_ok (c : He.SaysX [] (qs.map defOfQ) (tabsOf tabs) [] (exB top fre tabs sl qs) w h K) (X : K.In h) (Gm : h.Ns mainGlobals mg) {base : Heap}
    (hc : cFs top fre qs fs = true) (ht : cTop top qs = true) (d : Nat) (q : DefQ) (e : q ∈ qs) :
    ∃ f fd, FunD K q.x q.x (argsOf q.args) q.body q.sc [] [] f fd ∧ FnG P w K mg base d f fd q.ps (rSp K (kAof K tabs sl) (call (kdOf tabs sl kd0) fs d q.g)) ∧ mg q.x = some (.ref f) ∧ PySem.W.keepIn K (.ref f) = true ∧ Binds K fd q.ps [] := by
  have hex := c.more
  unfold exB at hex
  simp only [Bool.and_eq_true] at hex
  obtain ⟨⟨⟨h1, h2⟩, h3⟩, h4⟩ := hex
  refine defs_ok hc ht (kd_ok c) (fun x w' ex => ?_) (fun x hx => ?_) (fun q e => ?_) d q e
  · have hm := List.all_eq_true.mp h1 _ (lookup_mem ex)
    simp only at hm
    split at hm
    · rename_i u eu
      obtain ⟨v, r1, r2⟩ := valB_ok hm
      exact ⟨u, v, PySem.W.mg_of X Gm eu, r1, r2⟩
    · cases hm
  · have hm := List.all_eq_true.mp h2 _ hx
    split at hm
    · rename_i eu
      exact PySem.W.mg_none_of X Gm eu
    · cases hm
  · obtain ⟨i, hi, e2⟩ := List.mem_iff_getElem.mp e
    obtain ⟨fd, F⟩ := c.t.d.def_ i (d := defOfQ q) (by rw [List.getElem?_map, List.getElem?_eq_getElem hi, e2]; rfl)
    have hm := ns_ref (List.all_eq_true.mp h4 _ e)
    exact ⟨_, fd, F, PySem.W.mg_of X Gm hm⟩
end
/-- the script alone is tracked -/
theorem only_script {P : PySem.Program} {w : World} {K : PySem.W.Frag} {h : Heap} {a : Addr} {us : List Value} {is : List Int} (kin : K.In h) (at_ : h.get? a = some ⟨.type "list", none, .seq us.toArray 0, #[]⟩) (ri : IntsAre us is) (hz : is.length ≤ sizeLine) :
    ∃ H : Hp, Only H ∧ SqL K H a (is.map V.int) ∧ HOk P w H h ∧ ∀ b, H b ≠ none → b = a ∧ K.lookup a = none := by
  have rel := vals_ints ri
  have len := ri.length
  cases q : K.lookup a with
  | some o =>
    obtain rfl : _ = o := Option.some.inj (at_.symm.trans (kin a o q))
    exact ⟨fun _ => none, fun _ => .inl rfl, .inr ⟨_, us.toArray, _, q, rfl, rfl, rfl, by simp [len, hz], by simpa using rel⟩, fun b u z => (by cases z), fun b z => absurd rfl z⟩
  | none =>
    have here : ∀ b, (upd (fun _ => none) a (.frz ⟨.type "list", none, .seq us.toArray 0, #[]⟩ (.lst (is.map V.int)))) b ≠ none → b = a := fun b z => by
      by_cases e : b = a
      · exact e
      · exact absurd (upd_ne e) z
    refine ⟨upd (fun _ => none) a (.frz ⟨.type "list", none, .seq us.toArray 0, #[]⟩ (.lst (is.map V.int))), fun b => ?_, .inl (.inr ⟨_, upd_same⟩), fun b u z => ?_, fun b z => ⟨here b z, rfl⟩⟩
    · by_cases e : b = a
      · subst e
        exact .inr ⟨_, _, upd_same⟩
      · exact .inl (upd_ne e)
    · obtain rfl := here b (by rw [z]; simp)
      rw [upd_same] at z
      cases z
      exact ⟨at_, by simp [hz], us, 0, rel, at_⟩
/-- the law's promise, kept -/
theorem end_G {P : PySem.Program} {w : World} {K : PySem.W.Frag} {mg mb : Str → Option Value} {k : Nat} {f a : Addr} {fd : FuncData} {x : Str} {sp : Sp} {s : Shared} {us : List Value} {is : List Int}
    (kin : K.In s.heap) (glob : s.heap.Ns mainGlobals mg) (blt : s.heap.Ns builtinsNs mb) (boot : ∀ y : Str, y ≠ "__name__" → mb y = bootBuiltins y) (lim : s.heap.NoLimit) (noGen : s.gens = #[])
    (at_ : s.heap.get? a = some ⟨.type "list", none, .seq us.toArray 0, #[]⟩) (ri : IntsAre us is) (hz : is.length ≤ sizeLine) (room : Room k callerA)
    (F : ∀ base : Heap, K.In base → base.Ns mainGlobals mg → FnG P w K mg base k f fd [x] sp) (bnd : ∀ (s : Shared) (u : Value), BindsTo s fd ⟨[u], []⟩ [(x, u)])
    (want : ∀ H : Hp, Only H → SqL K H a (is.map V.int) → sp [.ref a] H (fun v _ => v = .bl true) fun _ _ _ => False) :
    codeAny (model P w) callerA (.call (.ref f) ⟨[.ref a], []⟩) (fun r t => r = .ok (.ret (.bool true)) ∧ OldK s.heap t.heap ∧ t.os = s.os ∧ AllBare t.gens) s := by
  obtain ⟨H, only, seq, hok, at1⟩ := only_script (P := P) (w := w) kin at_ ri hz
  -- nothing but lists is tracked
  have untracked : ∀ {b : Addr} {o : Obj}, s.heap.get? b = some o → b ≠ a → H b = none := fun {b o} _ n => by
    cases q : H b with
    | none => rfl
    | some u => exact absurd (at1 b (by rw [q]; simp)).1 n
  have space : ∀ {b : Addr} {m : Str → Option Value}, s.heap.Ns b m → (hidT s.heap H).Ns b m := by
    rintro b m ⟨o, es, ep, e, d, r⟩
    refine ⟨o, es, ep, hidT_get e (untracked e ?_), d, r⟩
    rintro rfl
    obtain rfl := Option.some.inj (at_.symm.trans e)
    cases d
  have kb : K.In (hidT s.heap H) := fun b o e => by
    refine hidT_get (kin b o e) ?_
    cases q : H b with
    | none => rfl
    | some u =>
      obtain ⟨rfl, n⟩ := at1 b (by rw [q]; simp)
      rw [n] at e
      cases e
  obtain ⟨mc, l1, l2⟩ := lim
  have env : Env0 P w K mg (hidT s.heap H) callerA [] s H := by
    refine ⟨rfl, ⟨kb, space glob, ⟨mb, space blt, boot⟩, mc, space l1, l2⟩, fun b o e => of_hidT e, Nat.le_of_eq (hidT_size _ _), trivial, fun b hb => ?_, hok, .of_eq noGen⟩
    simp [frs] at hb
  refine codeAny_mono ((F _ kb (space glob)).run callerA [] s H ⟨[.ref a], []⟩ [.ref a] [.ref a] _ _ room rfl env (bnd s (.ref a)) (.cons rfl .nil) (want H only seq)) fun r t z => ?_
  match r, z with
  | .error e, z =>
    obtain ⟨_, _, _, _, _, _, _, _, _, _, _, _, no⟩ := z
    exact no.elim
  | .ok .next, z => exact False.elim z
  | .ok .brk, z => exact False.elim z
  | .ok .cont, z => exact False.elim z
  | .ok (.ret u), z =>
    obtain ⟨v, H', os, bare, un, hok', rv, (rfl : v = .bl true)⟩ := z
    obtain rfl : u = Value.bool true := rv
    refine ⟨rfl, .of_keep fun b o e => ?_, os, bare⟩
    rcases only b with q | ⟨ob, xs, q⟩
    · exact un.keep b o e q (by simp [frs]) (by simp)
    · obtain ⟨e1, _⟩ := hok b _ q
      obtain rfl := Option.some.inj (e.symm.trans e1)
      exact (hok' b _ (un.frzs b _ _ q)).1
/-- THE END: a law by what its code computes -/
theorem walk_by {l : PySem.W.OpenLaw} {n D : Nat} {pq : PySem.Program} {loose : List Str} {XP : (Str → Option Value) → Heap → Prop} {dr : DefRec} {top : List (Str × G)} {fre : List Str} {tabs : Tb} {sl : Sl} {kd0 : Kd} {qs : List DefQ} {fs : List Fn} {q : DefQ} {x : Arg} {m : Nat}
    (hn : l.most = some n) (hn2 : n ≤ sizeLine) (hdf : dr.params.defaults = []) (hr : Room D callerA) (hc : cFs top fre qs fs = true) (ht : cTop top qs = true) (e : q ∈ qs) (hx : q.args = [x]) (hname : dr.name = q.x)
    (main : ∀ ns : List Int, ns.length ≤ n → ∃ h', call (kdOf tabs sl kd0) fs D q.g [.frz (ns.map W.int)] [] = .ok (.bl true) h') :
    PySem.W.WalkO pq loose XP (hkOf m top fre tabs sl qs).says l.row.toRowW dr [] (fun f vs => PySem.call f vs) := by
  refine Att.attach_call hn hdf fun w s₀ s₁ mg mb fa o pm cd doc a us ns Gr Y ho hd hcd hmg0 hobj hints hlen hg => ?_
  obtain ⟨K, KX, c⟩ := Y
  have Gm := Gr.T.g
  have hps : q.ps = [x.arg] := by unfold DefQ.ps; rw [hx]; rfl
  obtain ⟨f, fd, F, _, hm, _, _⟩ := head_ok (kd0 := kd0) (P := l.prog) (base := s₁.heap) c KX Gm hc ht D q e
  rw [hname, hm] at hmg0
  cases hmg0
  have hsc : (q.args.map (·.arg)).Nodup := by
    have : q.args.map (·.arg) = [x.arg] := hps
    rw [this]
    simp
  refine end_G (fd := fd) (x := x.arg) (sp := rSp K (kAof K tabs sl) (call (kdOf tabs sl kd0) fs D q.g)) KX Gm Gr.T.b Gr.T.builtins Gr.T.nolimit hg hobj hints (Nat.le_trans hlen hn2) hr (fun base hK hN => ?_) (fun s u => ?_) (fun H hO hS => ?_)
  · obtain ⟨f', fd', F', ok', hm', _, _⟩ := head_ok (kd0 := kd0) (P := l.prog) (w := w) (base := base) c KX Gm hc ht D q e
    have : f' = fa ∧ fd' = fd := by
      rw [hm] at hm'
      cases hm'
      obtain ⟨_, _, _, _, _, _, _, _, _, _, rfl, lk, _, _, _⟩ := F.ex
      obtain ⟨_, _, _, _, _, _, _, _, _, _, rfl, lk', _, _, _⟩ := F'.ex
      rw [lk] at lk'
      cases lk'
      exact ⟨rfl, rfl⟩
    obtain ⟨rfl, rfl⟩ := this
    rw [hps] at ok'
    exact ok'
  · have := F.bindsA (bind_n q.args hsc) s [u] (by rw [hx]; rfl)
    have e2 : q.args.map (·.arg) = [x.arg] := hps
    rw [e2] at this
    exact this
  · obtain ⟨h', e1⟩ := main ns hlen
    refine ⟨[.frz (ns.map W.int)], [], [], ⟨rfl, List.nodup_nil, fun i o e => by simp at e⟩, ⟨.ref a, [], rfl, ⟨a, ns.map V.int, rfl, ?_, ?_⟩, rfl⟩, .inl ⟨.bl true, h', e1, fun ι' H' y _ _ ry => by cases ry; rfl⟩⟩
    · rcases hS with hS | hS
      · rcases hS with z | ⟨o, z⟩
        · rcases hO a with z' | ⟨_, _, z'⟩ <;> rw [z] at z' <;> cases z'
        · exact .inl ⟨o, z, by simp⟩
      · exact .inr hS
    · clear hS e1 hlen hints
      induction ns with
      | nil => exact rfl
      | cons i t ih => exact ⟨.int i, _, rfl, rfl, ih⟩
end Vl
set_option maxRecDepth 100000
set_option maxHeartbeats 0
namespace Vl
def c_law (g0 g1 g2 g3 g4 g5 g6 g7 : Nat) : Fn := ⟨1, 5, (.cons (.asg (.nm 1) (.call g0 (.cons (.var 0) .nil))) (.cons (.for (.nm 2) (.rng1 (.cons (.cst (.int 20)) .nil)) (.cons (.asg (.nm 3) (.call g1 (.cons (.var 1) .nil))) (.cons (.ife (.cmp .gt (.call g2 (.cons (.var 1) (.cons (.cst (.int 3)) .nil))) (.cst (.int 0))) (.cons (.asg (.nm 3) (.ite (.cmp .gt (.call g2 (.cons (.var 1) (.cons (.cst (.int 3)) .nil))) (.cst (.int 0))) (.call g3 (.cons (.var 1) (.cons (.var 3) .nil))) (.call g4 (.cons (.var 1) .nil)))) .nil) .nil) (.cons (.asg (.nm 4) (.bf .repr (.cons (.var 3) .nil))) (.cons (.ife (.or (.not (.call g5 (.cons (.call g7 (.cons (.var 3) .nil)) (.cons (.call g6 (.cons (.var 3) .nil)) .nil)))) (.cmp .ne (.bf .repr (.cons (.var 3) .nil)) (.var 4))) (.cons (.ret (.cst (.bl false))) .nil) .nil) .nil))))) (.cons (.ret (.cst (.bl true))) .nil)))⟩
end Vl
namespace VlLaw
open PySem PySem.Spec PyProof.Rows L2 Vl
abbrev R : PySem.W.OpenRow := PySem.W.OpenLaw.row PySem.Challenge.rw_viewlease_k02_reals_looked_at
def F_law : Nat := 49
def fs : List Fn := TAB ++ [c_law F_law_start F_law_v_drawn_real F_law_draw F_law_bent F_law_v_odd F_law_same F_law_v_is_real F_is_real]
def ns : List (Nat × Nat × List PySem.Str) := [(F_is_integer, 1, [("thing" : PySem.Str)]), (F_is_real, 4, [("thing" : PySem.Str)]), (F_fits_double, 5, [("n" : PySem.Str), ("k" : PySem.Str)]), (F_law_v_float, 7, [("_law_code" : PySem.Str)]), (F_law_v_at, 8, [("_law_code" : PySem.Str), ("_law_bits" : PySem.Str), ("_law_many" : PySem.Str), ("_law_least" : PySem.Str), ("_law_wide" : PySem.Str), ("_law_field" : PySem.Str), ("_law_fraction" : PySem.Str)]), (F_law_v_form, 9, [("_law_n" : PySem.Str), ("_law_k" : PySem.Str), ("_law_negative" : PySem.Str)]), (F_law_v_compared, 10, [("_law_one" : PySem.Str), ("_law_other" : PySem.Str), ("_law_low" : PySem.Str)]), (F_law_v_is_real, 11, [("_law_thing" : PySem.Str), ("_law_n" : PySem.Str), ("_law_k" : PySem.Str), ("_law_part" : PySem.Str)]), (F_law_v_great, 12, [("_law_stream" : PySem.Str), ("_law_top" : PySem.Str), ("_law_k" : PySem.Str)]), (F_law_v_drawn_real, 13, [("_law_stream" : PySem.Str), ("_law_code" : PySem.Str), ("_law_bits" : PySem.Str), ("_law_way" : PySem.Str), ("_law_negative" : PySem.Str), ("_law_many" : PySem.Str), ("_law_least" : PySem.Str), ("_law_wide" : PySem.Str), ("_law_full" : PySem.Str), ("_law_half" : PySem.Str), ("_law_m" : PySem.Str), ("_law_j" : PySem.Str)]), (F_law_v_odd, 14, [("_law_stream" : PySem.Str), ("_law_some" : PySem.Str)]), (F_law_draw, 15, [("_law_stream" : PySem.Str), ("_law_many" : PySem.Str), ("_law_mixed" : PySem.Str), ("_law_digit" : PySem.Str)]), (F_law_start, 16, [("_law_script" : PySem.Str)]), (F_law_pick, 17, [("_law_stream" : PySem.Str), ("_law_some" : PySem.Str)]), (F_law_same, 18, [("_law_found" : PySem.Str), ("_law_due" : PySem.Str), ("_law_one" : PySem.Str), ("_law_other" : PySem.Str)]), (F_law_bent, 19, [("_law_stream" : PySem.Str), ("_law_real" : PySem.Str), ("_law_way" : PySem.Str), ("_law_some" : PySem.Str), ("_law_n" : PySem.Str), ("_law_word" : PySem.Str), ("_law_k" : PySem.Str)]), (F_law, 20, [("_law_script" : PySem.Str), ("_law_stream" : PySem.Str), ("_law_turn" : PySem.Str), ("_law_thing" : PySem.Str), ("_law_kept" : PySem.Str)])]
def top : List (PySem.Str × G) := [(("WORDS" : PySem.Str), .val (.tup [.str [45, 48], .str [105, 110, 102], .str [45, 105, 110, 102], .str [110, 97, 110]])), (("is_integer" : PySem.Str), .fn F_is_integer 1), (("is_real" : PySem.Str), .fn F_is_real 1), (("fits_double" : PySem.Str), .fn F_fits_double 2), (("_law_v_float" : PySem.Str), .fn F_law_v_float 1), (("_law_v_at" : PySem.Str), .fn F_law_v_at 2), (("_law_v_form" : PySem.Str), .fn F_law_v_form 3), (("_law_v_compared" : PySem.Str), .fn F_law_v_compared 2), (("_law_v_is_real" : PySem.Str), .fn F_law_v_is_real 1), (("_law_v_great" : PySem.Str), .fn F_law_v_great 2), (("_law_v_drawn_real" : PySem.Str), .fn F_law_v_drawn_real 1), (("_law_v_odd" : PySem.Str), .fn F_law_v_odd 1), (("_law_draw" : PySem.Str), .fn F_law_draw 2), (("_law_start" : PySem.Str), .fn F_law_start 1), (("_law_pick" : PySem.Str), .fn F_law_pick 2), (("_law_same" : PySem.Str), .fn F_law_same 2), (("_law_bent" : PySem.Str), .fn F_law_bent 2)]
def fre : List PySem.Str := ["abs", "all", "bool", "int", "isinstance", "len", "list", "min", "range", "repr", "str", "sum", "tuple", "zip"]
def tabs : Tb := []
def sl : Sl := [none, none, none, none]
def mkQ (p : Nat × Nat × List PySem.Str) : DefQ := match R.prog.main.body[p.2.1]? with
  | some (.FunctionDef n a b _ _ _ sc _ _ _) => ⟨p.1, n, a.args, p.2.2, sc, b⟩
  | _ => ⟨0, "", [], [], ⟨.function, [], false, false, []⟩, []⟩
def qs : List DefQ := ns.map mkQ
theorem fs_ok : cFs top fre qs fs = true := by kernel_rfl
theorem top_ok : cTop top qs = true := by kernel_rfl
theorem kd_eq : kdOf tabs sl KTAB = KTAB := rfl
instance tab_ok : Tab fs := ⟨fun i f e => by
  unfold fs
  rw [List.getElem?_append_left (List.getElem?_eq_some_iff.mp e).1]
  exact e⟩
instance ktab_ok : KTab KTAB := ⟨fun i t e => e⟩
theorem h_law : fs[F_law]? = some (c_law F_law_start F_law_v_drawn_real F_law_draw F_law_bent F_law_v_odd F_law_same F_law_v_is_real F_is_real) := rfl
end VlLaw
set_option maxRecDepth 100000
set_option maxHeartbeats 0
namespace VlLaw
open PySem PySem.Spec PyProof.Rows L2 Vl
def names0 : List PySem.Str := ["is_integer", "WORDS", "is_real", "fits_double", "_law_v_float", "_law_v_at", "_law_v_form", "_law_v_compared", "_law_v_is_real", "_law_v_great", "_law_v_drawn_real", "_law_v_odd", "_law_draw", "_law_start", "_law_pick", "_law_same", "_law_bent"]
def names : List PySem.Str := names0
def lawQ : DefQ := mkQ (ns.getLastD (0, 0, []))
def lawX : Arg := lawQ.args.headD default
abbrev hk : PySem.W.Hook := hkOf 4 top fre tabs sl qs
def ob (s : PySem.W.SharedT) : He.AlX := obOf 4 top fre tabs sl qs s
theorem ob_eq (s : PySem.W.SharedT) : ob s = hk.obs s.abs := He.obsX_eq (HandSHeadRun.getT_eq s)
theorem run (w : World) : HandSHeadRun.RunEq R (PySem.W.view R.prog [20]) hk ob 20000 names w := by
  intro os
  kernel_rfl
theorem law_in : lawQ ∈ qs := List.mem_map.mpr ⟨_, List.mem_of_getLast? (by rfl), rfl⟩
end VlLaw
open PySem PySem.W PySem.Calls PyProof.Rows Vl
theorem VlLaw.close (main : ∀ ns : List Int, ns.length ≤ 63 → ∃ h', Vl.call KTAB VlLaw.fs 60 VlLaw.F_law [.frz (ns.map W.int)] [] = .ok (.bl true) h') : PySem.Challenge.rw_viewlease_k02_reals_looked_at.Holds := by
  w_on; o_law
  refine HandSHeadRun.head_any (r := OpenLaw.row PySem.Challenge.rw_viewlease_k02_reals_looked_at) (q := view (OpenLaw.row PySem.Challenge.rw_viewlease_k02_reals_looked_at).prog [20]) (H := VlLaw.hk) (ob := VlLaw.ob) (M := 20000) (loose := VlLaw.names) (d := HandSHeadRun.topDef (OpenLaw.row PySem.Challenge.rw_viewlease_k02_reals_looked_at).prog 20) (kwd := []) VlLaw.ob_eq
    (by kernel_rfl) (fun s => by kernel_rfl) VlLaw.run (by kernel_rfl) (by kernel_rfl) (by kernel_rfl) (by rfl) (by first | assumption | decide +kernel) (by decide +kernel) ⟨rfl, rfl, rfl, rfl, rfl, by decide +kernel⟩ ?hw ?hc
  case hw => w_witness2
  case hc =>
    refine Vl.walk_by (l := PySem.Challenge.rw_viewlease_k02_reals_looked_at) (n := 63) (D := 60) (x := VlLaw.lawX) (q := VlLaw.lawQ) (kd0 := KTAB) rfl (by decide) (by kernel_rfl) ⟨rfl, by decide, by decide⟩ VlLaw.fs_ok VlLaw.top_ok VlLaw.law_in (by kernel_rfl) (by kernel_rfl) ?_
    rw [VlLaw.kd_eq]
    exact main
set_option maxRecDepth 100000
set_option maxHeartbeats 4000000
namespace Vl
theorem ib (x : Int) (h : x.natAbs < 2 ^ 70) : ibits x ≤ 70 := ibits_le h
theorem set_get {h : L} {r : Nat} {o o' : O} (e : h[r]? = some o) : (h.set r o')[r]? = some o' := by
  rw [List.getElem?_set_self (List.getElem?_eq_some_iff.mp e).1]
theorem set_ne {h : L} {r q : Nat} {o : O} (e : r ≠ q) : (h.set r o)[q]? = h[q]? := List.getElem?_set_ne e
theorem app_get {h : L} {r : Nat} {o : O} {t : L} (e : h[r]? = some o) : (h ++ t)[r]? = some o := by
  rw [List.getElem?_append_left (List.getElem?_eq_some_iff.mp e).1]
  exact e
theorem app_end {h : L} {o : O} : (h ++ [o])[h.length]? = some o := by simp
/-- the four parts of a stream -/
theorem strm_sub {kd : Kd} {h : L} {r : Nat} {w a b c : W} (e : h[r]? = some (.lst [w, a, b, c])) :
    subv kd (.ref r) (.int 0) h = .ok w h ∧ subv kd (.ref r) (.int 1) h = .ok a h ∧ subv kd (.ref r) (.int 2) h = .ok b h ∧ subv kd (.ref r) (.int 3) h = .ok c h := by
  refine ⟨?_, ?_, ?_, ?_⟩ <;> simp [subv, e, atI, ixN]
theorem strm_put {h : L} {r : Nat} {w a b c v : W} (e : h[r]? = some (.lst [w, a, b, c])) :
    putv (.ref r) (.int 1) v h = .ok () (h.set r (.lst [w, v, b, c])) ∧ putv (.ref r) (.int 2) v h = .ok () (h.set r (.lst [w, a, v, c])) ∧ putv (.ref r) (.int 3) v h = .ok () (h.set r (.lst [w, a, b, v])) := by
  refine ⟨?_, ?_, ?_⟩ <;> simp [putv, e, ixN]
theorem mul_ok {a b : Int} {h : L} (ha : a.natAbs < 2 ^ 70) (hb : b.natAbs < 2 ^ 70) : binop .mul (.int a) (.int b) h = .ok (.int (a * b)) h := by
  have h1 := ib a ha
  have h2 := ib b hb
  show (if ibits a + ibits b ≤ 134217728 then _ else _) = _
  rw [if_pos (by omega)]
theorem mod_ok {a b : Int} {h : L} (hb : 0 < b) : binop .mod (.int a) (.int b) h = .ok (.int (a % b)) h := by
  show (if 0 < b then _ else _) = _
  rw [if_pos hb]
theorem pow_ok {a : Int} {b : Nat} {h : L} (ha : a.natAbs < 2 ^ 64) (hb : b ≤ 1000000) : binop .pow (.int a) (.int (b : Int)) h = .ok (.int (a ^ b)) h := by
  show (if 0 ≤ (b : Int) ∧ (b : Int) ≤ 1000000 ∧ a.natAbs < 2 ^ 64 then _ else _) = _
  rw [if_pos ⟨by omega, by omega, ha⟩]
  simp
theorem fdiv_ok {a b : Int} {h : L} (hb : 0 < b) (hl : b.natAbs.log2 < 9000) : binop .fdiv (.int a) (.int b) h = .ok (.int (a / b)) h := by
  show (if 0 < b ∧ b.natAbs.log2 < 9000 then _ else _) = _
  rw [if_pos ⟨hb, hl⟩]
/-- what is drawn when the digits are used up -/
def mixed (b c m : Int) : Int := (((c + 104729 * b + 17) ^ 5 % 2147483629) * 48271 + 40503 * b * b + 13) ^ 3 % 1000000007 % m
def s_tail : Ss := match c_law_draw.body with
  | .cons _ (.cons _ ss) => ss
  | _ => .nil
/-- the end of a draw: the digits, or the mix -/
theorem draw_end {C : Orc} {kd : Kd} {h : L} {r q : Nat} {sc : List Int} {a b c m : Int} (h1 : h[r]? = some (.lst [.ref q, .int a, .int b, .int c])) (h2 : h[q]? = some (.lst (sc.map W.int))) (hb : 0 ≤ b) (hb2 : b ≤ 1048577) (hc : 0 ≤ c) (hc2 : c < 2147483647) (hr : r ≠ q) (hm : 0 < m) (hml : m.natAbs.log2 < 9000) :
    ∃ v h', fin (exs C kd s_tail [some (.ref r), some (.int m), none, none] h) = .ok (.int v) h' ∧ 0 ≤ v ∧ v < m ∧ Grow r q h h' ∧ ∃ a', h'[r]? = some (.lst [.ref q, .int a', .int b, .int c]) ∧ h'[q]? = some (.lst (sc.map W.int)) := by
  obtain ⟨s0, s1, s2, s3⟩ := strm_sub (kd := kd) h1
  obtain ⟨p1, p2, p3⟩ := strm_put (v := .int (a / m)) h1
  by_cases ha : 0 < a
  · refine ⟨a % m, h.set r (.lst [.ref q, .int (a / m), .int b, .int c]), ?_, Int.emod_nonneg _ (by omega), Int.emod_lt_of_pos _ hm, Grow.set, a / m, set_get h1, by rw [set_ne hr]; exact h2⟩
    simp only [s_tail, c_law_draw, fin, exs, ex, ev, evs, sto, gets, sets, Vl.R.bind, Vl.R.calm, s1, cmpop, truth, bfn, bInt, mod_ok hm, fdiv_ok hm hml, p1]
    simp [ha, exs, ex, ev, evs, sto, gets, sets, Vl.R.bind, Vl.R.calm, s1, cmpop, truth, bfn, bInt, mod_ok hm, fdiv_ok hm hml, p1]
  · have hx : (c + 104729 * b + 17).natAbs < 2 ^ 64 := by omega
    have hmx0 : 0 ≤ (c + 104729 * b + 17) ^ 5 % 2147483629 := Int.emod_nonneg _ (by decide)
    have hmx1 : (c + 104729 * b + 17) ^ 5 % 2147483629 < 2147483629 := Int.emod_lt_of_pos _ (by decide)
    have hbb : 0 ≤ b * b := Int.mul_nonneg hb hb
    have hbb2 : b * b ≤ 1048577 * 1048577 := Int.mul_le_mul hb2 hb2 hb (by decide)
    have e40 : 40503 * b * b = 40503 * (b * b) := Int.mul_assoc _ _ _
    have hy : (((c + 104729 * b + 17) ^ 5 % 2147483629) * 48271 + 40503 * b * b + 13).natAbs < 2 ^ 64 := by
      rw [e40]
      omega
    refine ⟨mixed b c m, h, ?_, Int.emod_nonneg _ (by omega), Int.emod_lt_of_pos _ hm, Grow.refl, a, h1, h2⟩
    have q1 : binop .mul (.int 104729) (.int b) h = .ok (.int (104729 * b)) h := mul_ok (by decide) (by omega)
    have q2 : binop .pow (.int (c + 104729 * b + 17)) (.int 5) h = .ok (.int ((c + 104729 * b + 17) ^ 5)) h := pow_ok (b := 5) hx (by decide)
    have q3 : binop .mul (.int ((c + 104729 * b + 17) ^ 5 % 2147483629)) (.int 48271) h = .ok (.int (((c + 104729 * b + 17) ^ 5 % 2147483629) * 48271)) h := mul_ok (by omega) (by decide)
    have q4 : binop .mul (.int 40503) (.int b) h = .ok (.int (40503 * b)) h := mul_ok (by decide) (by omega)
    have q5 : binop .mul (.int (40503 * b)) (.int b) h = .ok (.int (40503 * b * b)) h := mul_ok (by omega) (by omega)
    have q6 : binop .pow (.int (((c + 104729 * b + 17) ^ 5 % 2147483629) * 48271 + 40503 * b * b + 13)) (.int 3) h = .ok (.int ((((c + 104729 * b + 17) ^ 5 % 2147483629) * 48271 + 40503 * b * b + 13) ^ 3)) h := pow_ok (b := 3) hy (by decide)
    have add : ∀ x y, binop .add (.int x) (.int y) h = .ok (.int (x + y)) h := fun _ _ => rfl
    have md : ∀ x (y : Int), 0 < y → binop .mod (.int x) (.int y) h = .ok (.int (x % y)) h := fun x y hy => mod_ok hy
    have c1 := md ((c + 104729 * b + 17) ^ 5) 2147483629 (by decide)
    have c2 := md ((((c + 104729 * b + 17) ^ 5 % 2147483629) * 48271 + 40503 * b * b + 13) ^ 3) 1000000007 (by decide)
    simp only [s_tail, c_law_draw, fin, exs, ex, ev, evs, sto, gets, sets, Vl.R.bind, Vl.R.calm, s1, s2, s3, cmpop, truth, ha, decide_false, q1, add, q2, c1, q3, q4, q5, q6, c2, mod_ok hm, mixed]
end Vl
set_option maxRecDepth 100000
set_option maxHeartbeats 4000000
namespace Vl
theorem pop_ok {h : L} {q : Nat} {x : W} {xs : List W} (e : h[q]? = some (.lst (x :: xs))) : mPop q 0 h = .ok x (h.set q (.lst xs)) := by
  simp [mPop, e, seqI, ixN]
def s_if : S := match c_law_draw.body with
  | .cons _ (.cons s _) => s
  | _ => .pass
/-- the refill of a draw -/
theorem draw_fill {C : Orc} {kd : Kd} {h : L} {r q : Nat} {sc : List Int} {a b c m : Int} (h1 : h[r]? = some (.lst [.ref q, .int a, .int b, .int c])) (h2 : h[q]? = some (.lst (sc.map W.int))) (hc : 0 ≤ c) (hc2 : c < 2147483647) (hr : r ≠ q) :
    ∃ (h' : L) (sc' : List Int) (a' c' : Int), ex C kd s_if [some (.ref r), some (.int m), none, none] h = .ok (.nx [some (.ref r), some (.int m), none, none]) h' ∧ 0 ≤ c' ∧ c' < 2147483647 ∧ Grow r q h h' ∧ h'[r]? = some (.lst [.ref q, .int a', .int b, .int c']) ∧ h'[q]? = some (.lst (sc'.map W.int)) := by
  obtain ⟨s0, s1, s2, s3⟩ := strm_sub (kd := kd) h1
  by_cases ha : a = 0
  · subst ha
    have k1 : (h ++ [O.lst []])[r]? = some (.lst [.ref q, .int 0, .int b, .int c]) := app_get h1
    have k2 : (h ++ [O.lst []])[q]? = some (.lst (sc.map W.int)) := app_get h2
    have k3 : (h ++ [O.lst []])[h.length]? = some (.lst []) := app_end
    have ee : eqh (h ++ [O.lst []]) (.ref q) (.ref h.length) = some (sc.map W.int).isEmpty := by
      simp only [eqh, k2, k3, isDs_ints, eqvs_nil]
      simp [isDs]
    obtain ⟨t0, t1, t2, t3⟩ := strm_sub (kd := kd) k1
    cases sc with
    | nil =>
      refine ⟨h ++ [O.lst []], [], 0, c, ?_, hc, hc2, Grow.app, k1, k2⟩
      have ee : eqh (h ++ [O.lst []]) (.ref q) (.ref h.length) = some true := ee
      simp [s_if, c_law_draw, exs, ex, ev, evs, gets, s1, s0, cmpop, eqh_int, ofB, truth, alloc, ee]
    | cons x sc =>
      have ee : eqh (h ++ [O.lst []]) (.ref q) (.ref h.length) = some false := ee
      have k2' : (h ++ [O.lst []])[q]? = some (.lst (.int x :: sc.map W.int)) := k2
      have pp := pop_ok k2'
      have l1 : ((h ++ [O.lst []]).set q (.lst (sc.map W.int)))[r]? = some (.lst [.ref q, .int 0, .int b, .int c]) := by rw [set_ne (Ne.symm hr)]; exact k1
      obtain ⟨u0, u1, u2, u3⟩ := strm_sub (kd := kd) l1
      have p1 := (strm_put (v := .int x) l1).1
      have m1 : (((h ++ [O.lst []]).set q (.lst (sc.map W.int))).set r (.lst [.ref q, .int x, .int b, .int c]))[r]? = some (.lst [.ref q, .int x, .int b, .int c]) := set_get l1
      have m2 : (((h ++ [O.lst []]).set q (.lst (sc.map W.int))).set r (.lst [.ref q, .int x, .int b, .int c]))[q]? = some (.lst (sc.map W.int)) := by rw [set_ne hr]; exact set_get k2
      have gm : Grow r q h (((h ++ [O.lst []]).set q (.lst (sc.map W.int))).set r (.lst [.ref q, .int x, .int b, .int c])) := Grow.app.trans (Grow.set'.trans Grow.set)
      generalize hH : ((h ++ [O.lst []]).set q (.lst (sc.map W.int))).set r (.lst [.ref q, .int x, .int b, .int c]) = H at *
      have isl : isLst (h ++ [O.lst []]) q = true := by unfold isLst; rw [k2]
      obtain ⟨v0, v1, v2, v3⟩ := strm_sub (kd := kd) m1
      by_cases hx : x < 1000000000000000000
      · have p3 := (strm_put (v := .int ((c * 31 + x + 7) % 2147483647)) m1).2.2
        have n1 := set_get (o' := .lst [.ref q, .int x, .int b, .int ((c * 31 + x + 7) % 2147483647)]) m1
        have p4 := (strm_put (v := .int 0) n1).1
        refine ⟨_, sc, 0, (c * 31 + x + 7) % 2147483647, ?_, Int.emod_nonneg _ (by decide), Int.emod_lt_of_pos _ (by decide), gm.trans (Grow.set.trans Grow.set), set_get n1, by rw [set_ne hr, set_ne hr]; exact m2⟩
        have q1 : binop .mul (.int c) (.int 31) H = .ok (.int (c * 31)) H := mul_ok (by omega) (by decide)
        have q2 : binop .pow (.int 10) (.int 18) H = .ok (.int (10 ^ 18)) H := pow_ok (b := 18) (by decide) (by decide)
        have add : ∀ x y, binop .add (.int x) (.int y) H = .ok (.int (x + y)) H := fun _ _ => rfl
        have c1 : binop .mod (.int (c * 31 + x + 7)) (.int 2147483647) H = .ok (.int ((c * 31 + x + 7) % 2147483647)) H := mod_ok (by decide)
        simp [s_if, c_law_draw, exs, ex, ev, evs, sto, gets, s1, s0, cmpop, eqh_int, ofB, truth, alloc, ee, t0, mtOk, isl, bmt, pp, p1, hH, v1, v3, q2, hx, q1, add, c1, p3, p4]
      · refine ⟨_, sc, x, c, ?_, hc, hc2, gm, m1, m2⟩
        have q2 : binop .pow (.int 10) (.int 18) H = .ok (.int (10 ^ 18)) H := pow_ok (b := 18) (by decide) (by decide)
        simp [s_if, c_law_draw, exs, ex, ev, evs, sto, gets, s1, s0, cmpop, eqh_int, ofB, truth, alloc, ee, t0, mtOk, isl, bmt, pp, p1, hH, v1, q2, hx]
  · refine ⟨h, sc, a, c, ?_, hc, hc2, Grow.refl, h1, h2⟩
    have : (a == 0) = false := by simp [ha]
    simp [s_if, c_law_draw, exs, ex, ev, evs, gets, s1, cmpop, eqh_int, ofB, truth, this]
/-- A DRAW -/
theorem draw_ok {kd : Kd} {P : List Fn} {d g : Nat} (hP : P[g]? = some c_law_draw) {h : L} {r q n : Nat} (S : Strm h r q n) {m : Int} (hn : n ≤ 1000000) (hm : 0 < m) (hml : m.natAbs.log2 < 9000) :
    Ok (call kd P (d + 1) g [.ref r, .int m] h) fun v h' => ∃ x : Int, v = .int x ∧ 0 ≤ x ∧ x < m ∧ Strm h' r q (n + 1) ∧ Grow r q h h' := by
  obtain ⟨sc, a, b, c, h1, h2, hb, hbn, hc, hc2, hr⟩ := S.ex
  obtain ⟨s0, s1, s2, s3⟩ := strm_sub (kd := kd) h1
  have p2 := (strm_put (v := .int (b + 1)) h1).2.1
  have l1 : (h.set r (.lst [.ref q, .int a, .int (b + 1), .int c]))[r]? = some (.lst [.ref q, .int a, .int (b + 1), .int c]) := set_get h1
  have l2 : (h.set r (.lst [.ref q, .int a, .int (b + 1), .int c]))[q]? = some (.lst (sc.map W.int)) := by rw [set_ne hr]; exact h2
  obtain ⟨h', sc', a', c', e1, hc', hc2', g1, m1, m2⟩ := draw_fill (C := call kd P d) (kd := kd) (m := m) l1 l2 hc hc2 hr
  obtain ⟨v, h'', e2, v0, v1, g2, a'', n1, n2⟩ := draw_end (C := call kd P d) (kd := kd) (m := m) m1 m2 (by omega) (by omega) hc' hc2' hr hm hml
  refine ⟨.int v, h'', ?_, v, rfl, v0, v1, ⟨sc', a'', b + 1, c', n1, n2, by omega, by omega, hc', hc2', hr⟩, Grow.set.trans (g1.trans g2)⟩
  rw [call_in hP rfl]
  have add : binop .add (.int b) (.int 1) h = .ok (.int (b + 1)) h := rfl
  have eb : c_law_draw.body = .cons (.asg (.sb (.var 0) (.cst (.int 2))) (.bin .add (.sub (.var 0) (.cst (.int 2))) (.cst (.int 1)))) (.cons s_if s_tail) := rfl
  rw [eb]
  show fin (exs (call kd P d) kd _ [some (.ref r), some (.int m), none, none] h) = _
  simp only [exs, ex, ev, sto, gets, Vl.R.bind, Vl.R.calm, s2, add, p2, e1]
  exact e2
end Vl
set_option maxRecDepth 100000
set_option maxHeartbeats 4000000
namespace Vl
mutual
theorem beq_refl : ∀ w : W, W.beq w w = true
  | .non => rfl
  | .bl b => by simp [W.beq]
  | .int b => by simp [W.beq]
  | .str b => by simp [W.beq]
  | .tup xs => beqs_refl xs
  | .ref b => by simp [W.beq]
  | .ty b => by simp [W.beq]
  | .cls b s => by simp [W.beq]
  | .kd b => by simp [W.beq]
  | .frz xs => beqs_refl xs
theorem beqs_refl : ∀ w : List W, W.beqs w w = true
  | [] => rfl
  | x :: xs => by
    show (W.beq x x && W.beqs xs xs) = true
    rw [beq_refl x, beqs_refl xs]
    rfl
end
theorem log2_small {m : Nat} (h : m ≤ LINE) : m.log2 < 9000 := by
  by_cases hm : m = 0
  · subst hm; decide
  · refine (Nat.log2_lt hm).mpr ?_
    have : m < 2 ^ 30 := by unfold LINE at h; omega
    exact Nat.lt_of_lt_of_le this (Nat.pow_le_pow_right (by decide) (show 30 ≤ 9000 by omega))
/-- turns that leave the heap alone -/
theorem turns_pure {held : List (Nat × List W)} {f : W → L → R (Option W)} {h : L} (g : W → W) (hh : heldB h held = true) : ∀ (items acc : List W), (∀ x ∈ items, f x h = .ok (some (g x)) h) → acc.length + items.length ≤ LINE →
    turns held f items h acc = .ok (acc ++ items.map g) h
  | [], acc, _, _ => by simp [turns, hh]
  | x :: xs, acc, hf, hl => by
    have h1 := hf x List.mem_cons_self
    have hl' : acc.length < LINE := by simp at hl; omega
    simp only [turns, hh, if_true, h1, R.bind_ok, R.calm_ok, hl']
    rw [turns_pure g hh xs (acc ++ [g x]) (fun y hy => hf y (List.mem_cons_of_mem _ hy)) (by simp at hl ⊢; omega)]
    simp
/-! ### picks -/
section
variable {kd : Kd} {P : List Fn} {d g g0 : Nat} {h : L} {r q n : Nat}
theorem pick_str (hP : P[g]? = some (c_law_pick g0)) (hD : P[g0]? = some c_law_draw) (S : Strm h r q n) (hn : n ≤ 1000000) {s : List Nat} (h0 : s ≠ []) (hl : s.length ≤ LINE) :
    Ok (call kd P (d + 2) g [.ref r, .str s] h) fun v h' => (∃ c ∈ s, v = .str [c]) ∧ Strm h' r q (n + 1) ∧ Grow r q h h' := by
  have hs : 0 < s.length := List.length_pos_iff.mpr h0
  obtain ⟨v, h', e, x, rfl, x0, x1, S', G'⟩ := draw_ok (kd := kd) (d := d) hD S (m := (s.length : Int)) hn (by omega) (by simpa using log2_small hl)
  obtain ⟨k, rfl⟩ := Int.eq_ofNat_of_zero_le x0
  have hx : k < s.length := by omega
  refine ⟨.str [s[k]], h', ?_, ⟨_, List.getElem_mem hx, rfl⟩, S', G'⟩
  rw [call_in hP rfl]
  have hi : atI s (k : Int) = some s[k] := by
    simp only [atI, ixN_lt hx, Option.bind_some]
    exact List.getElem?_eq_getElem hx
  show fin (exs (call kd P (d + 1)) kd _ [some (.ref r), some (.str s)] h) = _
  simp [c_law_pick, fin, exs, ex, ev, evs, gets, bfn, bLen, hl, e, subv, hi]
theorem pick_lst (hP : P[g]? = some (c_law_pick g0)) (hD : P[g0]? = some c_law_draw) (S : Strm h r q n) (hn : n ≤ 1000000) {p : Nat} {xs : List W} (e : h[p]? = some (.lst xs)) (h1 : p ≠ r) (h2 : p ≠ q) (h0 : xs ≠ []) (hl : xs.length ≤ LINE) :
    Ok (call kd P (d + 2) g [.ref r, .ref p] h) fun v h' => v ∈ xs ∧ Strm h' r q (n + 1) ∧ Grow r q h h' := by
  have hs : 0 < xs.length := List.length_pos_iff.mpr h0
  obtain ⟨v, h', e1, x, rfl, x0, x1, S', G'⟩ := draw_ok (kd := kd) (d := d) hD S (m := (xs.length : Int)) hn (by omega) (by simpa using log2_small hl)
  obtain ⟨k, rfl⟩ := Int.eq_ofNat_of_zero_le x0
  have hx : k < xs.length := by omega
  refine ⟨xs[k], h', ?_, List.getElem_mem hx, S', G'⟩
  rw [call_in hP rfl]
  have hi : subv kd (.ref p) (.int (k : Int)) h' = .ok xs[k] h' := by
    exact sub_lst (G'.at e h1 h2) _ (List.getElem?_eq_getElem hx)
  show fin (exs (call kd P (d + 1)) kd _ [some (.ref r), some (.ref p)] h) = _
  simp [c_law_pick, fin, exs, ex, ev, evs, gets, bfn, bLen, items, e, e1, hi]
theorem pick_tup (hP : P[g]? = some (c_law_pick g0)) (hD : P[g0]? = some c_law_draw) (S : Strm h r q n) (hn : n ≤ 1000000) {xs : List W} (h0 : xs ≠ []) (hl : xs.length ≤ LINE) :
    Ok (call kd P (d + 2) g [.ref r, .tup xs] h) fun v h' => v ∈ xs ∧ Strm h' r q (n + 1) ∧ Grow r q h h' := by
  have hs : 0 < xs.length := List.length_pos_iff.mpr h0
  obtain ⟨v, h', e1, x, rfl, x0, x1, S', G'⟩ := draw_ok (kd := kd) (d := d) hD S (m := (xs.length : Int)) hn (by omega) (by simpa using log2_small hl)
  obtain ⟨k, rfl⟩ := Int.eq_ofNat_of_zero_le x0
  have hx : k < xs.length := by omega
  refine ⟨xs[k], h', ?_, List.getElem_mem hx, S', G'⟩
  rw [call_in hP rfl]
  have hi : subv kd (.tup xs) (.int (k : Int)) h' = .ok xs[k] h' := by
    exact sub_tup _ (List.getElem?_eq_getElem hx)
  show fin (exs (call kd P (d + 1)) kd _ [some (.ref r), some (.tup xs)] h) = _
  simp [c_law_pick, fin, exs, ex, ev, evs, gets, bfn, bLen, items, e1, hi]
/-- the start of a law -/
theorem start_ok (hP : P[g]? = some c_law_start) (sc : List Int) : call kd P (d + 1) g [.frz (sc.map W.int)] h = .ok (.ref (h.length + 1)) (h ++ [.lst (sc.map W.int), .lst [.ref h.length, .int 0, .int 0, .int 0]]) ∧
    Strm (h ++ [.lst (sc.map W.int), .lst [.ref h.length, .int 0, .int 0, .int 0]]) (h.length + 1) h.length 0 := by
  constructor
  · rw [call_in hP rfl]
    show fin (exs (call kd P d) kd _ [some (.frz (sc.map W.int))] h) = _
    simp [c_law_start, fin, exs, ex, ev, evs, gets, bfn, items, alloc]
  · exact ⟨sc, 0, 0, 0, by simp [List.getElem?_append], by simp [List.getElem?_append], by omega, by omega, by omega, by omega, by omega⟩
end
/-! ### what is the same -/
def leafW : W → Bool
  | .non => true | .bl _ => true | .int _ => true | .str _ => true
  | _ => false
mutual
def SameW : Nat → L → W → W → Prop
  | 0, _, _, _ => False
  | n + 1, h, x, y => (leafW x = true ∧ isD 60 x = true ∧ x = y) ∨ (∃ xs ys, x = .tup xs ∧ y = .tup ys ∧ xs.length ≤ LINE ∧ SameL n h xs ys) ∨ (∃ a b xs ys, x = .ref a ∧ y = .ref b ∧ h[a]? = some (.lst xs) ∧ h[b]? = some (.lst ys) ∧ xs.length ≤ LINE ∧ SameL n h xs ys)
def SameL : Nat → L → List W → List W → Prop
  | _, _, [], [] => True
  | n, h, x :: xs, y :: ys => SameW n h x y ∧ SameL n h xs ys
  | _, _, _, _ => False
end
end Vl
set_option maxRecDepth 100000
set_option maxHeartbeats 4000000
namespace Vl
theorem sameL_zip : ∀ {n : Nat} {h : L} {xs ys : List W}, SameL n h xs ys → xs.length = ys.length ∧ ∀ z ∈ zips xs ys, ∃ a b, z = .tup [a, b] ∧ SameW n h a b
  | _, _, [], [], _ => ⟨rfl, fun z hz => by cases hz⟩
  | n, h, x :: xs, y :: ys, s => by
    have s : SameW n h x y ∧ SameL n h xs ys := by simpa only [SameL] using s
    obtain ⟨l, k⟩ := sameL_zip s.2
    refine ⟨by simp [l], fun z hz => ?_⟩
    have hz : z ∈ .tup [x, y] :: zips xs ys := hz
    rcases List.mem_cons.mp hz with e | e
    · exact ⟨x, y, e, s.1⟩
    · exact k z e
  | _, _, [], _ :: _, s => by simp only [SameL] at s
  | _, _, _ :: _, [], s => by simp only [SameL] at s
theorem zips_len : ∀ (xs ys : List W), xs.length = ys.length → (zips xs ys).length = xs.length
  | [], [], _ => rfl
  | x :: xs, y :: ys, h => by
    show (zips xs ys).length + 1 = xs.length + 1
    rw [zips_len xs ys (by simpa using h)]
  | [], _ :: _, h => by cases h
  | _ :: _, [], h => by cases h
theorem bools_true : ∀ (zs : List W), boolsW (zs.map fun _ => W.bl true) = some (zs.map fun _ => true)
  | [] => rfl
  | z :: zs => by
    show (boolsW (zs.map fun _ => W.bl true)).map (true :: ·) = _
    rw [bools_true zs]
    rfl
theorem all_true {α : Type} (zs : List α) : (zs.map fun _ => true).all id = true := by simp
/-- the walk of the pairs -/
theorem same_turns {kd : Kd} {P : List Fn} {d g : Nat} {n : Nat} {h : L} {xs ys : List W} {held : List (Nat × List W)} (hh : heldB h held = true) (s : SameL n h xs ys) (hl : xs.length ≤ LINE)
    (ih : ∀ a b, SameW n h a b → call kd P d g [a, b] h = .ok (.bl true) h) {a0 b0 : Option W} :
    turns held (cturn (call kd P d) kd [2, 3] (.tp (.cons (.nm 2) (.cons (.nm 3) .nil))) .nil (.call g (.cons (.var 2) (.cons (.var 3) .nil))) [a0, b0, none, none]) (zips xs ys) h [] = .ok ((zips xs ys).map fun _ => W.bl true) h := by
  obtain ⟨l, k⟩ := sameL_zip s
  rw [turns_pure (fun _ => W.bl true) hh (zips xs ys) [] (fun z hz => ?_) (by rw [zips_len xs ys l]; simpa using hl)]
  · simp
  · obtain ⟨a, b, rfl, sab⟩ := k z hz
    simp [cturn, wipes, sto, stos, sets, evt, ev, evs, gets, ih a b sab]
theorem eqh_non (h : L) : eqh h .non .non = some true := rfl
theorem same_ok {kd : Kd} {P : List Fn} {g : Nat} (hP : P[g]? = some (c_law_same g)) (n : Nat) : ∀ {h : L} {x y : W}, SameW n h x y → ∀ d, n ≤ d → call kd P d g [x, y] h = .ok (.bl true) h := by
  induction n with
  | zero =>
    intro h x y s
    simp only [SameW] at s
  | succ n ih0 =>
    intro h x y s d hd
    cases d with
    | zero => omega
    | succ d =>
    have ih : ∀ a b, SameW n h a b → call kd P d g [a, b] h = .ok (.bl true) h := fun a b sab => ih0 sab d (by omega)
    simp only [SameW] at s
    rw [call_in hP rfl]
    show fin (exs (call kd P d) kd _ [some x, some y, none, none] h) = _
    rcases s with ⟨h1, h2, rfl⟩ | ⟨xs, ys, rfl, rfl, hl, s⟩ | ⟨a, b, xs, ys, rfl, rfl, ea, eb, hl, s⟩
    · cases x with
      | non => simp [c_law_same, fin, exs, ex, ev, evs, gets, bfn, bIsi, isTs, isT, tyN, tysOf, TN.is, ofB, truth, cmpop, eqh_non, isv]
      | bl b => simp [c_law_same, fin, exs, ex, ev, evs, gets, bfn, bIsi, isTs, isT, tyN, tysOf, TN.is, ofB, truth, cmpop, eqh_bl]
      | int i => simp [c_law_same, fin, exs, ex, ev, evs, gets, bfn, bIsi, isTs, isT, tyN, tysOf, TN.is, ofB, truth, cmpop, eqh_int, eqh_bl]
      | str z => simp [c_law_same, fin, exs, ex, ev, evs, gets, bfn, bIsi, isTs, isT, tyN, tysOf, TN.is, ofB, truth, cmpop, eqh_str, isv]
      | _ => cases h1
    · obtain ⟨l, _⟩ := sameL_zip s
      have ht := same_turns (held := []) (a0 := some (.tup xs)) (b0 := some (.tup ys)) rfl s hl ih
      simp [c_law_same, fin, exs, ex, ev, evs, gets, bfn, bIsi, isTs, isT, tyN, tysOf, TN.is, ofB, truth, cmpop, eqh_bl, eqh_int, bLen, items, l, evc_eq, evi, zipS, ht, cfn, bools_true]
    · obtain ⟨l, _⟩ := sameL_zip s
      have hh : heldB h [(a, xs), (b, ys)] = true := by simp [heldB, ea, eb, beqs_refl]
      have ht := same_turns (a0 := some (.ref a)) (b0 := some (.ref b)) hh s hl ih
      simp [c_law_same, fin, exs, ex, ev, evs, gets, bfn, bIsi, isTs, isT, tyN, tysOf, TN.is, ofB, truth, cmpop, eqh_bl, eqh_int, bLen, items, ea, eb, l, evc_eq, evi, zipS, ht, cfn, bools_true]
end Vl
set_option maxRecDepth 100000
set_option maxHeartbeats 4000000
namespace Vl
/-! ### ints that are Nats -/
section
variable {h : L}
theorem shl_nat {k : Nat} (hk : k ≤ 100000) : binop .shl (.int 1) (.int (k : Int)) h = .ok (.int ((2 ^ k : Nat) : Int)) h := by
  show (if 0 ≤ (k : Int) ∧ (ibits 1 : Int) + k ≤ 134217728 then _ else _) = _
  have : ibits 1 = 1 := by decide
  rw [if_pos ⟨by omega, by rw [this]; omega⟩]
  simp
theorem shl_int {a : Int} {k : Nat} (ha : a.natAbs < 2 ^ 200) (hk : k ≤ 100000) : binop .shl (.int a) (.int (k : Int)) h = .ok (.int (a * 2 ^ k)) h := by
  have := ibits_le ha
  show (if 0 ≤ (k : Int) ∧ (ibits a : Int) + k ≤ 134217728 then _ else _) = _
  rw [if_pos ⟨by omega, by omega⟩]
  simp
theorem shr_nat {n k : Nat} : binop .shr (.int (n : Int)) (.int (k : Int)) h = .ok (.int ((n / 2 ^ k : Nat) : Int)) h := by
  show (if 0 ≤ (k : Int) then R.ok (W.int ((n : Int) / 2 ^ (k : Int).toNat)) h else R.stuck) = _
  rw [if_pos (by omega)]
  simp
theorem shr_int {n : Int} {k : Nat} : binop .shr (.int n) (.int (k : Int)) h = .ok (.int (n / 2 ^ k)) h := by
  show (if 0 ≤ (k : Int) then R.ok (W.int (n / 2 ^ (k : Int).toNat)) h else R.stuck) = _
  rw [if_pos (by omega)]
  simp
theorem band_nat {a b : Nat} : binop .band (.int (a : Int)) (.int (b : Int)) h = .ok (.int ((a &&& b : Nat) : Int)) h := by
  show R.ok (W.int (band a b)) h = _
  unfold band
  simp
theorem mask_nat {n k : Nat} : binop .band (.int (n : Int)) (.int (((2 ^ k : Nat) : Int) - 1)) h = .ok (.int ((n % 2 ^ k : Nat) : Int)) h := by
  have h1 : 1 ≤ 2 ^ k := Nat.one_le_two_pow
  have e : (((2 ^ k : Nat) : Int) - 1) = ((2 ^ k - 1 : Nat) : Int) := by omega
  rw [e, band_nat, Nat.and_two_pow_sub_one_eq_mod]
theorem add_int {a b : Int} : binop .add (.int a) (.int b) h = .ok (.int (a + b)) h := rfl
theorem sub_int {a b : Int} : binop .sub (.int a) (.int b) h = .ok (.int (a - b)) h := rfl
theorem and_low : ∀ (t a : Nat), ((2 * a + 1) * 2 ^ t) &&& ((2 * a + 1) * 2 ^ t - 1) = 2 * a * 2 ^ t
  | 0, a => by
    have h1 : (2 * a + 1) * 2 ^ 0 = 2 * a + 1 := by simp
    have h2 : 2 * a + 1 - 1 = 2 * a := by omega
    rw [h1, h2, Nat.pow_zero, Nat.mul_one]
    apply Nat.eq_of_testBit_eq
    intro i
    rw [Nat.testBit_and]
    cases i with
    | zero => simp
    | succ i =>
      have h3 : (2 * a + 1) / 2 = a := by omega
      have h4 : 2 * a / 2 = a := by omega
      rw [Nat.testBit_succ, Nat.testBit_succ, h3, h4, Bool.and_self]
  | t + 1, a => by
    have ih := and_low t a
    have h1 : (2 * a + 1) * 2 ^ (t + 1) = 2 * ((2 * a + 1) * 2 ^ t) := by rw [Nat.pow_succ]; simp only [Nat.mul_comm, Nat.mul_left_comm]
    have h2 : 2 * a * 2 ^ (t + 1) = 2 * (2 * a * 2 ^ t) := by rw [Nat.pow_succ]; simp only [Nat.mul_comm, Nat.mul_left_comm]
    rw [h1, h2, ← ih]
    have hpos : 1 ≤ (2 * a + 1) * 2 ^ t := Nat.mul_pos (by omega) Nat.one_le_two_pow
    generalize (2 * a + 1) * 2 ^ t = x at hpos
    apply Nat.eq_of_testBit_eq
    intro i
    rw [Nat.testBit_and]
    cases i with
    | zero => simp
    | succ i =>
      have h3 : 2 * x / 2 = x := by omega
      have h4 : (2 * x - 1) / 2 = x - 1 := by omega
      have h5 : 2 * (x &&& x - 1) / 2 = (x &&& x - 1) := by omega
      rw [Nat.testBit_succ, Nat.testBit_succ, Nat.testBit_succ, h3, h4, h5, Nat.testBit_and]
/-- every number is an odd one times a power of two -/
theorem odd_two : ∀ (m : Nat), 0 < m → ∃ a t, m = (2 * a + 1) * 2 ^ t := by
  intro m
  induction m using Nat.strongRecOn with
  | _ m ih =>
    intro hm
    by_cases h : m % 2 = 1
    · exact ⟨m / 2, 0, by simp; omega⟩
    · obtain ⟨a, t, e⟩ := ih (m / 2) (by omega) (by omega)
      refine ⟨a, t + 1, ?_⟩
      have h1 : (2 * a + 1) * 2 ^ (t + 1) = 2 * ((2 * a + 1) * 2 ^ t) := by rw [Nat.pow_succ]; simp only [Nat.mul_comm, Nat.mul_left_comm]
      rw [h1, ← e]
      omega
theorem ibits_pow (t : Nat) : ibits ((2 ^ t : Nat) : Int) = t + 1 := by
  have h1 : ((2 ^ t : Nat) : Int) ≠ 0 := by have := Nat.one_le_two_pow (n := t); omega
  unfold ibits
  rw [if_neg h1, Int.natAbs_natCast, Nat.log2_two_pow]
theorem band_low (a t : Nat) : band (((2 * a + 1) * 2 ^ t : Nat) : Int) (-(((2 * a + 1) * 2 ^ t : Nat) : Int)) = ((2 ^ t : Nat) : Int) ∧ band (-(((2 * a + 1) * 2 ^ t : Nat) : Int)) (((2 * a + 1) * 2 ^ t : Nat) : Int) = ((2 ^ t : Nat) : Int) := by
  have h0 := and_low t a
  have hpos : 1 ≤ (2 * a + 1) * 2 ^ t := Nat.mul_pos (by omega) Nat.one_le_two_pow
  have hs : (2 * a + 1) * 2 ^ t = 2 * a * 2 ^ t + 2 ^ t := by rw [Nat.add_mul, Nat.one_mul]
  have hc : ((2 * a + 1) * 2 ^ t - 1) &&& ((2 * a + 1) * 2 ^ t) = 2 * a * 2 ^ t := by rw [Nat.and_comm]; exact h0
  generalize hx : (2 * a + 1) * 2 ^ t = x at *
  have d1 : decide (0 ≤ (x : Int)) = true := by simp
  have d2 : decide (0 ≤ -(x : Int)) = false := by
    rw [decide_eq_false_iff_not]; omega
  have e1 : (-(-(x : Int)) - 1).toNat = x - 1 := by omega
  constructor
  · unfold band
    rw [d1, d2]
    show (x : Int) - (((x : Int).toNat &&& (-(-(x : Int)) - 1).toNat : Nat) : Int) = _
    rw [e1, Int.toNat_natCast, h0]
    omega
  · unfold band
    rw [d1, d2]
    show (x : Int) - (((x : Int).toNat &&& (-(-(x : Int)) - 1).toNat : Nat) : Int) = _
    rw [e1, Int.toNat_natCast, h0]
    omega
end
def sREAL : List Nat := [114, 101, 97, 108]
/-- as_real of an odd number times a power of two -/
theorem as_real_ok {kd : Kd} {P : List Fn} {d g : Nat} {h : L} (hP : P[g]? = some c_as_real) (a t : Nat) (s : Bool) (k : Int) :
    call kd P (d + 1) g [.int (if s then -(((2 * a + 1) * 2 ^ t : Nat) : Int) else (((2 * a + 1) * 2 ^ t : Nat) : Int)), .int k] h = .ok (.tup [.str sREAL, .int (if s then -((2 * a + 1 : Nat) : Int) else ((2 * a + 1 : Nat) : Int)), .int (k + t)]) h := by
  have hpos : 1 ≤ (2 * a + 1) * 2 ^ t := Nat.mul_pos (by omega) Nat.one_le_two_pow
  obtain ⟨b1, b2⟩ := band_low a t
  have ep : (2 : Int) ^ t = ((2 ^ t : Nat) : Int) := by simp
  have hp2 : 0 < 2 ^ t := Nat.two_pow_pos t
  rw [call_in hP rfl]
  cases s with
  | false =>
    have h1 : ((((2 * a + 1) * 2 ^ t : Nat) : Int) == 0) = false := by rw [beq_eq_false_iff_ne]; omega
    have bb : binop .band (.int (((2 * a + 1) * 2 ^ t : Nat) : Int)) (.int (-(((2 * a + 1) * 2 ^ t : Nat) : Int))) h = .ok (.int ((2 ^ t : Nat) : Int)) h := congrArg (fun z => R.ok (W.int z) h) b1
    have ss : binop .shr (.int (((2 * a + 1) * 2 ^ t : Nat) : Int)) (.int ((t : Nat) : Int)) h = .ok (.int ((2 * a + 1 : Nat) : Int)) h := by
      rw [shr_nat, Nat.mul_div_cancel _ hp2]
    have e1 : ((t + 1 : Nat) : Int) - 1 = (t : Int) := by omega
    show fin (exs (call kd P d) kd _ [some (.int (((2 * a + 1) * 2 ^ t : Nat) : Int)), some (.int k), none] h) = _
    generalize hx : (((2 * a + 1) * 2 ^ t : Nat) : Int) = x at *
    generalize hy : ((2 ^ t : Nat) : Int) = y at *
    have iy : ibits y = t + 1 := by rw [← hy]; exact ibits_pow t
    simp [c_as_real, fin, exs, ex, ev, evs, gets, sto, sets, cmpop, eqh_int, h1, ofB, truth, bb, mtOk, bmt, iy, sub_int, add_int, ss, sREAL]
  | true =>
    have h1 : ((-(((2 * a + 1) * 2 ^ t : Nat) : Int)) == 0) = false := by rw [beq_eq_false_iff_ne]; omega
    have bb : binop .band (.int (-(((2 * a + 1) * 2 ^ t : Nat) : Int))) (.int (((2 * a + 1) * 2 ^ t : Nat) : Int)) h = .ok (.int ((2 ^ t : Nat) : Int)) h := congrArg (fun z => R.ok (W.int z) h) b2
    have ss : binop .shr (.int (-(((2 * a + 1) * 2 ^ t : Nat) : Int))) (.int ((t : Nat) : Int)) h = .ok (.int (-((2 * a + 1 : Nat) : Int))) h := by
      rw [shr_int]
      congr 2
      have e0 : (((2 * a + 1) * 2 ^ t : Nat) : Int) = ((2 * a + 1 : Nat) : Int) * 2 ^ t := by rw [ep]; exact Int.natCast_mul _ _
      rw [e0, ← Int.neg_mul, Int.mul_ediv_cancel _ (by rw [ep]; omega)]
    have e1 : ((t + 1 : Nat) : Int) - 1 = (t : Int) := by omega
    show fin (exs (call kd P d) kd _ [some (.int (-(((2 * a + 1) * 2 ^ t : Nat) : Int))), some (.int k), none] h) = _
    generalize hx : (((2 * a + 1) * 2 ^ t : Nat) : Int) = x at *
    generalize hy : ((2 ^ t : Nat) : Int) = y at *
    have iy : ibits y = t + 1 := by rw [← hy]; exact ibits_pow t
    have h1' : x ≠ 0 := by omega
    simp [c_as_real, fin, exs, ex, ev, evs, gets, sto, sets, cmpop, eqh_int, h1, h1', ofB, truth, bb, mtOk, bmt, iy, sub_int, add_int, ss, sREAL]
end Vl
set_option maxRecDepth 100000
set_option maxHeartbeats 4000000
namespace Vl
/-! ### the reals' formats -/
inductive FC : List Nat → Nat → Nat → Int → Int → Prop
  | e : FC [101] 10 5 (-24) 16
  | f : FC [102] 23 8 (-149) 128
  | d : FC [100] 52 11 (-1074) 1024
def tFLOATS : List (List Nat × W) := [([101], .tup [.int 11, .int (-24), .int 16]), ([102], .tup [.int 24, .int (-149), .int 128]), ([100], .tup [.int 53, .int (-1074), .int 1024])]
def tWIDTHS : List (List Nat × W) := [([101], .int 5), ([102], .int 8), ([100], .int 11)]
section
variable {cs : List Nat} {p w : Nat} {l bd : Int} {kd : Kd} {h : L} {k0 k1 : Nat}
theorem FC.floats (c : FC cs p w l bd) (hk : kd[k0]? = some tFLOATS) : subv kd (.kd k0) (.str cs) h = .ok (.tup [.int ((p : Int) + 1), .int l, .int bd]) h := by
  cases c <;> simp [subv, hk, tFLOATS, lookK]
theorem FC.widths (c : FC cs p w l bd) (hk : kd[k0]? = some tWIDTHS) : subv kd (.kd k0) (.str cs) h = .ok (.int (w : Int)) h := by
  cases c <;> simp [subv, hk, tWIDTHS, lookK]
theorem FC.small (c : FC cs p w l bd) : 1 ≤ p ∧ p ≤ 52 ∧ 2 ≤ w ∧ w ≤ 11 ∧ bd = l + (2 ^ w : Nat) - 2 + p ∧ -1074 ≤ l ∧ l < 0 ∧ bd ≤ 1024 ∧ p + w + 1 ≤ 64 := by
  cases c <;> decide
end
/-- the mantissa -/
def mant (p F fr : Nat) : Nat := if F = 0 then fr else fr + 2 ^ p
/-- the number of a sign, a field and a fraction -/
def numB (p w : Nat) (s : Bool) (F fr : Nat) : Nat := (s.toNat * 2 ^ w + F) * 2 ^ p + fr
def sNAN : List Nat := [110, 97, 110]
def sINF (s : Bool) : List Nat := if s then [45, 105, 110, 102] else [105, 110, 102]
/-- what a number reads as -/
inductive RealIs (p w : Nat) (l : Int) (s : Bool) (F fr : Nat) : W → Prop
  | nan : F = 2 ^ w - 1 → 0 < fr → RealIs p w l s F fr (.tup [.str sREAL, .str sNAN])
  | inf : F = 2 ^ w - 1 → fr = 0 → RealIs p w l s F fr (.tup [.str sREAL, .str (sINF s)])
  | zero : F = 0 → fr = 0 → RealIs p w l s F fr (if s then .tup [.str sREAL, .str [45, 48]] else .tup [.str sREAL, .int 0, .int 0])
  | num (a t : Nat) : F < 2 ^ w - 1 → mant p F fr = (2 * a + 1) * 2 ^ t → RealIs p w l s F fr (.tup [.str sREAL, .int (if s then -((2 * a + 1 : Nat) : Int) else ((2 * a + 1 : Nat) : Int)), .int (l + (F - 1 : Nat) + t)])
theorem RealIs.ex {p w : Nat} {l : Int} {s : Bool} {F fr : Nat} (hw : 1 ≤ w) (hF : F < 2 ^ w) : ∃ v, RealIs p w l s F fr v := by
  by_cases h1 : F = 2 ^ w - 1
  · by_cases h2 : fr = 0
    · exact ⟨_, .inf h1 h2⟩
    · exact ⟨_, .nan h1 (by omega)⟩
  · by_cases h2 : mant p F fr = 0
    · unfold mant at h2
      by_cases h3 : F = 0
      · rw [if_pos h3] at h2
        exact ⟨_, .zero h3 h2⟩
      · rw [if_neg h3] at h2
        have := Nat.two_pow_pos p
        omega
    · obtain ⟨a, t, e⟩ := odd_two (mant p F fr) (by omega)
      exact ⟨_, .num a t (by omega) e⟩
theorem numB_parts {p w : Nat} {s : Bool} {F fr : Nat} (hF : F < 2 ^ w) (hfr : fr < 2 ^ p) : numB p w s F fr % 2 ^ p = fr ∧ numB p w s F fr / 2 ^ p % 2 ^ w = F ∧ numB p w s F fr / 2 ^ (p + w) = s.toNat ∧ numB p w s F fr / 2 ^ p = s.toNat * 2 ^ w + F := by
  have hp := Nat.two_pow_pos p
  have hw := Nat.two_pow_pos w
  have e1 : numB p w s F fr / 2 ^ p = s.toNat * 2 ^ w + F := by
    unfold numB
    rw [Nat.add_comm, Nat.add_mul_div_right _ _ hp, Nat.div_eq_of_lt hfr, Nat.zero_add]
  refine ⟨?_, ?_, ?_, e1⟩
  · unfold numB
    rw [Nat.add_comm, Nat.add_mul_mod_self_right, Nat.mod_eq_of_lt hfr]
  · rw [e1, Nat.add_comm, Nat.add_mul_mod_self_right, Nat.mod_eq_of_lt hF]
  · rw [Nat.pow_add, ← Nat.div_div_eq_div_mul, e1, Nat.add_comm, Nat.add_mul_div_right _ _ hw, Nat.div_eq_of_lt hF, Nat.zero_add]
theorem real_from_bits_ok {kd : Kd} {P : List Fn} {d g g0 k0 k1 : Nat} {h : L} (hP : P[g]? = some (c_real_from_bits g0 k0 k1)) (hA : P[g0]? = some c_as_real) (hk0 : kd[k0]? = some tFLOATS) (hk1 : kd[k1]? = some tWIDTHS)
    {cs : List Nat} {p w : Nat} {l bd : Int} (c : FC cs p w l bd) {s : Bool} {F fr : Nat} (hF : F < 2 ^ w) (hfr : fr < 2 ^ p) {v : W} (R : RealIs p w l s F fr v) :
    Ok (call kd P (d + 2) g [.int (numB p w s F fr : Nat), .str cs] h) fun v' h' => v' = v ∧ Ap h h' := by
  obtain ⟨q1, q2, q3, q4⟩ := numB_parts (s := s) hF hfr
  obtain ⟨c1, c2, c3, c4, c5, c6, c7, c8, c9⟩ := c.small
  have f1 := fun h => c.floats (h := h) hk0
  have f2 := fun h => c.widths (h := h) hk1
  have ew : (1 : Nat) < 2 ^ w := Nat.one_lt_two_pow (by omega)
  have s1 : ∀ h, binop .shl (.int 1) (.int (w : Int)) h = .ok (.int ((2 ^ w : Nat) : Int)) h := fun h => shl_nat (by omega)
  have s2 : ∀ h, binop .shl (.int 1) (.int (p : Int)) h = .ok (.int ((2 ^ p : Nat) : Int)) h := fun h => shl_nat (by omega)
  generalize hn : numB p w s F fr = n at *
  have b1 : ∀ h, binop .band (.int (n : Int)) (.int (((2 ^ p : Nat) : Int) - 1)) h = .ok (.int (fr : Int)) h := fun h => by rw [mask_nat, q1]
  have r1 : ∀ h, binop .shr (.int (n : Int)) (.int (p : Int)) h = .ok (.int ((n / 2 ^ p : Nat) : Int)) h := fun h => shr_nat
  have b2 : ∀ h, binop .band (.int ((n / 2 ^ p : Nat) : Int)) (.int (((2 ^ w : Nat) : Int) - 1)) h = .ok (.int (F : Int)) h := fun h => by rw [mask_nat, q2]
  have r2 : ∀ h, binop .shr (.int (n : Int)) (.int ((p : Int) + (w : Int))) h = .ok (.int (s.toNat : Int)) h := fun h => by
    have : (p : Int) + (w : Int) = ((p + w : Nat) : Int) := by omega
    rw [this, shr_nat, q3]
  have es : (((s.toNat : Nat) : Int) == 1) = s := by cases s <;> rfl
  generalize hN : ((n / 2 ^ p : Nat) : Int) = N at *
  generalize hW : ((2 ^ w : Nat) : Int) = Wd at *
  generalize hQ : ((2 ^ p : Nat) : Int) = Q at *
  unfold Ok
  rw [call_in hP rfl]
  show ∃ v' h', fin (exs (call kd P (d + 1)) kd _ [some (.int (n : Int)), some (.str cs), none, none, none, none, none, none, none, none] h) = _ ∧ _
  cases R with
  | nan e1 e2 =>
    have t1 : ((F : Int) == Wd - 1) = true := by rw [beq_iff_eq]; omega
    refine ⟨_, h, ?_, rfl, Ap.refl⟩
    simp [c_real_from_bits, fin, exs, ex, ev, evs, gets, sto, stos, sets, f1, f2, s1, s2, sub_int, add_int, b1, r1, b2, r2, cmpop, eqh_int, ofB, truth, t1, e2, sREAL, sNAN]
  | inf e1 e2 =>
    have t1 : ((F : Int) == Wd - 1) = true := by rw [beq_iff_eq]; omega
    subst e2
    refine ⟨_, h ++ [.lst [.str (sINF false), .str (sINF true)]], ?_, rfl, Ap.app⟩
    have k3 : (h ++ [O.lst [.str (sINF false), .str (sINF true)]])[h.length]? = some (.lst [.str (sINF false), .str (sINF true)]) := app_end
    have sb : ∀ b : Bool, subv kd (.ref h.length) (.int (if b then 1 else 0)) (h ++ [O.lst [.str (sINF false), .str (sINF true)]]) = .ok (.str (sINF b)) (h ++ [O.lst [.str (sINF false), .str (sINF true)]]) := fun b => by
      cases b <;> simp [subv, k3, atI, ixN]
    have sb' := sb s
    simp only [sINF, if_true, if_false, Bool.false_eq_true] at sb' ⊢
    simp [c_real_from_bits, fin, exs, ex, ev, evs, gets, sto, stos, sets, f1, f2, s1, s2, sub_int, add_int, b1, r1, b2, r2, cmpop, eqh_int, ofB, truth, t1, sREAL, alloc, es, bfn, bInt, sb']
  | zero e1 e2 =>
    subst e1 e2
    have t1 : ((0 : Int) == Wd - 1) = false := by rw [beq_eq_false_iff_ne]; omega
    refine ⟨_, h, ?_, rfl, Ap.refl⟩
    have m0 : ∀ h, binop .mul (.int Q) (.int 0) h = .ok (.int (Q * 0)) h := fun h => by
      refine mul_ok ?_ (by decide)
      rw [← hQ, Int.natAbs_natCast]
      exact Nat.pow_lt_pow_right (by decide) (by omega)
    cases s <;> simp [c_real_from_bits, fin, exs, ex, ev, evs, gets, sto, stos, sets, f1, f2, s1, s2, sub_int, add_int, b1, r1, b2, r2, cmpop, eqh_int, ofB, truth, t1, sREAL, es, bfn, bInt, m0]
  | num a t e1 e2 =>
    have t1 : ((F : Int) == Wd - 1) = false := by rw [beq_eq_false_iff_ne]; omega
    have hm := as_real_ok (kd := kd) (d := d) (h := h) hA a t s (l + (F - 1 : Nat))
    have hpos : 1 ≤ (2 * a + 1) * 2 ^ t := Nat.mul_pos (by omega) Nat.one_le_two_pow
    rw [← e2] at hm hpos
    unfold mant at hm hpos
    refine ⟨_, h, ?_, rfl, Ap.refl⟩
    have qn : Q.natAbs < 2 ^ 70 := by
      rw [← hQ, Int.natAbs_natCast]
      exact Nat.pow_lt_pow_right (by decide) (by omega)
    by_cases hF0 : F = 0
    · subst hF0
      rw [if_pos rfl] at hm hpos
      have m0 : ∀ h, binop .mul (.int Q) (.int 0) h = .ok (.int (Q * 0)) h := fun h => mul_ok qn (by decide)
      have t2 : ((fr : Int) == 0) = false := by rw [beq_eq_false_iff_ne]; omega
      have t3 : (fr : Int) ≠ 0 := by omega
      have el : l + 1 - 1 = l := by omega
      have t1 : ((0 : Int) == Wd - 1) = false := by rw [beq_eq_false_iff_ne]; omega
      cases s <;> simp [c_real_from_bits, fin, exs, ex, ev, evs, gets, sto, stos, sets, f1, f2, s1, s2, sub_int, add_int, b1, r1, b2, r2, cmpop, eqh_int, ofB, truth, t1, sREAL, es, bfn, bInt, m0, t2, t3, el] at hm ⊢ <;> simp [hm]
    · rw [if_neg hF0] at hm hpos
      have hF1 : (0 : Int) < F := by omega
      have hF1n : 0 < F := by omega
      have m1 : ∀ h, binop .mul (.int Q) (.int 1) h = .ok (.int (Q * 1)) h := fun h => mul_ok qn (by decide)
      have hmq : ((fr + 2 ^ p : Nat) : Int) = (fr : Int) + Q := by rw [← hQ]; exact Int.natCast_add _ _
      rw [hmq] at hm
      have t2 : ((fr : Int) + Q == 0) = false := by rw [beq_eq_false_iff_ne]; omega
      have t3 : (fr : Int) + Q ≠ 0 := by omega
      have emx : (if (1 : Int) > F then (1 : Int) else F) = F := by rw [if_neg (by omega)]
      have el : l + (F : Int) - 1 = l + ((F - 1 : Nat) : Int) := by omega
      cases s <;> simp [c_real_from_bits, fin, exs, ex, ev, evs, gets, sto, stos, sets, f1, f2, s1, s2, sub_int, add_int, b1, r1, b2, r2, cmpop, eqh_int, ofB, truth, t1, sREAL, es, bfn, bInt, m1, t2, t3, emx, hF1, hF1n, hF0, el] at hm ⊢ <;> simp [hm]
end Vl
set_option maxRecDepth 100000
set_option maxHeartbeats 4000000
namespace Vl
/-! ### what the law says of reals -/
section
variable {kd : Kd} {P : List Fn} {d g g0 g1 g2 : Nat} {h : L} {cs : List Nat} {p w : Nat} {l bd : Int}
theorem v_float_ok (hP : P[g]? = some c_law_v_float) (c : FC cs p w l bd) : ∃ h', call kd P (d + 1) g [.str cs] h = .ok (.tup [.int ((p : Int) + 1), .int l, .int (w : Int)]) h' ∧ Ap h h' := by
  have k3 : (h ++ [O.dic [([101], W.tup [.int 11, .int (-24), .int 5]), ([102], .tup [.int 24, .int (-149), .int 8]), ([100], .tup [.int 53, .int (-1074), .int 11])]])[h.length]? = some (.dic [([101], W.tup [.int 11, .int (-24), .int 5]), ([102], .tup [.int 24, .int (-149), .int 8]), ([100], .tup [.int 53, .int (-1074), .int 11])]) := app_end
  refine ⟨h ++ [O.dic [([101], W.tup [.int 11, .int (-24), .int 5]), ([102], .tup [.int 24, .int (-149), .int 8]), ([100], .tup [.int 53, .int (-1074), .int 11])]], ?_, Ap.app⟩
  rw [call_in hP rfl]
  show fin (exs (call kd P d) kd _ [some (.str cs)] h) = _
  cases c <;> simp [c_law_v_float, fin, exs, ex, ev, evs, gets, alloc, putK, subv, k3, lookK]
theorem v_at_ok (hP : P[g]? = some (c_law_v_at g0)) (hF0 : P[g0]? = some c_law_v_float) (c : FC cs p w l bd) {F fr : Nat} (hfr : fr < 2 ^ p) :
    ∃ h', call kd P (d + 2) g [.str cs, .int ((F * 2 ^ p + fr : Nat) : Int)] h = .ok (.tup [.int (mant p F fr : Nat), .int (l + (F - 1 : Nat))]) h' ∧ Ap h h' := by
  obtain ⟨c1, c2, c3, c4, c5, c6, c7, c8, c9⟩ := c.small
  obtain ⟨h', e1, a1⟩ := v_float_ok (kd := kd) (d := d) (h := h) hF0 c
  have hp := Nat.two_pow_pos p
  have s2 : ∀ h, binop .shl (.int 1) (.int (p : Int)) h = .ok (.int ((2 ^ p : Nat) : Int)) h := fun h => shl_nat (by omega)
  have hpp : 0 < ((2 ^ p : Nat) : Int) := by omega
  have q1 : ((F * 2 ^ p + fr : Nat) : Int) / ((2 ^ p : Nat) : Int) = (F : Int) := by
    rw [← Int.natCast_ediv, Nat.add_comm, Nat.add_mul_div_right _ _ hp, Nat.div_eq_of_lt hfr, Nat.zero_add]
  have q2 : ((F * 2 ^ p + fr : Nat) : Int) % ((2 ^ p : Nat) : Int) = (fr : Int) := by
    rw [← Int.natCast_emod, Nat.add_comm, Nat.add_mul_mod_self_right, Nat.mod_eq_of_lt hfr]
  have hl : ((2 ^ p : Nat) : Int).natAbs.log2 < 9000 := by
    rw [Int.natAbs_natCast, Nat.log2_two_pow]; omega
  have d1 : ∀ x h, binop .fdiv (.int x) (.int ((2 ^ p : Nat) : Int)) h = .ok (.int (x / ((2 ^ p : Nat) : Int))) h := fun x h => fdiv_ok hpp hl
  have d2 : ∀ x h, binop .mod (.int x) (.int ((2 ^ p : Nat) : Int)) h = .ok (.int (x % ((2 ^ p : Nat) : Int))) h := fun x h => mod_ok hpp
  refine ⟨h', ?_, a1⟩
  rw [call_in hP rfl]
  show fin (exs (call kd P (d + 1)) kd _ [some (.str cs), some (.int ((F * 2 ^ p + fr : Nat) : Int)), none, none, none, none, none] h) = _
  unfold mant
  generalize ((F * 2 ^ p + fr : Nat) : Int) = n at *
  by_cases hF : F = 0
  · rw [if_pos hF]
    subst hF
    generalize ((2 ^ p : Nat) : Int) = Q at *
    simp [c_law_v_at, fin, exs, ex, ev, evs, gets, sto, stos, sets, e1, s2, sub_int, add_int, bfn, bInt, d1, d2, q1, q2, cmpop, eqh_int, ofB, truth]
  · rw [if_neg hF]
    have hm : ((fr + 2 ^ p : Nat) : Int) = (fr : Int) + ((2 ^ p : Nat) : Int) := Int.natCast_add _ _
    rw [hm]
    have el : l + (F : Int) - 1 = l + ((F - 1 : Nat) : Int) := by omega
    have ef : ((F : Int) == 0) = false := by rw [beq_eq_false_iff_ne]; omega
    generalize ((2 ^ p : Nat) : Int) = Q at *
    simp [c_law_v_at, fin, exs, ex, ev, evs, gets, sto, stos, sets, e1, s2, sub_int, add_int, bfn, bInt, d1, d2, q1, q2, cmpop, eqh_int, ofB, truth, ef, hF, el]
/-- the loop of the form -/
def formT : E := match c_law_v_form.body with
  | .cons (.whl c _) _ => c
  | _ => .cst .non
def formB : Ss := match c_law_v_form.body with
  | .cons (.whl _ b) _ => b
  | _ => .nil
theorem form_loop {C : Orc} {sg : W} : ∀ (t : Nat) (a : Nat) (k : Int) (fuel : Nat), t < fuel →
    whiles (tst C kd formT) (exs C kd formB) fuel [some (.int (((2 * a + 1) * 2 ^ t : Nat) : Int)), some (.int k), some sg] h
      = .ok (.nx [some (.int ((2 * a + 1 : Nat) : Int)), some (.int (k + t)), some sg]) h := by
  have md : ∀ (x : Int) h, binop .mod (.int x) (.int 2) h = .ok (.int (x % 2)) h := fun x h => mod_ok (by decide)
  have dv : ∀ (x : Int) h, binop .fdiv (.int x) (.int 2) h = .ok (.int (x / 2)) h := fun x h => fdiv_ok (by decide) (by decide)
  intro t
  induction t with
  | zero =>
    intro a k fuel hf
    cases fuel with
    | zero => omega
    | succ fuel =>
      have e1 : (((2 * a + 1) * 2 ^ 0 : Nat) : Int) = ((2 * a + 1 : Nat) : Int) := by simp
      have e2 : (((2 * a + 1 : Nat) : Int) % 2 == 0) = false := by rw [beq_eq_false_iff_ne]; omega
      have e3 : decide ((0 : Int) < ((2 * a + 1 : Nat) : Int)) = true := by rw [decide_eq_true_eq]; omega
      rw [e1]
      generalize ((2 * a + 1 : Nat) : Int) = n at *
      simp [whiles, tst, formT, formB, c_law_v_form, ev, evs, gets, cmpop, eqh_int, ofB, truth, bfn, bInt, md, e2, e3]
  | succ t ih =>
    intro a k fuel hf
    cases fuel with
    | zero => omega
    | succ fuel =>
      have ih := ih a (k + 1) fuel (by omega)
      have hpos : 1 ≤ (2 * a + 1) * 2 ^ t := Nat.mul_pos (by omega) Nat.one_le_two_pow
      have e1 : (((2 * a + 1) * 2 ^ (t + 1) : Nat) : Int) = 2 * (((2 * a + 1) * 2 ^ t : Nat) : Int) := by
        rw [Nat.pow_succ]
        have : (2 * a + 1) * (2 ^ t * 2) = 2 * ((2 * a + 1) * 2 ^ t) := by simp only [Nat.mul_comm, Nat.mul_left_comm]
        rw [this]
        exact Int.natCast_mul _ _
      rw [e1]
      have hn : 0 < (((2 * a + 1) * 2 ^ t : Nat) : Int) := by omega
      generalize (((2 * a + 1) * 2 ^ t : Nat) : Int) = n at *
      have e3 : (0 : Int) < 2 * n := by omega
      have e2 : (2 * n) % 2 = 0 := by omega
      have e4 : 2 * n / 2 = n := by omega
      have e5 : k + ((t + 1 : Nat) : Int) = k + 1 + t := by omega
      rw [e5, ← ih]
      simp only [whiles]
      simp [tst, formT, formB, c_law_v_form, exs, ex, ev, evs, gets, sto, stos, sets, cmpop, eqh_int, ofB, truth, bfn, bInt, md, dv, e2, e3, e4, add_int]
theorem form_ok (hP : P[g]? = some c_law_v_form) (a t : Nat) (k : Int) (s : Bool) (ht : t < 1000000) :
    call kd P (d + 1) g [.int (((2 * a + 1) * 2 ^ t : Nat) : Int), .int k, .bl s] h = .ok (.tup [.str sREAL, .int (if s then -((2 * a + 1 : Nat) : Int) else ((2 * a + 1 : Nat) : Int)), .int (k + t)]) h := by
  have hl := form_loop (C := call kd P d) (kd := kd) (h := h) (sg := .bl s) t a k FUEL ht
  rw [call_in hP rfl]
  have eb : c_law_v_form.body = .cons (.whl formT formB) (match c_law_v_form.body with | .cons _ ss => ss | _ => .nil) := rfl
  rw [eb]
  show fin (exs (call kd P d) kd _ [some (.int (((2 * a + 1) * 2 ^ t : Nat) : Int)), some (.int k), some (.bl s)] h) = _
  have e0 : (((2 * a + 1 : Nat) : Int) == 0) = false := by rw [beq_eq_false_iff_ne]; omega
  have e1 : ((2 * a + 1 : Nat) : Int) ≠ 0 := by omega
  simp only [exs, ex_whl, hl]
  generalize ((2 * a + 1 : Nat) : Int) = n at *
  cases s <;> simp [c_law_v_form, fin, exs, ex, ev, evs, gets, cmpop, eqh_int, ofB, truth, e0, e1, sREAL]
theorem form_zero (hP : P[g]? = some c_law_v_form) (k : Int) (s : Bool) :
    call kd P (d + 1) g [.int 0, .int k, .bl s] h = .ok (if s then .tup [.str sREAL, .str [45, 48]] else .tup [.str sREAL, .int 0, .int 0]) h := by
  have hl : whiles (tst (call kd P d) kd formT) (exs (call kd P d) kd formB) FUEL [some (.int 0), some (.int k), some (.bl s)] h
      = .ok (.nx [some (.int 0), some (.int k), some (.bl s)]) h := by
    have : FUEL = 999999 + 1 := rfl
    rw [this]
    refine whiles_stop ?_
    simp [tst, formT, formB, c_law_v_form, ev, evs, gets, cmpop, eqh_int, ofB, truth, bfn, bInt]
  rw [call_in hP rfl]
  have eb : c_law_v_form.body = .cons (.whl formT formB) (match c_law_v_form.body with | .cons _ ss => ss | _ => .nil) := rfl
  rw [eb]
  show fin (exs (call kd P d) kd _ [some (.int 0), some (.int k), some (.bl s)] h) = _
  simp only [exs, ex_whl, hl]
  cases s <;> simp [c_law_v_form, fin, exs, ex, ev, evs, gets, cmpop, eqh_int, ofB, truth, sREAL]
theorem mant_lt {F fr : Nat} (hfr : fr < 2 ^ p) : mant p F fr < 2 ^ (p + 1) := by
  unfold mant
  rw [Nat.pow_succ]
  split <;> omega
theorem two_le {a t m : Nat} (e : m = (2 * a + 1) * 2 ^ t) (h : m < 2 ^ 60) : t < 60 := by
  have h1 : 2 ^ t ≤ m := by rw [e]; exact Nat.le_mul_of_pos_left _ (by omega)
  have h2 : 2 ^ t < 2 ^ 60 := Nat.lt_of_le_of_lt h1 h
  exact (Nat.pow_lt_pow_iff_right (by decide)).mp h2
theorem ge_lem {X Y : Nat} {s : Bool} (h : Y < X) : decide ((X : Int) ≤ ((s.toNat * X + Y : Nat) : Int)) = s := by
  cases s with
  | false =>
    rw [decide_eq_false_iff_not, Bool.toNat_false, Nat.zero_mul]
    omega
  | true =>
    rw [decide_eq_true_eq, Bool.toNat_true, Nat.one_mul]
    omega
/-- the law's own reading -/
theorem v_real_ok (hP : P[g]? = some (c_law_v_real g0 g1 g2)) (h0 : P[g0]? = some c_law_v_float) (h1 : P[g1]? = some (c_law_v_at g0)) (h2 : P[g2]? = some c_law_v_form) (c : FC cs p w l bd)
    {s : Bool} {F fr : Nat} (hF : F < 2 ^ w) (hfr : fr < 2 ^ p) {v : W} (R : RealIs p w l s F fr v) :
    Ok (call kd P (d + 3) g [.str cs, .int (numB p w s F fr : Nat)] h) fun v' h' => v' = v ∧ Ap h h' := by
  obtain ⟨c1, c2, c3, c4, c5, c6, c7, c8, c9⟩ := c.small
  have hw2 := Nat.two_pow_pos w
  have hp2 := Nat.two_pow_pos p
  obtain ⟨ha, e1, a1⟩ := v_float_ok (kd := kd) (d := d + 1) (h := h) h0 c
  obtain ⟨hb, e2, a2⟩ := v_at_ok (kd := kd) (d := d) (h := ha) h1 h0 c (F := F) hfr
  have sg : ∀ h, binop .shl (.int 1) (.int ((p : Int) + (w : Int))) h = .ok (.int ((2 ^ (p + w) : Nat) : Int)) h := fun h => by
    have : (p : Int) + (w : Int) = ((p + w : Nat) : Int) := by omega
    rw [this]
    exact shl_nat (by omega)
  have sw : ∀ h, binop .shl (.int 1) (.int (w : Int)) h = .ok (.int ((2 ^ w : Nat) : Int)) h := fun h => shl_nat (by omega)
  have sf : ∀ h, binop .shl (.int (((2 ^ w : Nat) : Int) - 1)) (.int (p : Int)) h = .ok (.int (((2 ^ w - 1) * 2 ^ p : Nat) : Int)) h := fun h => by
    have h1 : (((2 ^ w : Nat) : Int) - 1) = ((2 ^ w - 1 : Nat) : Int) := by omega
    rw [h1, shl_int ?_ (by omega)]
    · rw [Int.natCast_mul]; simp
    · rw [Int.natAbs_natCast]
      exact Nat.lt_of_lt_of_le (show 2 ^ w - 1 < 2 ^ w by omega) (Nat.pow_le_pow_right (by decide) (by omega))
  have hspos : 0 < ((2 ^ (p + w) : Nat) : Int) := by have := Nat.two_pow_pos (p + w); omega
  have bnum : numB p w s F fr = s.toNat * 2 ^ (p + w) + (F * 2 ^ p + fr) := by
    unfold numB
    rw [Nat.add_mul, Nat.mul_assoc, ← Nat.pow_add, Nat.add_comm w p, Nat.add_assoc]
  have blt : F * 2 ^ p + fr < 2 ^ (p + w) := by
    have : F * 2 ^ p + 2 ^ p ≤ 2 ^ w * 2 ^ p := by
      rw [← Nat.succ_mul]
      exact Nat.mul_le_mul_right _ hF
    rw [Nat.add_comm p w, Nat.pow_add]
    omega
  have mm : ∀ h, binop .mod (.int (numB p w s F fr : Nat)) (.int ((2 ^ (p + w) : Nat) : Int)) h = .ok (.int ((F * 2 ^ p + fr : Nat) : Int)) h := fun h => by
    rw [mod_ok hspos, ← Int.natCast_emod, bnum, Nat.add_comm, Nat.add_mul_mod_self_right, Nat.mod_eq_of_lt blt]
  have ge : decide (((2 ^ (p + w) : Nat) : Int) ≤ ((numB p w s F fr : Nat) : Int)) = s := by
    rw [bnum]
    exact ge_lem blt
  generalize hN : ((numB p w s F fr : Nat) : Int) = N at *
  generalize hS : ((2 ^ (p + w) : Nat) : Int) = Sg at *
  generalize hB : ((F * 2 ^ p + fr : Nat) : Int) = B at *
  generalize hU : (((2 ^ w - 1) * 2 ^ p : Nat) : Int) = U at *
  have big : F = 2 ^ w - 1 → B = U + fr := fun e => by rw [← hB, ← hU, e, Int.natCast_add]
  have small : F < 2 ^ w - 1 → B < U := fun e => by
    rw [← hB, ← hU]
    have : F * 2 ^ p + 2 ^ p ≤ (2 ^ w - 1) * 2 ^ p := by
      rw [← Nat.succ_mul]
      exact Nat.mul_le_mul_right _ e
    omega
  unfold Ok
  rw [call_in hP rfl]
  show ∃ v' h', fin (exs (call kd P (d + 2)) kd _ [some (.str cs), some (.int N), none, none, none, none, none, none, none, none] h) = _ ∧ _
  cases R with
  | nan x1 x2 =>
    have y1 := big x1
    have y2 : U < B := by omega
    refine ⟨_, ha, ?_, rfl, a1⟩
    generalize ((2 ^ w : Nat) : Int) = Wd at *
    simp [c_law_v_real, fin, exs, ex, ev, evs, gets, sto, stos, sets, e1, sub_int, add_int, sg, sw, sf, bfn, bInt, mm, cmpop, eqh_int, ofB, truth, y2, sREAL, sNAN]
  | inf x1 x2 =>
    have y1 := big x1
    subst x2
    have y2 : B = U := by simpa using y1
    subst y2
    refine ⟨_, ha, ?_, rfl, a1⟩
    generalize ((2 ^ w : Nat) : Int) = Wd at *
    cases s <;> simp [c_law_v_real, fin, exs, ex, ev, evs, gets, sto, stos, sets, e1, sub_int, add_int, sg, sw, sf, bfn, bInt, mm, cmpop, eqh_int, ofB, truth, sREAL, sINF, ge]
  | zero x1 x2 =>
    have hw3 : 1 < 2 ^ w := Nat.one_lt_two_pow (by omega)
    have y1 := small (by omega)
    have y2 : ¬ U < B := by omega
    have y3 : (B == U) = false := by rw [beq_eq_false_iff_ne]; omega
    have y4 : B ≠ U := by omega
    have fz := form_zero (kd := kd) (d := d + 1) (h := hb) h2 (l + ((F - 1 : Nat) : Int)) s
    have m0 : ((mant p F fr : Nat) : Int) = 0 := by unfold mant; rw [if_pos x1, x2]; rfl
    rw [m0] at e2
    refine ⟨_, hb, ?_, rfl, a1.trans a2⟩
    generalize ((2 ^ w : Nat) : Int) = Wd at *
    generalize l + ((F - 1 : Nat) : Int) = ll at *
    simp [c_law_v_real, fin, exs, ex, ev, evs, gets, sto, stos, sets, e1, e2, sub_int, add_int, sg, sw, sf, bfn, bInt, mm, cmpop, eqh_int, ofB, truth, y2, y3, y4, ge, fz]
  | num a t x1 x2 =>
    have y1 := small x1
    have y2 : ¬ U < B := by omega
    have y3 : (B == U) = false := by rw [beq_eq_false_iff_ne]; omega
    have y4 : B ≠ U := by omega
    have ht : t < 60 := two_le x2 (Nat.lt_of_lt_of_le (mant_lt hfr) (Nat.pow_le_pow_right (by decide) (by omega)))
    have fz := form_ok (kd := kd) (d := d + 1) (h := hb) h2 a t (l + ((F - 1 : Nat) : Int)) s (by omega)
    rw [← x2] at fz
    refine ⟨_, hb, ?_, rfl, a1.trans a2⟩
    generalize ((2 ^ w : Nat) : Int) = Wd at *
    generalize ((mant p F fr : Nat) : Int) = mm' at *
    generalize l + ((F - 1 : Nat) : Int) = ll at *
    generalize ((2 * a + 1 : Nat) : Int) = oo at *
    simp [c_law_v_real, fin, exs, ex, ev, evs, gets, sto, stos, sets, e1, e2, sub_int, add_int, sg, sw, sf, bfn, bInt, mm, cmpop, eqh_int, ofB, truth, y2, y3, y4, ge, fz]
end
end Vl
set_option maxRecDepth 100000
set_option maxHeartbeats 4000000
namespace Vl
/-! ### sizes in bits -/
theorem ibits_nat_lt {x n : Nat} (h : x < 2 ^ n) : ibits (x : Int) ≤ n := ibits_le (by simpa using h)
theorem ibits_nat_ge {x n : Nat} (h : 2 ^ n ≤ x) : n + 1 ≤ ibits (x : Int) := by
  have hx : x ≠ 0 := by have := Nat.two_pow_pos n; omega
  unfold ibits
  rw [if_neg (by omega), Int.natAbs_natCast]
  have := (Nat.le_log2 hx).mpr h
  omega
theorem ibits_mul (a t : Nat) : ibits (((2 * a + 1) * 2 ^ t : Nat) : Int) = ibits ((2 * a + 1 : Nat) : Int) + t := by
  have hpos : 1 ≤ (2 * a + 1) * 2 ^ t := Nat.mul_pos (by omega) Nat.one_le_two_pow
  unfold ibits
  rw [if_neg (by omega), if_neg (by omega), Int.natAbs_natCast, Int.natAbs_natCast]
  have h1 : 2 ^ (2 * a + 1).log2 ≤ 2 * a + 1 := Nat.log2_self_le (by omega)
  have h2 : 2 * a + 1 < 2 ^ ((2 * a + 1).log2 + 1) := Nat.lt_log2_self
  have h3 : 2 ^ ((2 * a + 1).log2 + t) ≤ (2 * a + 1) * 2 ^ t := by rw [Nat.pow_add]; exact Nat.mul_le_mul_right _ h1
  have h4 : (2 * a + 1) * 2 ^ t < 2 ^ ((2 * a + 1).log2 + 1 + t) := by rw [Nat.pow_add]; exact Nat.mul_lt_mul_of_pos_right h2 (Nat.two_pow_pos t)
  have h5 := (Nat.le_log2 (show (2 * a + 1) * 2 ^ t ≠ 0 by omega)).mpr h3
  have h6 := (Nat.log2_lt (show (2 * a + 1) * 2 ^ t ≠ 0 by omega)).mpr h4
  omega
theorem ibits_neg (x : Int) : ibits (-x) = ibits x := by
  unfold ibits
  rw [Int.natAbs_neg]
  by_cases h : x = 0
  · subst h; rfl
  · rw [if_neg h, if_neg (by omega)]
section
variable {kd : Kd} {P : List Fn} {d g g0 g1 g2 g3 k0 k1 : Nat} {h : L} {cs : List Nat} {p w : Nat} {l bd : Int} {s : Bool} {F fr : Nat} {v : W}
/-- the facts about a number that is read -/
theorem num_facts (c : FC cs p w l bd) (hF : F < 2 ^ w - 1) (hfr : fr < 2 ^ p) {a t : Nat} (e : mant p F fr = (2 * a + 1) * 2 ^ t) :
    ibits ((2 * a + 1 : Nat) : Int) + t ≤ p + 1 ∧ (F ≠ 0 → ibits ((2 * a + 1 : Nat) : Int) + t = p + 1) ∧ (F = 0 → ibits ((2 * a + 1 : Nat) : Int) + t ≤ p) ∧ ((ibits ((2 * a + 1 : Nat) : Int) : Int) + (l + (F - 1 : Nat) + t) ≤ bd) := by
  obtain ⟨c1, c2, c3, c4, c5, c6, c7, c8, c9⟩ := c.small
  have h1 := mant_lt (p := p) (F := F) hfr
  have h2 := ibits_mul a t
  rw [← e] at h2
  have h3 := ibits_nat_lt h1
  have h4 : F ≠ 0 → ibits ((2 * a + 1 : Nat) : Int) + t = p + 1 := fun hz => by
    have : 2 ^ p ≤ mant p F fr := by unfold mant; rw [if_neg hz]; omega
    have := ibits_nat_ge this
    omega
  have h5 : F = 0 → ibits ((2 * a + 1 : Nat) : Int) + t ≤ p := fun hz => by
    have : mant p F fr < 2 ^ p := by unfold mant; rw [if_pos hz]; exact hfr
    have := ibits_nat_lt this
    omega
  refine ⟨by omega, h4, h5, ?_⟩
  have hw : 1 < 2 ^ w := Nat.one_lt_two_pow (by omega)
  by_cases hz : F = 0
  · have := h5 hz
    omega
  · have := h4 hz
    omega
theorem is_integer_int (hP : P[g]? = some c_is_integer) (i : Int) : call kd P (d + 1) g [.int i] h = .ok (.bl true) h := by
  rw [call_in hP rfl]
  show fin (exs (call kd P d) kd _ [some (.int i)] h) = _
  simp [c_is_integer, fin, exs, ex, ev, evs, gets, bfn, bIsi, isT, tyN, TN.is, ofB]
theorem fits_num (hP : P[g]? = some c_fits_double) {n k : Int} (h1 : n % 2 = 1) (h2 : ibits n ≤ 53) (h3 : -1074 ≤ k) (h4 : (ibits n : Int) + k ≤ 1024) : call kd P (d + 1) g [.int n, .int k] h = .ok (.bl true) h := by
  rw [call_in hP rfl]
  show fin (exs (call kd P d) kd _ [some (.int n), some (.int k)] h) = _
  have md : ∀ h, binop .mod (.int n) (.int 2) h = .ok (.int (n % 2)) h := fun h => mod_ok (by decide)
  have h2' : (ibits n : Int) ≤ 53 := by omega
  simp [c_fits_double, fin, exs, ex, ev, evs, gets, bfn, bIsi, isT, tyN, TN.is, ofB, truth, md, h1, cmpop, eqh_int, mtOk, bmt, h2', h3, add_int, h4]
theorem fits_zero (hP : P[g]? = some c_fits_double) : call kd P (d + 1) g [.int 0, .int 0] h = .ok (.bl true) h := by
  rw [call_in hP rfl]
  show fin (exs (call kd P d) kd _ [some (.int 0), some (.int 0)] h) = _
  have md : ∀ h, binop .mod (.int 0) (.int 2) h = .ok (.int 0) h := fun h => mod_ok (by decide)
  simp [c_fits_double, fin, exs, ex, ev, evs, gets, bfn, bIsi, isT, tyN, TN.is, ofB, truth, md, cmpop, eqh_int]
/-- what is read is a real -/
theorem is_real_ok (hP : P[g]? = some (c_is_real g0 g1)) (h0 : P[g0]? = some c_fits_double) (h1 : P[g1]? = some c_is_integer) (c : FC cs p w l bd) (hfr : fr < 2 ^ p) (R : RealIs p w l s F fr v) :
    call kd P (d + 2) g [v] h = .ok (.bl true) h := by
  obtain ⟨c1, c2, c3, c4, c5, c6, c7, c8, c9⟩ := c.small
  rw [call_in hP rfl]
  show fin (exs (call kd P (d + 1)) kd _ [some v] h) = _
  have word : ∀ z : List Nat, (z = [45, 48] ∨ z = [105, 110, 102] ∨ z = [45, 105, 110, 102] ∨ z = [110, 97, 110]) → fin (exs (call kd P (d + 1)) kd (c_is_real g0 g1).body [some (.tup [.str sREAL, .str z])] h) = .ok (.bl true) h := fun z hz => by
    rcases hz with rfl | rfl | rfl | rfl <;> simp [c_is_real, fin, exs, ex, ev, evs, gets, bfn, bIsi, isT, tyN, TN.is, ofB, truth, cmpop, eqh_int, eqh_str, bLen, items, isIn, anyEq, isFlat, subv, atI, ixN, sREAL]
  cases R with
  | nan e1 e2 => exact word _ (.inr (.inr (.inr rfl)))
  | inf e1 e2 => cases s with
    | true => exact word _ (.inr (.inr (.inl rfl)))
    | false => exact word _ (.inr (.inl rfl))
  | zero e1 e2 => cases s with
    | true => exact word _ (.inl rfl)
    | false =>
      have f0 := fits_zero (kd := kd) (d := d) (h := h) h0
      have i0 := is_integer_int (kd := kd) (d := d) (h := h) h1 0
      simp [c_is_real, fin, exs, ex, ev, evs, gets, bfn, bIsi, isT, tyN, TN.is, ofB, truth, cmpop, eqh_int, eqh_str, bLen, items, isIn, anyEq, isFlat, subv, atI, ixN, sREAL, f0, i0]
  | num a t e1 e2 =>
    obtain ⟨n1, n2, n3, n4⟩ := num_facts c e1 hfr e2
    generalize hn : (if s = true then -((2 * a + 1 : Nat) : Int) else ((2 * a + 1 : Nat) : Int)) = n
    generalize hk : l + ((F - 1 : Nat) : Int) + (t : Int) = k at *
    have o1 : n % 2 = 1 := by rw [← hn]; split <;> omega
    have o2 : ibits n = ibits ((2 * a + 1 : Nat) : Int) := by
      rw [← hn]
      split
      · exact ibits_neg _
      · rfl
    have f0 := fits_num (kd := kd) (d := d) (h := h) h0 (n := n) (k := k) o1 (by omega) (by omega) (by omega)
    have i0 := is_integer_int (kd := kd) (d := d) (h := h) h1 n
    have i1 := is_integer_int (kd := kd) (d := d) (h := h) h1 k
    simp [c_is_real, fin, exs, ex, ev, evs, gets, bfn, bIsi, isT, tyN, TN.is, ofB, truth, cmpop, eqh_int, eqh_str, bLen, items, isIn, anyEq, isFlat, subv, atI, ixN, sREAL, f0, i0, i1]
theorem real_of_ok (hP : P[g]? = some (c_real_of g0 g1 g2 g3)) (hR : call kd P (d + 1) g0 [v] h = .ok (.bl true) h) : call kd P (d + 2) g [v] h = .ok v h := by
  rw [call_in hP rfl]
  show fin (exs (call kd P (d + 1)) kd _ [some v, none, none] h) = _
  simp [c_real_of, fin, exs, ex, ev, evs, gets, hR, truth]
theorem rounded_ok (hP : P[g]? = some c_rounded) {n k bits least : Int} (h1 : (ibits n : Int) ≤ bits) (h2 : least ≤ k) : call kd P (d + 1) g [.int n, .int k, .int bits, .int least] h = .ok (.tup [.int n, .int k]) h := by
  rw [call_in hP rfl]
  have e : (if least - k > (ibits n : Int) - bits then least - k else (ibits n : Int) - bits) ≤ 0 := by split <;> omega
  show fin (exs (call kd P d) kd c_rounded.body (_ :: _ :: _ :: _ :: List.replicate 4 none) h) = _
  simp [c_rounded, fin, exs, ex, ev, evs, gets, sto, sets, mtOk, bmt, sub_int, bfn, cmpop, e, truth]
end
end Vl
set_option maxRecDepth 100000
set_option maxHeartbeats 4000000
namespace Vl
section
variable {kd : Kd} {P : List Fn} {d g g0 g1 g2 g3 k0 k1 : Nat} {h : L} {cs : List Nat} {p w : Nat} {l bd : Int} {s : Bool} {F fr : Nat} {v : W}
theorem abs_sign (a : Nat) (s : Bool) : (if (if s then -((a : Nat) : Int) else ((a : Nat) : Int)) < 0 then -(if s then -((a : Nat) : Int) else ((a : Nat) : Int)) else (if s then -((a : Nat) : Int) else ((a : Nat) : Int))) = (a : Int) := by
  cases s
  · simp only [Bool.false_eq_true, if_false]
    split <;> omega
  · simp only [if_true]
    split <;> omega
theorem too_large_ok (hP : P[g]? = some (c_is_too_large g0 k0)) (h0 : P[g0]? = some c_rounded) (hk : kd[k0]? = some tFLOATS) (c : FC cs p w l bd) (hfr : fr < 2 ^ p) (R : RealIs p w l s F fr v) :
    call kd P (d + 2) g [v, .str cs] h = .ok (.bl false) h := by
  obtain ⟨c1, c2, c3, c4, c5, c6, c7, c8, c9⟩ := c.small
  have f1 := fun h => c.floats (h := h) hk
  rw [call_in hP rfl]
  show fin (exs (call kd P (d + 1)) kd _ [some v, some (.str cs), none, none, none, none, none] h) = _
  cases R with
  | nan e1 e2 => simp [c_is_too_large, fin, exs, ex, ev, evs, gets, bfn, bLen, items, ofB, truth, cmpop, eqh_int]
  | inf e1 e2 => simp [c_is_too_large, fin, exs, ex, ev, evs, gets, bfn, bLen, items, ofB, truth, cmpop, eqh_int]
  | zero e1 e2 =>
    cases s with
    | true => simp [c_is_too_large, fin, exs, ex, ev, evs, gets, bfn, bLen, items, ofB, truth, cmpop, eqh_int]
    | false =>
      have i0 : ibits 0 = 0 := by decide
      have r0 := rounded_ok (kd := kd) (d := d) (h := h) h0 (n := 0) (k := 0) (bits := (p : Int) + 1) (least := l) (by omega) (by omega)
      simp [c_is_too_large, fin, exs, ex, ev, evs, gets, sto, stos, sets, bfn, bLen, items, ofB, truth, cmpop, eqh_int, f1, r0]
  | num a t e1 e2 =>
    obtain ⟨n1, n2, n3, n4⟩ := num_facts c e1 hfr e2
    have ab := abs_sign (2 * a + 1) s
    generalize hn : (if s = true then -((2 * a + 1 : Nat) : Int) else ((2 * a + 1 : Nat) : Int)) = n at *
    have hpos : 0 < ((2 * a + 1 : Nat) : Int) := by omega
    generalize ((2 * a + 1 : Nat) : Int) = o at *
    generalize hk2 : l + ((F - 1 : Nat) : Int) + (t : Int) = k at *
    have r0 := rounded_ok (kd := kd) (d := d) (h := h) h0 (n := o) (k := k) (bits := (p : Int) + 1) (least := l) (by omega) (by omega)
    have n4' : ¬ bd < (ibits o : Int) + k := by omega
    simp [c_is_too_large, fin, exs, ex, ev, evs, gets, sto, stos, sets, bfn, bLen, items, ofB, truth, cmpop, eqh_int, f1, ab, r0, hpos, mtOk, bmt, add_int, n4']
theorem placed_hi (hP : P[g]? = some c_placed) {m ab : Int} {p : Nat} (hp : p ≤ 52) (e : (ibits m : Int) = p + 1) : call kd P (d + 1) g [.int m, .int ab, .int ((p : Int) + 1)] h = .ok (.tup [.int (ab + 1), .int (m - ((2 ^ p : Nat) : Int))]) h := by
  have s2 : ∀ h, binop .shl (.int 1) (.int (p : Int)) h = .ok (.int ((2 ^ p : Nat) : Int)) h := fun h => shl_nat (by omega)
  generalize ((2 ^ p : Nat) : Int) = Q at *
  rw [call_in hP rfl]
  show fin (exs (call kd P d) kd c_placed.body [_, _, _] h) = _
  simp [c_placed, fin, exs, ex, ev, evs, gets, mtOk, bmt, cmpop, eqh_int, e, ofB, truth, add_int, sub_int, s2]
theorem placed_lo (hP : P[g]? = some c_placed) {m ab : Int} {p : Nat} (e : (ibits m : Int) ≠ p + 1) : call kd P (d + 1) g [.int m, .int ab, .int ((p : Int) + 1)] h = .ok (.tup [.int 0, .int m]) h := by
  have e' : ((ibits m : Int) == (p : Int) + 1) = false := by rw [beq_eq_false_iff_ne]; exact e
  rw [call_in hP rfl]
  show fin (exs (call kd P d) kd c_placed.body [_, _, _] h) = _
  simp [c_placed, fin, exs, ex, ev, evs, gets, mtOk, bmt, cmpop, eqh_int, e, e', ofB, truth]
theorem numB_int : ((numB p w s F fr : Nat) : Int) = (((s.toNat : Nat) : Int) * ((2 ^ w : Nat) : Int) + F) * ((2 ^ p : Nat) : Int) + fr := by
  unfold numB
  rw [Int.natCast_add, Int.natCast_mul, Int.natCast_add, Int.natCast_mul]
/-- what a real is written as -/
def backF (p w : Nat) (F fr : Nat) : Nat := if F = 2 ^ w - 1 ∧ 0 < fr then 2 ^ (p - 1) else fr
def backS (w : Nat) (s : Bool) (F fr : Nat) : Bool := if F = 2 ^ w - 1 ∧ 0 < fr then false else s
def bst (g0 g1 g2 k0 k1 : Nat) : Nat → S := fun n => match n, (c_bits_of g0 g1 g2 k0 k1).body with
  | 0, .cons s _ => s
  | 1, .cons _ (.cons s _) => s
  | 2, .cons _ (.cons _ (.cons s _)) => s
  | 3, .cons _ (.cons _ (.cons _ (.cons s _))) => s
  | 4, .cons _ (.cons _ (.cons _ (.cons _ (.cons s _)))) => s
  | _, .cons _ (.cons _ (.cons _ (.cons _ (.cons _ (.cons s _))))) => s
  | _, _ => .pass
theorem shl_w {A : Int} {p : Nat} (hp : p ≤ 52) (hA : A.natAbs < 2 ^ 64) : binop .shl (.int A) (.int (p : Int)) h = .ok (.int (A * ((2 ^ p : Nat) : Int))) h := by
  rw [shl_int (Nat.lt_of_lt_of_le hA (Nat.pow_le_pow_right (by decide) (by decide))) (by omega)]
  simp
/-- the frame of it: the sign, then the field and the fraction -/
theorem bits_frame (hP : P[g]? = some (c_bits_of g0 g1 g2 k0 k1)) (hk0 : kd[k0]? = some tFLOATS) (hk1 : kd[k1]? = some tWIDTHS) (c : FC cs p w l bd) {s' : Bool} {F' fr' : Nat} (hF' : F' < 2 ^ w) {x9 x10 x11 : Option W}
    (e3 : ex (call kd P (d + 2)) kd (bst g0 g1 g2 k0 k1 2) [some v, some (.str cs), some (.int (((2 ^ w : Nat) : Int) - 1)), none, some (.int ((p : Int) + 1)), some (.int l), some (.int bd), none, none, none, none, none] h
      = .ok (.nx [some v, some (.str cs), some (.int (((2 ^ w : Nat) : Int) - 1)), some (.int (if s' then 1 else 0)), some (.int ((p : Int) + 1)), some (.int l), some (.int bd), none, none, none, none, none]) h)
    (e5 : ex (call kd P (d + 2)) kd (bst g0 g1 g2 k0 k1 4) [some v, some (.str cs), some (.int (((2 ^ w : Nat) : Int) - 1)), some (.int (if s' then 1 else 0)), some (.int ((p : Int) + 1)), some (.int l), some (.int bd), some (.int 0), some (.int 0), none, none, none] h
      = .ok (.nx [some v, some (.str cs), some (.int (((2 ^ w : Nat) : Int) - 1)), some (.int (if s' then 1 else 0)), some (.int ((p : Int) + 1)), some (.int l), some (.int bd), some (.int (F' : Int)), some (.int (fr' : Int)), x9, x10, x11]) h) :
    call kd P (d + 3) g [v, .str cs] h = .ok (.int (numB p w s' F' fr' : Nat)) h := by
  obtain ⟨c1, c2, c3, c4, c5, c6, c7, c8, c9⟩ := c.small
  have f1 := fun h => c.floats (h := h) hk0
  have f2 := fun h => c.widths (h := h) hk1
  have w64 : 2 ^ w ≤ 2 ^ 11 := Nat.pow_le_pow_right (by decide) c4
  have w64' : 2 ^ w ≤ 2048 := w64
  have s1 : ∀ h, binop .shl (.int 1) (.int (w : Int)) h = .ok (.int ((2 ^ w : Nat) : Int)) h := fun h => shl_nat (by omega)
  have z1 : binop .shl (.int 0) (.int (w : Int)) h = .ok (.int 0) h := by
    have := shl_int (h := h) (a := 0) (k := w) (by decide) (by omega)
    simpa using this
  have q1 := shl_w (h := h) (A := (F' : Int)) c2 (by omega)
  have q2 := shl_w (h := h) (A := ((2 ^ w : Nat) : Int) + (F' : Int)) c2 (by omega)
  rw [numB_int]
  rw [call_in hP rfl]
  have eb : (c_bits_of g0 g1 g2 k0 k1).body = .cons (bst g0 g1 g2 k0 k1 0) (.cons (bst g0 g1 g2 k0 k1 1) (.cons (bst g0 g1 g2 k0 k1 2) (.cons (bst g0 g1 g2 k0 k1 3) (.cons (bst g0 g1 g2 k0 k1 4) (.cons (bst g0 g1 g2 k0 k1 5) .nil))))) := rfl
  rw [eb]
  show fin (exs (call kd P (d + 2)) kd _ (some v :: some (.str cs) :: List.replicate 10 none) h) = _
  generalize ((2 ^ w : Nat) : Int) = Wd at *
  generalize ((2 ^ p : Nat) : Int) = Q at *
  refine (congrArg fin (exs_nx (σ' := [some v, some (.str cs), none, none, some (.int ((p : Int) + 1)), some (.int l), some (.int bd), none, none, none, none, none]) (h' := h) ?_)).trans ?_
  · simp [bst, c_bits_of, ex, ev, gets, sto, stos, sets, f1]
  refine (congrArg fin (exs_nx (σ' := [some v, some (.str cs), some (.int (Wd - 1)), none, some (.int ((p : Int) + 1)), some (.int l), some (.int bd), none, none, none, none, none]) (h' := h) ?_)).trans ?_
  · simp [bst, c_bits_of, ex, ev, gets, sto, stos, sets, f2, s1, sub_int]
  refine (congrArg fin (exs_nx e3)).trans ?_
  refine (congrArg fin (exs_nx (σ' := [some v, some (.str cs), some (.int (Wd - 1)), some (.int (if s' then 1 else 0)), some (.int ((p : Int) + 1)), some (.int l), some (.int bd), some (.int 0), some (.int 0), none, none, none]) (h' := h) ?_)).trans ?_
  · simp [bst, c_bits_of, ex, ev, evs, gets, sto, stos, sets]
  refine (congrArg fin (exs_nx e5)).trans ?_
  cases s' <;> simp [bst, c_bits_of, fin, exs, ex, ev, evs, gets, f2, z1, s1, add_int, sub_int, q1, q2]
theorem bits_of_ok (hP : P[g]? = some (c_bits_of g0 g1 g2 k0 k1)) (h0 : P[g0]? = some (c_is_too_large g1 k0)) (h1 : P[g1]? = some c_rounded) (h2 : P[g2]? = some c_placed) (hk0 : kd[k0]? = some tFLOATS) (hk1 : kd[k1]? = some tWIDTHS)
    (c : FC cs p w l bd) (hF : F < 2 ^ w) (hfr : fr < 2 ^ p) (R : RealIs p w l s F fr v) :
    call kd P (d + 3) g [v, .str cs] h = .ok (.int (numB p w (backS w s F fr) F (backF p w F fr) : Nat)) h := by
  obtain ⟨c1, c2, c3, c4, c5, c6, c7, c8, c9⟩ := c.small
  have tl := too_large_ok (kd := kd) (d := d) (h := h) h0 h1 hk0 c hfr R
  have hw1 : 1 < 2 ^ w := Nat.one_lt_two_pow (by omega)
  have hp2 := Nat.two_pow_pos p
  cases R with
  | nan e1 e2 =>
    have hb : backF p w F fr = 2 ^ (p - 1) := if_pos ⟨e1, e2⟩
    have hs : backS w s F fr = false := if_pos ⟨e1, e2⟩
    have ep : (p : Int) + 1 - 2 = ((p - 1 : Nat) : Int) := by omega
    have s3 : ∀ h, binop .shl (.int 1) (.int ((p - 1 : Nat) : Int)) h = .ok (.int ((2 ^ (p - 1) : Nat) : Int)) h := fun h => shl_nat (by omega)
    have eF : (F : Int) = ((2 ^ w : Nat) : Int) - 1 := by omega
    rw [hb, hs]
    refine bits_frame (s' := false) (x9 := none) (x10 := none) (x11 := none) hP hk0 hk1 c hF ?_ ?_
    · generalize ((2 ^ w : Nat) : Int) = Wd at *
      simp [bst, c_bits_of, exs, ex, ev, evs, gets, sto, stos, sets, bfn, bInt, bLen, items, ofB, truth, cmpop, eqh_int, eqh, eqv, isIn, anyEq, isFlat, sREAL, sNAN, sINF]
    · rw [eF]
      generalize ((2 ^ w : Nat) : Int) = Wd at *
      generalize ((2 ^ (p - 1) : Nat) : Int) = Q1 at *
      simp [bst, c_bits_of, exs, ex, ev, evs, gets, sto, stos, sets, bfn, bInt, bLen, items, ofB, truth, cmpop, eqh_int, eqh, eqv, isIn, anyEq, isFlat, sREAL, sNAN, sINF, sub_int, ep, s3]
  | inf e1 e2 =>
    have hb : backF p w F fr = fr := if_neg (by omega)
    have hs : backS w s F fr = s := if_neg (by omega)
    have eF : (F : Int) = ((2 ^ w : Nat) : Int) - 1 := by omega
    rw [hb, hs, e2]
    refine bits_frame (s' := s) (x9 := none) (x10 := none) (x11 := none) hP hk0 hk1 c hF ?_ ?_
    · generalize ((2 ^ w : Nat) : Int) = Wd at *
      cases s <;> simp [bst, c_bits_of, exs, ex, ev, evs, gets, sto, stos, sets, bfn, bInt, bLen, items, ofB, truth, cmpop, eqh_int, eqh, eqv, isIn, anyEq, isFlat, sREAL, sNAN, sINF]
    · rw [eF]
      generalize ((2 ^ w : Nat) : Int) = Wd at *
      cases s <;> simp [bst, c_bits_of, exs, ex, ev, evs, gets, sto, stos, sets, bfn, bInt, bLen, items, ofB, truth, cmpop, eqh_int, eqh, eqv, isIn, anyEq, isFlat, sREAL, sNAN, sINF, sub_int]
  | zero e1 e2 =>
    have hb : backF p w F fr = fr := if_neg (by omega)
    have hs : backS w s F fr = s := if_neg (by omega)
    rw [hb, hs, e2, e1]
    have i0 : ibits 0 = 0 := by decide
    have r0 := rounded_ok (kd := kd) (d := d + 1) (h := h) h1 (n := 0) (k := 0) (bits := (p : Int) + 1) (least := l) (by omega) (by omega)
    generalize hup : (if -l < (p : Int) + 1 then -l else (p : Int) + 1) = up at *
    have upp : 0 < up := by rw [← hup]; split <;> omega
    obtain ⟨un, rfl⟩ := Int.eq_ofNat_of_zero_le (show 0 ≤ up by omega)
    have ule : un ≤ 100000 := by
      have : (un : Int) ≤ p + 1 := by rw [← hup]; split <;> omega
      omega
    have sz := shl_int (h := h) (a := 0) (k := un) (by decide) ule
    have pl := placed_lo (kd := kd) (d := d + 1) (h := h) h2 (m := 0) (ab := -(un : Int) - l) (p := p) (by rw [i0]; omega)
    have upn : 0 < un := by omega
    simp only [Int.zero_mul] at sz
    cases s with
    | false =>
      simp only [sREAL, Bool.false_eq_true, if_false] at tl
      refine bits_frame (s' := false) (x9 := some (.int un)) (x10 := some (.int 0)) (x11 := some (.int 0)) hP hk0 hk1 c (by omega) ?_ ?_
      · generalize ((2 ^ w : Nat) : Int) = Wd at *
        simp [bst, c_bits_of, exs, ex, ev, evs, gets, sto, stos, sets, bfn, bInt, bLen, items, ofB, truth, cmpop, eqh_int, eqh, eqv, isIn, anyEq, isFlat, sREAL, sNAN, sINF]
      · generalize ((2 ^ w : Nat) : Int) = Wd at *
        simp [bst, c_bits_of, exs, ex, ev, evs, gets, sto, stos, sets, bfn, bInt, bLen, items, ofB, truth, cmpop, eqh_int, eqh, eqv, isIn, anyEq, isFlat, sREAL, sNAN, sINF, tl, r0, mtOk, bmt, i0, hup, upn, sz, pl, sub_int]
    | true =>
      simp only [sREAL, if_true] at tl
      refine bits_frame (s' := true) (x9 := none) (x10 := none) (x11 := none) hP hk0 hk1 c (by omega) ?_ ?_
      · generalize ((2 ^ w : Nat) : Int) = Wd at *
        simp [bst, c_bits_of, exs, ex, ev, evs, gets, sto, stos, sets, bfn, bInt, bLen, items, ofB, truth, cmpop, eqh_int, eqh, eqv, isIn, anyEq, isFlat, sREAL, sNAN, sINF]
      · generalize ((2 ^ w : Nat) : Int) = Wd at *
        simp [bst, c_bits_of, exs, ex, ev, evs, gets, sto, stos, sets, bfn, bInt, bLen, items, ofB, truth, cmpop, eqh_int, eqh, eqv, isIn, anyEq, isFlat, sREAL, sNAN, sINF, tl, sub_int]
  | num a t e1 e2 =>
    have hb : backF p w F fr = fr := if_neg (by omega)
    have hs : backS w s F fr = s := if_neg (by omega)
    rw [hb, hs]
    obtain ⟨n1, n2, n3, n4⟩ := num_facts c e1 hfr e2
    have ab := abs_sign (2 * a + 1) s
    have hml := mant_lt (p := p) (F := F) hfr
    have hp53 : 2 ^ (p + 1) ≤ 2 ^ 53 := Nat.pow_le_pow_right (by decide) (by omega)
    have ho : 2 * a + 1 ≤ mant p F fr := by rw [e2]; exact Nat.le_mul_of_pos_right _ (Nat.two_pow_pos t)
    have ht : t < 60 := two_le e2 (Nat.lt_of_lt_of_le hml (Nat.pow_le_pow_right (by decide) (by omega)))
    have em : ((2 * a + 1 : Nat) : Int) * 2 ^ t = ((mant p F fr : Nat) : Int) := by rw [e2, Int.natCast_mul]; simp
    have im : (ibits ((mant p F fr : Nat) : Int) : Int) = ibits ((2 * a + 1 : Nat) : Int) + t := by rw [e2, ibits_mul]; omega
    have st := shl_int (h := h) (a := ((2 * a + 1 : Nat) : Int)) (k := t) (by rw [Int.natAbs_natCast]; exact Nat.lt_of_lt_of_le (show 2 * a + 1 < 2 ^ 53 by omega) (Nat.pow_le_pow_right (by decide) (by decide))) (by omega)
    rw [em] at st
    have st0 : t = 0 → binop .shr (.int ((2 * a + 1 : Nat) : Int)) (.int 0) h = .ok (.int ((mant p F fr : Nat) : Int)) h := fun z => by
      subst z
      have := shr_int (h := h) (n := ((2 * a + 1 : Nat) : Int)) (k := 0)
      rw [← em]
      simpa using this
    have sgn : decide ((if s = true then -((2 * a + 1 : Nat) : Int) else ((2 * a + 1 : Nat) : Int)) < 0) = s := by
      cases s
      · rw [decide_eq_false_iff_not]; simp only [Bool.false_eq_true, if_false]; omega
      · rw [decide_eq_true_eq]; simp only [if_true]; omega
    have hk : l + ((F - 1 : Nat) : Int) + (t : Int) - l = ((F - 1 : Nat) : Int) + t := by omega
    have pl : call kd P (d + 2) g2 [.int ((mant p F fr : Nat) : Int), .int (l + ((F - 1 : Nat) : Int) + (t : Int) - (t : Int) - l), .int ((p : Int) + 1)] h = .ok (.tup [.int (F : Int), .int (fr : Int)]) h := by
      by_cases hz : F = 0
      · have := n3 hz
        rw [placed_lo (kd := kd) (d := d + 1) (h := h) h2 (by omega), hz]
        unfold mant
        rw [if_pos rfl]
        rfl
      · have := n2 hz
        rw [placed_hi (kd := kd) (d := d + 1) (h := h) h2 c2 (by omega)]
        have x1 : l + ((F - 1 : Nat) : Int) + (t : Int) - (t : Int) - l + 1 = (F : Int) := by omega
        have x2 : ((mant p F fr : Nat) : Int) - ((2 ^ p : Nat) : Int) = (fr : Int) := by
          unfold mant
          rw [if_neg hz]
          omega
        rw [x1, x2]
    have hup : (if l + ((F - 1 : Nat) : Int) + (t : Int) - l < (p : Int) + 1 - (ibits ((2 * a + 1 : Nat) : Int) : Int) then l + ((F - 1 : Nat) : Int) + (t : Int) - l else (p : Int) + 1 - (ibits ((2 * a + 1 : Nat) : Int) : Int)) = (t : Int) := by
      by_cases hz : F = 0
      · have := n3 hz
        rw [if_pos (by omega)]
        omega
      · have := n2 hz
        split <;> omega
    have r0 := rounded_ok (kd := kd) (d := d + 1) (h := h) h1 (n := ((2 * a + 1 : Nat) : Int)) (k := l + ((F - 1 : Nat) : Int) + (t : Int)) (bits := (p : Int) + 1) (least := l) (by omega) (by omega)
    refine bits_frame (s' := s) (x9 := some (.int t)) (x10 := some (.int ((2 * a + 1 : Nat) : Int))) (x11 := some (.int (l + ((F - 1 : Nat) : Int) + (t : Int)))) hP hk0 hk1 c hF ?_ ?_
    · generalize hn : (if s = true then -((2 * a + 1 : Nat) : Int) else ((2 * a + 1 : Nat) : Int)) = n at *
      generalize ((2 ^ w : Nat) : Int) = Wd at *
      generalize l + ((F - 1 : Nat) : Int) + (t : Int) = k at *
      cases s <;> simp [bst, c_bits_of, exs, ex, ev, evs, gets, sto, stos, sets, bfn, bInt, bLen, items, ofB, truth, cmpop, eqh_int, eqh, eqv, isIn, anyEq, isFlat, sREAL, sNAN, sINF, sgn]
    · generalize hn : (if s = true then -((2 * a + 1 : Nat) : Int) else ((2 * a + 1 : Nat) : Int)) = n at *
      generalize ((2 * a + 1 : Nat) : Int) = o at *
      generalize l + ((F - 1 : Nat) : Int) + (t : Int) = k at *
      generalize ((mant p F fr : Nat) : Int) = M at *
      generalize ((2 ^ w : Nat) : Int) = Wd at *
      generalize (if s = true then (1 : Int) else 0) = sg at *
      simp only [sREAL] at tl
      by_cases hz : t = 0
      · have st1 : binop .shr (.int o) (.int (-(t : Int))) h = .ok (.int M) h := by
          have := st0 hz
          rw [hz]
          exact this
        have tp : ¬ 0 < t := by omega
        simp [bst, c_bits_of, exs, ex, ev, evs, gets, sto, stos, sets, bfn, bInt, bLen, items, ofB, truth, cmpop, eqh_int, eqh, eqv, isIn, anyEq, isFlat, sREAL, sNAN, sINF, tl, ab, r0, mtOk, bmt, hup, tp, st1, pl, sub_int]
      · have tp : 0 < t := by omega
        simp [bst, c_bits_of, exs, ex, ev, evs, gets, sto, stos, sets, bfn, bInt, bLen, items, ofB, truth, cmpop, eqh_int, eqh, eqv, isIn, anyEq, isFlat, sREAL, sNAN, sINF, tl, ab, r0, mtOk, bmt, hup, tp, st, pl, sub_int]
end
end Vl
set_option maxRecDepth 100000
set_option maxHeartbeats 4000000
namespace Vl
/-! ### digits -/
def digN : Nat → Nat → List Nat
  | 0, _ => []
  | s + 1, n => n % 256 :: digN s (n / 256)
def intW (l : List Nat) : List W := l.map fun (x : Nat) => W.int (x : Int)
theorem digN_len : ∀ (s n : Nat), (digN s n).length = s
  | 0, _ => rfl
  | s + 1, n => by show (digN s (n / 256)).length + 1 = s + 1; rw [digN_len s]
theorem digN_lt : ∀ (s n : Nat), ∀ x ∈ digN s n, x < 256
  | 0, _, x, h => by cases h
  | s + 1, n, x, h => by
    rcases List.mem_cons.mp h with e | e
    · rw [e]; exact Nat.mod_lt _ (by decide)
    · exact digN_lt s _ x e
theorem digN_val : ∀ (s n : Nat), n < 256 ^ s → (digN s n).foldr (fun d a => a * 256 + d) 0 = n
  | 0, n, h => by simp at h; subst h; rfl
  | s + 1, n, h => by
    show (digN s (n / 256)).foldr (fun d a => a * 256 + d) 0 * 256 + n % 256 = n
    rw [digN_val s (n / 256) (by rw [Nat.pow_succ] at h; omega)]
    omega
theorem app_set {h : L} {o o' : O} : (h ++ [o]).set h.length o' = h ++ [o'] := by simp
theorem append_end {h : L} {xs : List W} {y : W} (hl : xs.length < LINE) : mAppend h.length y (h ++ [.lst xs]) = .ok .non (h ++ [.lst (xs ++ [y])]) := by
  unfold mAppend
  rw [app_end]
  simp [hl]
theorem evi_rng {C : Orc} {kd : Kd} {es : Es} {σ : Env} {h h' : L} {m : Nat} (e : evs C kd es σ h = .ok [.int (m : Int)] h') (hm : m ≤ 1000000) : evi C kd (.rng1 es) σ h = .ok ⟨ranges 0 m, []⟩ h' := by
  rw [evi, e, R.bind_ok]
  exact (if_pos ⟨by omega, by omega⟩).trans rfl
section
variable {kd : Kd} {P : List Fn} {d g g0 g1 g2 g3 k0 k1 : Nat} {h : L}
def digB : Ss := match c_digits_of.body with
  | .cons _ (.cons (.for _ _ b) _) => b
  | _ => .nil
theorem digits_loop {C : Orc} {sz gr : W} : ∀ (m : Nat) (lo : Int) (n : Nat) (acc : List W) (x : Option W), acc.length + m < LINE →
    ∃ x' n', fors [] (fun x σ h => sto C kd (.nm 4) x σ h) (fun σ h => exs C kd digB σ h) (ranges lo m) [some (.int (n : Int)), some sz, some gr, some (.ref h.length), x] (h ++ [.lst acc])
      = .ok (.nx [some n', some sz, some gr, some (.ref h.length), x']) (h ++ [.lst (acc ++ intW (digN m n))]) := by
  have dv : ∀ (n : Nat) h, augop .fdiv (.int (n : Int)) (.int 256) h = .ok (.int ((n / 256 : Nat) : Int)) h := fun n h => by
    show (if (0 : Int) < 256 ∧ (256 : Int) < 1073741824 then R.ok (W.int ((n : Int) / 256)) h else R.stuck) = _
    rw [if_pos (by decide)]
    rfl
  have md : ∀ (n : Nat) h, binop .mod (.int (n : Int)) (.int 256) h = .ok (.int ((n % 256 : Nat) : Int)) h := fun n h => mod_ok (by decide)
  intro m
  induction m with
  | zero =>
    intro lo n acc x hl
    exact ⟨x, .int (n : Int), by simp [ranges, fors, heldB, digN, intW]⟩
  | succ m ih =>
    intro lo n acc x hl
    obtain ⟨x', n', e⟩ := ih (lo + 1) (n / 256) (acc ++ [.int ((n % 256 : Nat) : Int)]) (some (.int lo)) (by simp; omega)
    refine ⟨x', n', ?_⟩
    have hi : isLst (h ++ [O.lst acc]) h.length = true := by unfold isLst; rw [app_end]
    have ap := append_end (h := h) (xs := acc) (y := .int ((n % 256 : Nat) : Int)) (by omega)
    have e2 : acc ++ [W.int ((n % 256 : Nat) : Int)] ++ intW (digN m (n / 256)) = acc ++ intW (digN (m + 1) n) := by simp [digN, intW]
    rw [e2] at e
    rw [← e]
    have dv' := dv n
    have md' := md n
    generalize ((n % 256 : Nat) : Int) = q at *
    generalize ((n / 256 : Nat) : Int) = q' at *
    have hr : ranges lo (m + 1) = .int lo :: ranges (lo + 1) m := rfl
    rw [hr]
    simp only [fors]
    simp [heldB, sto, sets, digB, c_digits_of, exs, ex, ev, evs, gets, mtOk, hi, bmt, md', ap, dv']
theorem digits_ok (hP : P[g]? = some c_digits_of) (n m : Nat) (hm : m ≤ 1000) : ∃ h', call kd P (d + 1) g [.int (n : Int), .int (m : Int), .bl false] h = .ok (.tup (intW (digN m n))) h' ∧ Ap h h' := by
  obtain ⟨x', n', e⟩ := digits_loop (C := call kd P d) (kd := kd) (h := h) (sz := .int (m : Int)) (gr := .bl false) m 0 n [] none (by unfold LINE; simp; omega)
  refine ⟨h ++ [.lst (intW (digN m n))], ?_, Ap.app⟩
  rw [call_in hP rfl]
  have eb : c_digits_of.body = .cons (.asg (.nm 3) (.lst .nil)) (.cons (.for (.nm 4) (.rng1 (.cons (.var 1) .nil)) digB) (.cons (.ret (.ite (.var 2) (.bf .totup (.cons (.rev (.var 3)) .nil)) (.bf .totup (.cons (.var 3) .nil)))) .nil)) := rfl
  rw [eb]
  show fin (exs (call kd P d) kd _ [some (.int (n : Int)), some (.int (m : Int)), some (.bl false), none, none] h) = _
  refine (congrArg fin (exs_nx (σ' := [some (.int (n : Int)), some (.int (m : Int)), some (.bl false), some (.ref h.length), none]) (h' := h ++ [.lst []]) ?_)).trans ?_
  · simp [ex, ev, evs, sto, sets, alloc]
  have hev : evs (call kd P d) kd (.cons (.var 1) .nil) [some (.int (n : Int)), some (.int (m : Int)), some (.bl false), some (.ref h.length), none] (h ++ [.lst []]) = .ok [.int (m : Int)] (h ++ [.lst []]) := by simp [evs, ev, gets]
  refine (congrArg fin (exs_nx (σ' := [some n', some (.int (m : Int)), some (.bl false), some (.ref h.length), x']) (h' := h ++ [.lst (intW (digN m n))]) ?_)).trans ?_
  · rw [ex_for]
    rw [evi_rng hev (by omega), R.bind_ok, e]
    simp
  · have ae := app_end (h := h) (o := .lst (intW (digN m n)))
    simp [fin, exs, ex, ev, evs, gets, truth, bfn, bTup, bLst, ae, cfn]
def numF : Ss := match c_number_from.body with
  | .cons _ (.cons (.for _ _ b) _) => b
  | _ => .nil
theorem number_loop {C : Orc} {row gr : W} : ∀ (es : List Nat) (a : Nat) (x : Option W), (∀ e ∈ es, e < 256) → (a + 1) * 256 ^ es.length ≤ 2 ^ 68 →
    ∃ x', fors [] (fun x σ h => sto C kd (.nm 3) x σ h) (fun σ h => exs C kd numF σ h) (intW es) [some row, some gr, some (.int (a : Int)), x] h
      = .ok (.nx [some row, some gr, some (.int ((es.foldl (fun a d => a * 256 + d) a : Nat) : Int)), x']) h := by
  intro es
  induction es with
  | nil =>
    intro a x _ _
    exact ⟨x, by simp [intW, fors, heldB]⟩
  | cons e es ih =>
    intro a x hd hb
    have he := hd e List.mem_cons_self
    have hpos := Nat.pow_pos (n := es.length) (show 0 < 256 by decide)
    have hb2 : (a * 256 + e + 1) * 256 ^ es.length ≤ 2 ^ 68 := by
      refine Nat.le_trans ?_ hb
      rw [List.length_cons, Nat.pow_succ, Nat.mul_comm (256 ^ es.length) 256, ← Nat.mul_assoc]
      exact Nat.mul_le_mul_right _ (by omega)
    obtain ⟨x', q⟩ := ih (a * 256 + e) (some (.int (e : Int))) (fun y hy => hd y (List.mem_cons_of_mem _ hy)) hb2
    refine ⟨x', ?_⟩
    have ha : a < 2 ^ 68 := by
      have h1 : (a + 1) * 1 ≤ (a + 1) * 256 ^ (e :: es).length := Nat.mul_le_mul_left _ (Nat.pow_pos (by decide))
      omega
    have ml : binop .mul (.int (a : Int)) (.int 256) h = .ok (.int ((a : Int) * 256)) h := mul_ok (by rw [Int.natAbs_natCast]; omega) (by decide)
    have ec : ((a * 256 + e : Nat) : Int) = (a : Int) * 256 + (e : Int) := by rw [Int.natCast_add, Int.natCast_mul]; rfl
    rw [ec] at q
    rw [List.foldl_cons, ← q]
    have hr : intW (e :: es) = .int (e : Int) :: intW es := rfl
    rw [hr]
    simp only [fors]
    simp [heldB, sto, sets, numF, c_number_from, exs, ex, ev, gets, ml, add_int]
theorem number_ok (hP : P[g]? = some c_number_from) (ds : List Nat) (hd : ∀ e ∈ ds, e < 256) (hl : ds.length ≤ 8) :
    call kd P (d + 1) g [.tup (intW ds), .bl false] h = .ok (.int ((ds.foldr (fun d a => a * 256 + d) 0 : Nat) : Int)) h := by
  obtain ⟨x', e⟩ := number_loop (C := call kd P d) (kd := kd) (h := h) (row := .tup (intW ds)) (gr := .bl false) ds.reverse 0 none (fun e he => hd e (List.mem_reverse.mp he)) (by
    rw [List.length_reverse]
    have : 256 ^ ds.length ≤ 256 ^ 8 := Nat.pow_le_pow_right (by decide) hl
    omega)
  rw [List.foldl_reverse] at e
  rw [call_in hP rfl]
  have eb : c_number_from.body = .cons (.asg (.nm 2) (.cst (.int 0))) (.cons (.for (.nm 3) (.of (.ite (.var 1) (.var 0) (.rev (.var 0)))) numF) (.cons (.ret (.var 2)) .nil)) := rfl
  rw [eb]
  show fin (exs (call kd P d) kd _ [some (.tup (intW ds)), some (.bl false), none, none] h) = _
  have er : (intW ds).reverse = intW ds.reverse := by unfold intW; rw [List.map_reverse]
  refine (congrArg fin (exs_nx (σ' := [some (.tup (intW ds)), some (.bl false), some (.int 0), none]) (h' := h) ?_)).trans ?_
  · simp [ex, ev, sto, sets]
  refine (congrArg fin (exs_nx (σ' := [some (.tup (intW ds)), some (.bl false), some (.int ((ds.foldr (fun d a => a * 256 + d) 0 : Nat) : Int)), x']) (h' := h) ?_)).trans ?_
  · rw [ex_for]
    simp only [evi, ev, gets, R.bind_ok, R.calm_ok, truth, revv, srcOf, er]
    exact e
  · simp [fin, exs, ex, ev, gets]
end
end Vl
set_option maxRecDepth 100000
set_option maxHeartbeats 4000000
namespace Vl
section
variable {kd : Kd} {P : List Fn} {d g g0 g1 g2 g3 k0 k1 : Nat} {h : L}
theorem ranges_map (f : Nat → W) : ∀ (m lo : Nat), (ranges (lo : Int) m).map (fun x => match x with | .int i => f i.toNat | _ => .non) = (List.range m).map fun k => f (lo + k)
  | 0, lo => rfl
  | m + 1, lo => by
    have h1 : ranges (lo : Int) (m + 1) = .int (lo : Int) :: ranges ((lo + 1 : Nat) : Int) m := rfl
    rw [h1, List.map_cons, ranges_map f m (lo + 1), List.range_succ_eq_map, List.map_cons, List.map_map]
    simp only [Int.toNat_natCast, Nat.add_zero]
    congr 1
    apply List.map_congr_left
    intro a _
    show f (lo + 1 + a) = f (lo + (a + 1))
    congr 1
    omega
theorem digN_range : ∀ (s n : Nat), digN s n = (List.range s).map fun k => n / 2 ^ (8 * k) % 256
  | 0, n => rfl
  | s + 1, n => by
    show n % 256 :: digN s (n / 256) = _
    rw [digN_range s (n / 256), List.range_succ_eq_map, List.map_cons, List.map_map]
    congr 1
    · simp
    · apply List.map_congr_left
      intro a _
      show n / 256 / 2 ^ (8 * a) % 256 = n / 2 ^ (8 * (a + 1)) % 256
      have : 8 * (a + 1) = 8 + 8 * a := by omega
      rw [this, Nat.pow_add, Nat.div_div_eq_div_mul]
theorem ranges_mem : ∀ (m : Nat) (lo : Nat) (x : W), x ∈ ranges (lo : Int) m → ∃ k : Nat, x = .int (k : Int) ∧ k < lo + m
  | 0, _, _, h => by cases h
  | m + 1, lo, x, h => by
    have h1 : ranges (lo : Int) (m + 1) = .int (lo : Int) :: ranges ((lo + 1 : Nat) : Int) m := rfl
    rw [h1] at h
    rcases List.mem_cons.mp h with e | e
    · exact ⟨lo, e, by omega⟩
    · obtain ⟨k, e1, e2⟩ := ranges_mem m (lo + 1) x e
      exact ⟨k, e1, by omega⟩
theorem ranges_len : ∀ (m : Nat) (lo : Int), (ranges lo m).length = m
  | 0, _ => rfl
  | m + 1, lo => by show (ranges (lo + 1) m).length + 1 = m + 1; rw [ranges_len m]
/-- the law's own digits -/
theorem v_digits_ok (hP : P[g]? = some c_law_v_digits) (n m : Nat) (hm : m ≤ 100) : call kd P (d + 1) g [.int (n : Int), .int (m : Int), .bl false] h = .ok (.tup (intW (digN m n))) h := by
  have hev : evs (call kd P d) kd (.cons (.var 1) .nil) [some (.int (n : Int)), some (.int (m : Int)), some (.bl false), none, none] h = .ok [.int (m : Int)] h := by simp [evs, ev, gets]
  have er := evi_rng hev (by omega)
  have ht := turns_pure (held := []) (h := h) (f := cturn (call kd P d) kd [4] (.nm 4) .nil (.bin .mod (.bin .fdiv (.var 0) (.bin .shl (.cst (.int 1)) (.bin .mul (.cst (.int 8)) (.var 4)))) (.cst (.int 256))) [some (.int (n : Int)), some (.int (m : Int)), some (.bl false), none, none])
    (fun x => match x with | .int i => .int ((n / 2 ^ (8 * i.toNat) % 256 : Nat) : Int) | _ => .non) rfl (ranges 0 m) [] (fun x hx => by
      obtain ⟨k, rfl, hk⟩ := ranges_mem m 0 x hx
      have ml : binop .mul (.int 8) (.int (k : Int)) h = .ok (.int ((8 * k : Nat) : Int)) h := by
        rw [mul_ok (by decide) (by rw [Int.natAbs_natCast]; omega)]
        rw [Int.natCast_mul]; rfl
      have sh : binop .shl (.int 1) (.int ((8 * k : Nat) : Int)) h = .ok (.int ((2 ^ (8 * k) : Nat) : Int)) h := shl_nat (by omega)
      have hp := Nat.two_pow_pos (8 * k)
      have dv : binop .fdiv (.int (n : Int)) (.int ((2 ^ (8 * k) : Nat) : Int)) h = .ok (.int ((n / 2 ^ (8 * k) : Nat) : Int)) h := by
        rw [fdiv_ok (by omega) (by rw [Int.natAbs_natCast, Nat.log2_two_pow]; omega), Int.natCast_ediv]
      have md : binop .mod (.int ((n / 2 ^ (8 * k) : Nat) : Int)) (.int 256) h = .ok (.int ((n / 2 ^ (8 * k) % 256 : Nat) : Int)) h := by
        rw [mod_ok (by decide)]; rfl
      simp only [Int.toNat_natCast]
      generalize ((n / 2 ^ (8 * k) % 256 : Nat) : Int) = z1 at *
      generalize ((n / 2 ^ (8 * k) : Nat) : Int) = z2 at *
      generalize ((2 ^ (8 * k) : Nat) : Int) = z3 at *
      generalize ((8 * k : Nat) : Int) = z4 at *
      simp [cturn, wipes, sto, sets, evt, ev, gets, ml, sh, dv, md]) (by rw [ranges_len]; unfold LINE; simp; omega)
  have em : (ranges 0 m).map (fun x => match x with | .int i => W.int ((n / 2 ^ (8 * i.toNat) % 256 : Nat) : Int) | _ => .non) = intW (digN m n) := by
    have := ranges_map (fun k => W.int ((n / 2 ^ (8 * k) % 256 : Nat) : Int)) m 0
    have h0 : ((0 : Nat) : Int) = 0 := rfl
    rw [h0] at this
    rw [digN_range]
    unfold intW
    rw [List.map_map]
    refine Eq.trans ?_ (this.trans ?_)
    · rfl
    · apply List.map_congr_left
      intro a _
      simp
  rw [List.nil_append, em] at ht
  rw [call_in hP rfl]
  show fin (exs (call kd P d) kd _ [some (.int (n : Int)), some (.int (m : Int)), some (.bl false), none, none] h) = _
  simp [c_law_v_digits, fin, exs, ex, ev, evc_eq, er, ht, cfn, sto, sets, gets, truth]
end
end Vl
set_option maxRecDepth 100000
set_option maxHeartbeats 4000000
namespace Vl
/-! ### the law's sizes -/
theorem putK_len (kvs : List (List Nat × W)) (k : List Nat) (v : W) : (putK kvs k v).length ≤ kvs.length + 1 := by
  unfold putK
  split
  · simp
  · simp
def putS (v : W) (kvs : List (List Nat × W)) (s : List Nat) : List (List Nat × W) := s.foldl (fun kvs c => putK kvs [c] v) kvs
theorem putS_len (v : W) : ∀ (s : List Nat) (kvs : List (List Nat × W)), (putS v kvs s).length ≤ kvs.length + s.length
  | [], _ => Nat.le_refl _
  | c :: s, kvs => by
    have h1 := putS_len v s (putK kvs [c] v)
    have h2 := putK_len kvs [c] v
    show (putS v (putK kvs [c] v) s).length ≤ _
    rw [List.length_cons]
    omega
def putQ (kvs : List (List Nat × W)) (l : List (Int × List Nat)) : List (List Nat × W) := l.foldl (fun kvs q => putS (.int q.1) kvs q.2) kvs
section
variable {kd : Kd} {P : List Fn} {d g g0 g1 g2 g3 k0 k1 : Nat} {h : L}
theorem mid_get {h T : L} {o : O} : (h ++ o :: T)[h.length]? = some o := by simp
theorem mid_set {h T : L} {o o' : O} : (h ++ o :: T).set h.length o' = h ++ o' :: T := by simp
def szF : Ss := match c_law_v_sizes.body with
  | .cons _ (.cons _ (.cons (.for _ _ b) _)) => b
  | _ => .nil
def szB : Ss := match szF with
  | .cons (.for _ _ b) _ => b
  | _ => .nil
theorem sizes_in {C : Orc} {x0 x1 x2 x5 : Option W} {T : L} {v : W} : ∀ (s : List Nat) (kvs : List (List Nat × W)) (x6 : Option W), kvs.length + s.length < 1000 →
    ∃ x6', fors [] (fun x σ h => sto C kd (.nm 6) x σ h) (fun σ h => exs C kd szB σ h) (s.map fun c => .str [c]) [x0, x1, x2, some (.ref h.length), some v, x5, x6] (h ++ .dic kvs :: T)
      = .ok (.nx [x0, x1, x2, some (.ref h.length), some v, x5, x6']) (h ++ .dic (putS v kvs s) :: T) := by
  intro s
  induction s with
  | nil =>
    intro kvs x6 _
    exact ⟨x6, by simp [fors, heldB, putS]⟩
  | cons c s ih =>
    intro kvs x6 hl
    have h2 := putK_len kvs [c] v
    obtain ⟨x6', e⟩ := ih (putK kvs [c] v) (some (.str [c])) (by simp at hl; omega)
    refine ⟨x6', ?_⟩
    have pv : putv (.ref h.length) (.str [c]) v (h ++ .dic kvs :: T) = .ok () (h ++ .dic (putK kvs [c] v) :: T) := by
      simp only [putv, mid_get, mid_set]
      rw [if_pos (by simp at hl; omega)]
    rw [List.map_cons]
    simp only [fors]
    simp [heldB, sto, sets, szB, szF, c_law_v_sizes, exs, ex, ev, gets, pv] at e ⊢
    exact e
theorem sizes_out {C : Orc} {x0 x1 x2 : Option W} {T : L} {held : List (Nat × List W)} (hh : ∀ kvs, heldB (h ++ .dic kvs :: T) held = true) : ∀ (l : List (Int × List Nat)) (kvs : List (List Nat × W)) (x4 x5 x6 : Option W), kvs.length + (l.map fun q => q.2.length).sum < 1000 →
    ∃ x4' x5' x6', fors held (fun x σ h => sto C kd (.tp (.cons (.nm 4) (.cons (.nm 5) .nil))) x σ h) (fun σ h => exs C kd szF σ h) (l.map fun q => .tup [.int q.1, .str q.2]) [x0, x1, x2, some (.ref h.length), x4, x5, x6] (h ++ .dic kvs :: T)
      = .ok (.nx [x0, x1, x2, some (.ref h.length), x4', x5', x6']) (h ++ .dic (putQ kvs l) :: T) := by
  intro l
  induction l with
  | nil =>
    intro kvs x4 x5 x6 _
    exact ⟨x4, x5, x6, by simp [fors, hh, putQ]⟩
  | cons q l ih =>
    intro kvs x4 x5 x6 hl
    have h2 := putS_len (.int q.1) q.2 kvs
    simp only [List.map_cons, List.sum_cons] at hl
    obtain ⟨x6a, e1⟩ := sizes_in (C := C) (kd := kd) (h := h) (x0 := x0) (x1 := x1) (x2 := x2) (x5 := some (.str q.2)) (T := T) (v := .int q.1) q.2 kvs x6 (by omega)
    obtain ⟨x4', x5', x6', e2⟩ := ih (putS (.int q.1) kvs q.2) (some (.int q.1)) (some (.str q.2)) x6a (by omega)
    refine ⟨x4', x5', x6', ?_⟩
    rw [List.map_cons]
    have eb : szF = .cons (.for (.nm 6) (.of (.var 5)) szB) .nil := rfl
    simp only [fors, hh, if_true, sto, stos, sets, R.bind_ok, R.calm_ok]
    rw [eb] at e2 ⊢
    simp only [exs, ex_for, evi, ev, gets, R.bind_ok, R.calm_ok, srcOf]
    rw [e1]
    simp only [R.bind_ok, R.calm_ok]
    simp only [exs, ex_for, evi, ev, gets, R.bind_ok, R.calm_ok, srcOf] at e2
    exact e2
def szL : List (Int × List Nat) := [(1, [120, 99, 98, 66, 63, 115, 112]), (2, [104, 72, 101]), (4, [105, 73, 102]), (8, [113, 81, 100]), (8, [108, 76]), (8, [110, 78, 80])]
/-- the sizes of native codes -/
theorem v_sizes_at (hP : P[g]? = some c_law_v_sizes) : ∃ h', call kd P (d + 1) g [.str [64]] h = .ok (.ref h.length) h' ∧ Ap h h' ∧ h'[h.length]? = some (.dic (putQ [] szL)) := by
  let T : L := [.lst [.int 4, .int 8], .lst [.tup [.int 1, .str [120, 99, 98, 66, 63, 115, 112]], .tup [.int 2, .str [104, 72, 101]], .tup [.int 4, .str [105, 73, 102]], .tup [.int 8, .str [113, 81, 100]], .tup [.int 8, .str [108, 76]]],
    .lst [.tup [.int 8, .str [110, 78, 80]]], .lst [.tup [.int 8, .str [110, 78, 80]]], .lst (szL.map fun q => .tup [.int q.1, .str q.2])]
  have hT : ∀ kvs, heldB (h ++ .dic kvs :: T) [(h.length + 5, szL.map fun q => .tup [.int q.1, .str q.2])] = true := fun kvs => by
    have : (h ++ O.dic kvs :: T)[h.length + 5]? = some (.lst (szL.map fun q => .tup [.int q.1, .str q.2])) := by
      rw [List.getElem?_append_right (by omega)]
      have : h.length + 5 - h.length = 5 := by omega
      rw [this]
      rfl
    simp only [heldB, this, beqs_refl, Bool.and_true]
  obtain ⟨x4, x5, x6, e⟩ := sizes_out (C := call kd P d) (kd := kd) (h := h) (T := T) (x0 := some (.str [64])) (x1 := some (.ref (h.length + 2))) (x2 := some (.bl true)) hT szL [] none none none (by decide)
  refine ⟨h ++ .dic (putQ [] szL) :: T, ?_, Ap.app, mid_get⟩
  rw [call_in hP rfl]
  show fin (exs (call kd P d) kd (.cons _ (.cons _ (.cons (.for _ _ szF) (.cons _ .nil)))) [some (.str [64]), none, none, none, none, none, none] h) = _
  refine (congrArg fin (exs_nx (σ' := [some (.str [64]), none, some (.bl true), some (.ref h.length), none, none, none]) (h' := h ++ [.dic []]) ?_)).trans ?_
  · simp [ex, ev, evs, gets, cmpop, isIn, anyEq, isFlat, ofB, sto, stos, sets, alloc]
  refine (congrArg fin (exs_nx (σ' := [some (.str [64]), some (.ref (h.length + 2)), some (.bl true), some (.ref h.length), none, none, none]) (h' := h ++ .dic [] :: T.take 2) ?_)).trans ?_
  · have l1 : (h ++ [O.dic [], O.lst [.int 4, .int 8]])[h.length + 1]? = some (.lst [.int 4, .int 8]) := by simp [List.getElem?_append]
    have sb : subv kd (.ref (h.length + 1)) (.int 1) (h ++ [O.dic [], O.lst [.int 4, .int 8]]) = .ok (.int 8) (h ++ [O.dic [], O.lst [.int 4, .int 8]]) := by simp [subv, l1, atI, ixN]
    simp [ex, ev, evs, gets, sto, sets, alloc, bfn, bInt, sb, T]
  refine (congrArg fin (exs_nx (σ' := [some (.str [64]), some (.ref (h.length + 2)), some (.bl true), some (.ref h.length), x4, x5, x6]) (h' := h ++ .dic (putQ [] szL) :: T) ?_)).trans ?_
  · have l2 : (h ++ .dic [] :: T.take 2 ++ [O.lst [.tup [.int 8, .str [110, 78, 80]]]])[h.length + 3]? = some (.lst [.tup [.int 8, .str [110, 78, 80]]]) := by simp [List.getElem?_append, T]
    have l3 : (h ++ .dic [] :: T.take 4)[h.length + 2]? = some (.lst [.tup [.int 1, .str [120, 99, 98, 66, 63, 115, 112]], .tup [.int 2, .str [104, 72, 101]], .tup [.int 4, .str [105, 73, 102]], .tup [.int 8, .str [113, 81, 100]], .tup [.int 8, .str [108, 76]]]) := by simp [List.getElem?_append, T]
    have l4 : (h ++ .dic [] :: T.take 4)[h.length + 4]? = some (.lst [.tup [.int 8, .str [110, 78, 80]]]) := by simp [List.getElem?_append, T]
    have l5 : (h ++ .dic [] :: T)[h.length + 5]? = some (.lst (szL.map fun q => .tup [.int q.1, .str q.2])) := by simp [List.getElem?_append, T]
    have b1 : binop .mul (.ref (h.length + 3)) (.int 1) (h ++ .dic [] :: T.take 2 ++ [O.lst [.tup [.int 8, .str [110, 78, 80]]]]) = .ok (.ref (h.length + 4)) (h ++ .dic [] :: T.take 4) := by
      simp only [binop, l2]
      simp [alloc, T]
    have b2 : binop .add (.ref (h.length + 2)) (.ref (h.length + 4)) (h ++ .dic [] :: T.take 4) = .ok (.ref (h.length + 5)) (h ++ .dic [] :: T) := by
      simp only [binop, l3, l4]
      simp [alloc, T, szL]
    have al : alloc (.lst [.tup [.int 8, .str [110, 78, 80]]]) (h ++ .dic [] :: T.take 2) = .ok (.ref (h.length + 3)) (h ++ .dic [] :: T.take 2 ++ [O.lst [.tup [.int 8, .str [110, 78, 80]]]]) := by simp [alloc, T]
    rw [ex_for]
    simp only [evi, ev, evs, gets, R.bind_ok, R.calm_ok, List.length_cons, List.length_nil, Nat.zero_add, Nat.reduceAdd, le_LINE1, le_LINE2, if_true, al, bfn, bInt, b1, b2, srcOf, l5]
    exact e
  · simp [fin, exs, ex, ev, gets]
theorem v_sizes_ok (hP : P[g]? = some c_law_v_sizes) {cs : List Nat} {w : Nat} {p : Nat} {l bd : Int} (c : FC cs p w l bd) : ∃ h' r, call kd P (d + 1) g [.str [64]] h = .ok (.ref r) h' ∧ Ap h h' ∧ subv kd (.ref r) (.str cs) h' = .ok (.int (((p + w + 1) / 8 : Nat) : Int)) h' := by
  obtain ⟨h', e1, e2, e3⟩ := v_sizes_at (kd := kd) (d := d) (h := h) hP
  refine ⟨h', _, e1, e2, ?_⟩
  simp only [subv, e3]
  cases c <;> rfl
end
end Vl
set_option maxRecDepth 100000
set_option maxHeartbeats 4000000
namespace Vl
def tNATIVE : List (List Nat × W) := [([120], .int 1), ([99], .int 1), ([98], .int 1), ([66], .int 1), ([63], .int 1), ([104], .int 2), ([72], .int 2), ([105], .int 4), ([73], .int 4), ([108], .int 8), ([76], .int 8), ([113], .int 8), ([81], .int 8), ([110], .int 8), ([78], .int 8), ([80], .int 8), ([101], .int 2), ([102], .int 4), ([100], .int 8), ([115], .int 1), ([112], .int 1)]
section
variable {kd : Kd} {P : List Fn} {d g g0 g1 g2 g3 k0 k1 : Nat} {h : L} {cs : List Nat} {p w : Nat} {l bd : Int} {s : Bool} {F fr : Nat} {v : W}
/-- a native code of one sign that has items -/
theorem code_of_ok (hP : P[g]? = some (c_code_of k0)) (hk : kd[k0]? = some tNATIVE) {c : Nat} (h1 : c ≠ 64) (h2 : (lookK tNATIVE [c]).isSome = true) (h3 : c ≠ 120) (h4 : c ≠ 115) (h5 : c ≠ 112) : call kd P (d + 1) g [.str [c]] h = .ok (.str [c]) h := by
  rw [call_in hP rfl]
  show fin (exs (call kd P d) kd _ [some (.str [c]), none] h) = _
  have h1' : (c == 64) = false := by simp [h1]
  have h3' : (120 == c) = false := by simp [Ne.symm h3]
  have h4' : (115 == c) = false := by simp [Ne.symm h4]
  have h5' : (112 == c) = false := by simp [Ne.symm h5]
  simp [c_code_of, fin, exs, ex, ev, evs, gets, sto, sets, bfn, bIsi, isT, tyN, TN.is, ofB, truth, slcv, cut, sIx, cmpop, eqh_str, h1, h1', h3', h4', h5', isIn, hk, h2, anyEq, isFlat]
theorem native_code_ok (hP : P[g]? = some (c_native_code g0)) {x : List Nat} (hc : call kd P d g0 [.str x] h = .ok (.str x) h) : call kd P (d + 1) g [.str x] h = .ok (.str x) h := by
  rw [call_in hP rfl]
  show fin (exs (call kd P d) kd _ [some (.str x), none] h) = _
  simp [c_native_code, fin, exs, ex, ev, evs, gets, sto, sets, hc, cmpop, isv, ofB, truth]
theorem FC.code (c : FC cs p w l bd) (hP : P[g]? = some (c_code_of k0)) (hk : kd[k0]? = some tNATIVE) : call kd P (d + 1) g [.str cs] h = .ok (.str cs) h := by
  cases c <;> exact code_of_ok hP hk (by decide) (by rfl) (by decide) (by decide) (by decide)
theorem FC.native (c : FC cs p w l bd) (hk : kd[k0]? = some tNATIVE) : subv kd (.kd k0) (.str cs) h = .ok (.int (((p + w + 1) / 8 : Nat) : Int)) h := by
  simp only [subv, hk]
  cases c <;> rfl
end
end Vl
set_option maxRecDepth 100000
set_option maxHeartbeats 4000000
namespace Vl
section
variable {kd : Kd} {P : List Fn} {d g g0 g1 g2 g3 k0 k1 : Nat} {h : L} {cs : List Nat} {p w : Nat} {l bd : Int} {s : Bool} {F fr : Nat} {v : W}
theorem FC.in3 (c : FC cs p w l bd) : ([[101], [102], [100]] : List (List Nat)).any (· == cs) = true := by cases c <;> rfl
/-- int(byte) of every byte -/
theorem ints_turns {C : Orc} {σ : Env} {i : Nat} (hi : i < σ.length) (ds : List Nat) (hl : ds.length ≤ LINE) : turns [] (cturn C kd [i] (.nm i) .nil (.bf .toint (.cons (.var i) .nil)) σ) (intW ds) h [] = .ok (intW ds) h := by
  have gs : ∀ (σ : Env) (i : Nat) (v : W), i < σ.length → gets (sets σ i (some v)) i = some v := by
    intro σ
    induction σ with
    | nil => intro i v h; simp at h
    | cons x σ ih =>
      intro i v h
      cases i with
      | zero => rfl
      | succ i => exact ih i v (by simpa using h)
  have sl : ∀ (σ : Env) (i : Nat) (v : Option W), (sets σ i v).length = σ.length := by
    intro σ
    induction σ with
    | nil => intro i v; rfl
    | cons x σ ih =>
      intro i v
      cases i with
      | zero => rfl
      | succ i => exact congrArg Nat.succ (ih i v)
  rw [turns_pure (fun x => x) rfl (intW ds) [] (fun x hx => ?_) (by unfold intW; simp; exact hl)]
  · simp
  · unfold intW at hx
    obtain ⟨k, _, rfl⟩ := List.mem_map.mp hx
    have e := gs (sets σ i none) i (.int (k : Int)) (by rw [sl]; exact hi)
    simp [cturn, wipes, sto, evt, ev, evs, e, bfn, bInt]
theorem value_of_real (hP : P[g]? = some (c_value_of g0 g1)) (hn : P[g0]? = some c_number_from) (c : FC cs p w l bd) (ds : List Nat) (hd : ∀ e ∈ ds, e < 256) (hl : ds.length ≤ 8) {h' : L}
    (hr : call kd P (d + 1) g1 [.int ((ds.foldr (fun d a => a * 256 + d) 0 : Nat) : Int), .str cs] h = .ok v h') : call kd P (d + 2) g [.str cs, .tup (intW ds), .bl false] h = .ok v h' := by
  have hn' := number_ok (kd := kd) (d := d) (h := h) hn ds hd hl
  rw [call_in hP rfl]
  show fin (exs (call kd P (d + 1)) kd _ [some (.str cs), some (.tup (intW ds)), some (.bl false), none] h) = _
  generalize ((ds.foldr (fun d a => a * 256 + d) 0 : Nat) : Int) = z at *
  cases c <;> simp [c_value_of, fin, exs, ex, ev, evs, gets, sto, sets, cmpop, isIn, anyEq, isFlat, ofB, truth, eqh_str, hn', hr]
theorem read_item_ok (hP : P[g]? = some (c_read_item g0 g1)) (hv : call kd P d g0 [.str cs, v, .bl false] h = r) {ds : List Nat} (e : v = .tup (intW ds)) (hl : ds.length ≤ LINE) (hc : call kd P d g1 [.str cs] h = .ok (.str cs) h) :
    call kd P (d + 1) g [.str cs, .tup (intW ds)] h = r := by
  subst e
  have ht := ints_turns (C := call kd P d) (kd := kd) (h := h) (σ := [some (.str cs), some (.tup (intW ds)), none]) (i := 2) (by simp) ds hl
  rw [call_in hP rfl]
  show fin (exs (call kd P d) kd _ [some (.str cs), some (.tup (intW ds)), none] h) = _
  simp [c_read_item, fin, exs, ex, ev, evs, gets, hc, evc_eq, evi, srcOf, ht, cfn, hv]
  cases r <;> rfl
end
end Vl
set_option maxRecDepth 100000
set_option maxHeartbeats 4000000
namespace Vl
section
variable {kd : Kd} {P : List Fn} {d g g0 g1 g2 g3 k0 k1 : Nat} {h : L} {cs : List Nat} {p w : Nat} {l bd : Int} {s : Bool} {F fr : Nat} {v : W}
theorem float_fault_ok (hP : P[g]? = some (c_float_fault g0 g1 g2 g3)) (h1 : call kd P d g1 [v] h = .ok (.bl true) h) (h2 : call kd P d g2 [v] h = .ok v h) (h3 : call kd P d g3 [v, .str cs] h = .ok (.bl false) h) :
    call kd P (d + 1) g [.str cs, v] h = .ok .non h := by
  rw [call_in hP rfl]
  show fin (exs (call kd P d) kd _ [some (.str cs), some v, none] h) = _
  simp [c_float_fault, fin, exs, ex, ev, evs, gets, sto, sets, h1, h2, h3, truth]
theorem fault_of_real (hP : P[g]? = some (c_fault_of g0 g1 g2 g3)) (c : FC cs p w l bd) {x : W} (h1 : call kd P d g1 [.str cs, v] h = .ok .non h) : call kd P (d + 1) g [.str cs, x, v] h = .ok .non h := by
  rw [call_in hP rfl]
  show fin (exs (call kd P d) kd _ [some (.str cs), some x, some v, none, none] h) = _
  cases c <;> simp [c_fault_of, fin, exs, ex, ev, evs, gets, cmpop, eqh_str, isIn, anyEq, isFlat, ofB, truth, h1]
theorem bytes_of_real (hP : P[g]? = some (c_bytes_of_value g0 g1 g2 g3)) (c : FC cs p w l bd) {x : W} {h' : L} {n : Int} {r : W} (h2 : call kd P d g2 [v] h = .ok v h) (h1 : call kd P d g1 [v, .str cs] h = .ok (.int n) h)
    (h3 : call kd P d g3 [.int n, x, .bl false] h = .ok r h') : call kd P (d + 1) g [.str cs, x, v, .bl false] h = .ok r h' := by
  rw [call_in hP rfl]
  show fin (exs (call kd P d) kd _ [some (.str cs), some x, some v, some (.bl false), none, none] h) = _
  cases c <;> simp [c_bytes_of_value, fin, exs, ex, ev, evs, gets, sto, sets, cmpop, eqh_str, isIn, anyEq, isFlat, ofB, truth, h1, h2, h3]
theorem item_bytes_of (hP : P[g]? = some (c_item_bytes g0 g1 g2 k0)) (hk : kd[k0]? = some tNATIVE) (c : FC cs p w l bd) {h' : L} {r : W} (h0 : call kd P d g0 [.str cs] h = .ok (.str cs) h)
    (h1 : call kd P d g1 [.str cs, .int (((p + w + 1) / 8 : Nat) : Int), v] h = .ok .non h) (h2 : call kd P d g2 [.str cs, .int (((p + w + 1) / 8 : Nat) : Int), v, .bl false] h = .ok r h') :
    call kd P (d + 1) g [.str cs, v] h = .ok r h' := by
  have sn := c.native (h := h) hk
  generalize (((p + w + 1) / 8 : Nat) : Int) = z at *
  rw [call_in hP rfl]
  show fin (exs (call kd P d) kd _ [some (.str cs), some v, none, none] h) = _
  have e1 : ∀ x, eqh h .non (.str x) = some false ∨ ¬ (x.all fun c => decide (c < 1114112)) = true := fun x => by
    by_cases hx : (x.all fun c => decide (c < 1114112)) = true
    · left; simp [eqh, eqv, hx]
    · right; exact hx
  have e2 : eqh h .non (.str [107, 105, 110, 100]) = some false := by simp [eqh, eqv]
  have e3 : eqh h .non (.str [118, 97, 108, 117, 101]) = some false := by simp [eqh, eqv]
  have e4 : eqh h .non (.str [108, 97, 114, 103, 101]) = some false := by simp [eqh, eqv]
  simp [c_item_bytes, fin, exs, ex, ev, evs, gets, sto, sets, h0, sn, h1, cmpop, e2, e3, e4, ofB, truth, h2]
end
end Vl
set_option maxRecDepth 100000
set_option maxHeartbeats 4000000
namespace Vl
section
variable {kd : Kd} {P : List Fn} {d g : Nat} {h : L} {cs : List Nat} {p w : Nat} {l bd : Int} {s : Bool} {F fr : Nat} {v : W}
/-- what reads as nan, no more -/
theorem RealIs.nanD (hfr : fr < 2 ^ p) (hF : F < 2 ^ w) (R : RealIs p w l s F fr v) : eqh h v (.tup [.str sREAL, .str sNAN]) = some (decide (F = 2 ^ w - 1 ∧ 0 < fr)) := by
  have hw := Nat.two_pow_pos w
  cases R with
  | nan e1 e2 =>
    rw [decide_eq_true ⟨e1, e2⟩]
    simp [eqh, eqv, sREAL, sNAN]
  | inf e1 e2 =>
    rw [decide_eq_false (by omega)]
    cases s <;> simp [eqh, eqv, sREAL, sNAN, sINF]
  | zero e1 e2 =>
    rw [decide_eq_false (by omega)]
    cases s <;> simp [eqh, eqv, sREAL, sNAN]
  | num a t e1 e2 =>
    rw [decide_eq_false (by omega)]
    simp [eqh, eqv, sREAL, sNAN]
/-- a real is the same as itself -/
theorem RealIs.same (R : RealIs p w l s F fr v) : SameW 2 h v v := by
  have lf : ∀ x : W, leafW x = true → isD 60 x = true → SameW 1 h x x := fun x h1 h2 => by
    simp only [SameW]
    exact .inl ⟨h1, h2, trivial⟩
  have tp : ∀ xs : List W, xs.length ≤ LINE → (∀ x ∈ xs, leafW x = true ∧ isD 60 x = true) → SameW 2 h (.tup xs) (.tup xs) := fun xs hl hx => by
    have sl : ∀ xs : List W, (∀ x ∈ xs, leafW x = true ∧ isD 60 x = true) → SameL 1 h xs xs := by
      intro xs
      induction xs with
      | nil => intro _; simp only [SameL]
      | cons x xs ih =>
        intro hx
        simp only [SameL]
        obtain ⟨a, b⟩ := hx x List.mem_cons_self
        exact ⟨lf x a b, ih fun y hy => hx y (List.mem_cons_of_mem _ hy)⟩
    have := sl xs hx
    simp only [SameW]
    exact .inr (.inl ⟨xs, xs, rfl, rfl, hl, this⟩)
  cases R with
  | nan e1 e2 => exact tp _ (by simp) (by simp [leafW, sREAL, sNAN])
  | inf e1 e2 => exact tp _ (by simp) (by cases s <;> simp [leafW, sREAL, sINF])
  | zero e1 e2 => cases s with
    | true => exact tp _ (by simp) (by simp [leafW, sREAL])
    | false => exact tp _ (by simp) (by simp [leafW, sREAL])
  | num a t e1 e2 => exact tp _ (by simp) (by simp [leafW, sREAL])
theorem same_ints (l : List Nat) (hl : l.length ≤ LINE) : SameW 2 h (.tup (intW l)) (.tup (intW l)) := by
  have sl : ∀ l : List Nat, SameL 1 h (intW l) (intW l) := by
    intro l
    induction l with
    | nil => simp only [intW, List.map_nil, SameL]
    | cons x l ih =>
      show SameL 1 h (.int (x : Int) :: intW l) (.int (x : Int) :: intW l)
      simp only [SameL]
      refine ⟨?_, ih⟩
      simp only [SameW]
      exact .inl ⟨rfl, rfl, trivial⟩
  have := sl l
  simp only [SameW]
  exact .inr (.inl ⟨_, _, rfl, rfl, by unfold intW; simpa using hl, this⟩)
end
end Vl
set_option maxRecDepth 100000
set_option maxHeartbeats 4000000
namespace Vl
section
variable {kd : Kd} {P : List Fn} {d : Nat} {h : L} {cs : List Nat} {p w : Nat} {l bd : Int} {s : Bool} {F fr : Nat} {v : W}
theorem FC.pw (c : FC cs p w l bd) : (p + w + 1) % 8 = 0 ∧ (p + w + 1) / 8 ≤ 8 := by cases c <;> decide
theorem numB_lt (hF : F < 2 ^ w) (hfr : fr < 2 ^ p) : numB p w s F fr < 2 ^ (p + w + 1) := by
  unfold numB
  have h1 : s.toNat ≤ 1 := by cases s <;> decide
  have e : 2 ^ (p + w + 1) = (2 * 2 ^ w) * 2 ^ p := by rw [Nat.pow_succ, Nat.pow_add]; simp only [Nat.mul_comm, Nat.mul_left_comm]
  rw [e]
  have h2 : s.toNat * 2 ^ w + F + 1 ≤ 2 * 2 ^ w := by
    have : s.toNat * 2 ^ w ≤ 1 * 2 ^ w := Nat.mul_le_mul_right _ h1
    omega
  have h3 : (s.toNat * 2 ^ w + F + 1) * 2 ^ p ≤ 2 * 2 ^ w * 2 ^ p := Nat.mul_le_mul_right _ h2
  rw [Nat.add_mul, Nat.one_mul] at h3
  omega
theorem pow256 (c : FC cs p w l bd) : 2 ^ (p + w + 1) = 256 ^ ((p + w + 1) / 8) := by
  have := (c.pw).1
  have e : p + w + 1 = 8 * ((p + w + 1) / 8) := by omega
  rw [show (256 : Nat) = 2 ^ 8 from rfl, ← Nat.pow_mul, ← e]
/-- a real's bytes are read -/
theorem read_real {gri gva gna gco gnu grb gas kN kF kW : Nat} (h1 : P[gri]? = some (c_read_item gva gna)) (h2 : P[gva]? = some (c_value_of gnu grb)) (h3 : P[gna]? = some (c_native_code gco)) (h4 : P[gco]? = some (c_code_of kN)) (h5 : P[gnu]? = some c_number_from) (h6 : P[grb]? = some (c_real_from_bits gas kF kW)) (h7 : P[gas]? = some c_as_real)
    (k1 : kd[kN]? = some tNATIVE) (k2 : kd[kF]? = some tFLOATS) (k3 : kd[kW]? = some tWIDTHS) (c : FC cs p w l bd) (hF : F < 2 ^ w) (hfr : fr < 2 ^ p) (R : RealIs p w l s F fr v) :
    ∃ h', call kd P (d + 6) gri [.str cs, .tup (intW (digN ((p + w + 1) / 8) (numB p w s F fr)))] h = .ok v h' ∧ Ap h h' := by
  obtain ⟨v', h', e, rfl, a⟩ := real_from_bits_ok (kd := kd) (d := d + 2) (h := h) h6 h7 k2 k3 c hF hfr R
  refine ⟨h', ?_, a⟩
  have hl := (c.pw).2
  have hv := value_of_real (kd := kd) (d := d + 3) (h := h) (h' := h') h2 h5 c (digN ((p + w + 1) / 8) (numB p w s F fr)) (digN_lt _ _) (by rw [digN_len]; exact hl) (by rw [digN_val _ _ (by rw [← pow256 c]; exact numB_lt hF hfr)]; exact e)
  exact read_item_ok h1 hv rfl (by rw [digN_len]; unfold LINE; omega) (native_code_ok h3 (c.code h4 k1))
/-- a real is written -/
theorem write_real {gib gna gfa gbv gco gff gi gre gro gtl gbo gdi gfd ga gb gx gy gz gpl gas kN kF kW : Nat} (h1 : P[gib]? = some (c_item_bytes gna gfa gbv kN)) (h2 : P[gna]? = some (c_native_code gco)) (h3 : P[gco]? = some (c_code_of kN)) (h4 : P[gfa]? = some (c_fault_of ga gff gi gb)) (h5 : P[gff]? = some (c_float_fault gi gre gro gtl))
    (h6 : P[gbv]? = some (c_bytes_of_value gx gbo gro gdi)) (h7 : P[gre]? = some (c_is_real gfd gi)) (h8 : P[gi]? = some c_is_integer) (h9 : P[gfd]? = some c_fits_double) (h10 : P[gro]? = some (c_real_of gre gi gy gas)) (h11 : P[gtl]? = some (c_is_too_large gz kF)) (h12 : P[gz]? = some c_rounded)
    (h13 : P[gbo]? = some (c_bits_of gtl gz gpl kF kW)) (h14 : P[gpl]? = some c_placed) (h15 : P[gdi]? = some c_digits_of) (k1 : kd[kN]? = some tNATIVE) (k2 : kd[kF]? = some tFLOATS) (k3 : kd[kW]? = some tWIDTHS)
    (c : FC cs p w l bd) (hF : F < 2 ^ w) (hfr : fr < 2 ^ p) (R : RealIs p w l s F fr v) :
    ∃ h', call kd P (d + 8) gib [.str cs, v] h = .ok (.tup (intW (digN ((p + w + 1) / 8) (numB p w (backS w s F fr) F (backF p w F fr))))) h' ∧ Ap h h' := by
  obtain ⟨h', e, a⟩ := digits_ok (kd := kd) (d := d + 5) (h := h) h15 (numB p w (backS w s F fr) F (backF p w F fr)) ((p + w + 1) / 8) (by have := (c.pw).2; omega)
  refine ⟨h', ?_, a⟩
  have ir : ∀ k, call kd P (k + 2) gre [v] h = .ok (.bl true) h := fun k => is_real_ok (d := k) h7 h9 h8 c hfr R
  have ro : ∀ k, call kd P (k + 3) gro [v] h = .ok v h := fun k => real_of_ok (d := k + 1) h10 (ir k)
  have tl : ∀ k, call kd P (k + 2) gtl [v, .str cs] h = .ok (.bl false) h := fun k => too_large_ok (d := k) h11 h12 k2 c hfr R
  have bo : ∀ k, call kd P (k + 3) gbo [v, .str cs] h = .ok (.int (numB p w (backS w s F fr) F (backF p w F fr) : Nat)) h := fun k => bits_of_ok (d := k) h13 h11 h12 h14 k2 k3 c hF hfr R
  refine item_bytes_of (d := d + 7) h1 k1 c (native_code_ok (d := d + 6) h2 (c.code (d := d + 5) h3 k1)) (fault_of_real (d := d + 6) h4 c (float_fault_ok (d := d + 5) h5 (ir (d + 3)) (ro (d + 2)) (tl (d + 3)))) (bytes_of_real (d := d + 6) h6 c (ro (d + 3)) (bo (d + 3)) e)
end
end Vl
set_option maxRecDepth 100000
set_option maxHeartbeats 4000000
namespace Vl
def irS (g0 g1 g2 g3 g4 g5 g6 g7 : Nat) : Nat → S := fun n => match n, (c_law_is_right g0 g1 g2 g3 g4 g5 g6 g7).body with
  | 0, .cons s _ => s
  | 1, .cons _ (.cons s _) => s
  | 2, .cons _ (.cons _ (.cons s _)) => s
  | 3, .cons _ (.cons _ (.cons _ (.cons s _))) => s
  | 4, .cons _ (.cons _ (.cons _ (.cons _ (.cons s _)))) => s
  | 5, .cons _ (.cons _ (.cons _ (.cons _ (.cons _ (.cons s _))))) => s
  | _, .cons _ (.cons _ (.cons _ (.cons _ (.cons _ (.cons _ (.cons s _)))))) => s
  | _, _ => .pass
section
variable {kd : Kd} {P : List Fn} {d g g0 g1 g2 g3 g4 g5 g6 g7 ga gf : Nat} {h : L} {cs : List Nat} {p w : Nat} {l bd : Int} {s : Bool} {F fr : Nat} {v : W}
theorem is_right_ok (hP : P[g]? = some (c_law_is_right g0 g1 g2 g3 g4 g5 g6 g7)) (h0 : P[g0]? = some c_law_v_sizes) (h1 : P[g1]? = some (c_law_v_real g6 ga gf)) (ha : P[ga]? = some (c_law_v_at g6)) (hf : P[gf]? = some c_law_v_form)
    (h2 : P[g2]? = some c_law_v_digits) (h5 : P[g5]? = some (c_law_same g5)) (h6 : P[g6]? = some c_law_v_float) (c : FC cs p w l bd) (hF : F < 2 ^ w) (hfr : fr < 2 ^ p) (R : RealIs p w l s F fr v)
    (hr : ∀ h, ∃ h', call kd P (d + 8) g3 [.str cs, .tup (intW (digN ((p + w + 1) / 8) (numB p w s F fr)))] h = .ok v h' ∧ Ap h h') (hi : ∀ h, call kd P (d + 8) g4 [v] h = .ok (.bl true) h)
    (hw : ∀ h, ∃ h', call kd P (d + 8) g7 [.str cs, v] h = .ok (.tup (intW (digN ((p + w + 1) / 8) (numB p w (backS w s F fr) F (backF p w F fr))))) h' ∧ Ap h h') :
    ∃ h', call kd P (d + 9) g [.str cs, .int (numB p w s F fr : Nat)] h = .ok (.bl true) h' ∧ Ap h h' := by
  obtain ⟨c1, c2, c3, c4, c5, c6, c7, c8, c9⟩ := c.small
  have hz8 := (c.pw).2
  have hp2 := Nat.two_pow_pos p
  have hw2 := Nat.two_pow_pos w
  obtain ⟨ha1, r, e1, a1, e1'⟩ := v_sizes_ok (kd := kd) (d := d + 7) (h := h) h0 c
  obtain ⟨v2, ha2, e2, rfl, a2⟩ := v_real_ok (kd := kd) (d := d + 5) (h := ha1) h1 h6 ha hf c hF hfr R
  obtain ⟨ha3, e3, a3⟩ := hr ha2
  obtain ⟨ha4, e4, a4⟩ := v_float_ok (kd := kd) (d := d + 7) (h := ha3) h6 c
  obtain ⟨ha5, e5, a5⟩ := hw ha4
  have vd : ∀ n h, call kd P (d + 8) g2 [.int ((n : Nat) : Int), .int (((p + w + 1) / 8 : Nat) : Int), .bl false] h = .ok (.tup (intW (digN ((p + w + 1) / 8) n))) h := fun n h => v_digits_ok (d := d + 7) h2 n _ (by omega)
  have sm1 : ∀ h, call kd P (d + 8) g5 [v2, v2] h = .ok (.bl true) h := fun h => same_ok h5 2 R.same (d + 8) (by omega)
  have sm2 : ∀ n h, call kd P (d + 8) g5 [.tup (intW (digN ((p + w + 1) / 8) n)), .tup (intW (digN ((p + w + 1) / 8) n))] h = .ok (.bl true) h := fun n h => same_ok h5 2 (same_ints _ (by rw [digN_len]; unfold LINE; omega)) (d + 8) (by omega)
  have nn : ∀ h, eqh h v2 (.tup [.str [114, 101, 97, 108], .str [110, 97, 110]]) = some (decide (F = 2 ^ w - 1 ∧ 0 < fr)) := fun h => R.nanD hfr hF
  refine ⟨ha5, ?_, (((a1.trans a2).trans a3).trans a4).trans a5⟩
  have sw : ∀ h, binop .shl (.int 1) (.int (w : Int)) h = .ok (.int ((2 ^ w : Nat) : Int)) h := fun h => shl_nat (by omega)
  have w64 : 2 ^ w ≤ 2 ^ 11 := Nat.pow_le_pow_right (by decide) c4
  have w64' : 2 ^ w ≤ 2048 := w64
  have sq : ∀ h, binop .shl (.int (((2 ^ w : Nat) : Int) - 1)) (.int (p : Int)) h = .ok (.int ((((2 ^ w : Nat) : Int) - 1) * ((2 ^ p : Nat) : Int))) h := fun h => shl_w c2 (by omega)
  have ep : (p : Int) + 1 - 2 = ((p - 1 : Nat) : Int) := by omega
  have s3 : ∀ h, binop .shl (.int 1) (.int ((p - 1 : Nat) : Int)) h = .ok (.int ((2 ^ (p - 1) : Nat) : Int)) h := fun h => shl_nat (by omega)
  have enan : (((2 ^ w : Nat) : Int) - 1) * ((2 ^ p : Nat) : Int) + ((2 ^ (p - 1) : Nat) : Int) = ((numB p w false (2 ^ w - 1) (2 ^ (p - 1)) : Nat) : Int) := by
    rw [numB_int]
    have : ((2 ^ w - 1 : Nat) : Int) = ((2 ^ w : Nat) : Int) - 1 := by omega
    rw [this]
    simp
  have vn := vd (numB p w false (2 ^ w - 1) (2 ^ (p - 1))) ha4
  rw [← enan] at vn
  have vm := vd (numB p w s F fr) ha1
  have res : (if F = 2 ^ w - 1 ∧ 0 < fr then numB p w false (2 ^ w - 1) (2 ^ (p - 1)) else numB p w s F fr) = numB p w (backS w s F fr) F (backF p w F fr) := by
    unfold backS backF
    split
    · rename_i hh; rw [hh.1]
    · rfl
  generalize ((numB p w s F fr : Nat) : Int) = N at *
  generalize (((p + w + 1) / 8 : Nat) : Int) = Z at *
  rw [call_in hP rfl]
  have eb : (c_law_is_right g0 g1 g2 g3 g4 g5 g6 g7).body = .cons (irS g0 g1 g2 g3 g4 g5 g6 g7 0) (.cons (irS g0 g1 g2 g3 g4 g5 g6 g7 1) (.cons (irS g0 g1 g2 g3 g4 g5 g6 g7 2) (.cons (irS g0 g1 g2 g3 g4 g5 g6 g7 3) (.cons (irS g0 g1 g2 g3 g4 g5 g6 g7 4) (.cons (irS g0 g1 g2 g3 g4 g5 g6 g7 5) (.cons (irS g0 g1 g2 g3 g4 g5 g6 g7 6) .nil)))))) := rfl
  rw [eb]
  show fin (exs (call kd P (d + 8)) kd _ (some (.str cs) :: some (.int N) :: List.replicate 8 none) h) = _
  refine (congrArg fin (exs_nx (σ' := [some (.str cs), some (.int N), some (.int Z), none, none, none, none, none, none, none]) (h' := ha1) ?_)).trans ?_
  · simp [irS, c_law_is_right, ex, ev, evs, gets, sto, sets, e1, e1']
  refine (congrArg fin (exs_nx (σ' := [some (.str cs), some (.int N), some (.int Z), none, none, some (.tup (intW (digN ((p + w + 1) / 8) (numB p w s F fr)))), some v2, none, none, none]) (h' := ha2) ?_)).trans ?_
  · simp [irS, c_law_is_right, ex, ev, evs, gets, sto, stos, sets, vm, e2]
  refine (congrArg fin (exs_nx (σ' := [some (.str cs), some (.int N), some (.int Z), some v2, none, some (.tup (intW (digN ((p + w + 1) / 8) (numB p w s F fr)))), some v2, none, none, none]) (h' := ha3) ?_)).trans ?_
  · simp [irS, c_law_is_right, ex, ev, evs, gets, sto, stos, sets, e3]
  refine (congrArg fin (exs_nx (σ' := [some (.str cs), some (.int N), some (.int Z), some v2, none, some (.tup (intW (digN ((p + w + 1) / 8) (numB p w s F fr)))), some v2, none, none, none]) (h' := ha3) ?_)).trans ?_
  · simp [irS, c_law_is_right, exs, ex, ev, evs, gets, sm1, hi, truth, cmpop, isv, ofB]
  refine (congrArg fin (exs_nx (σ' := [some (.str cs), some (.int N), some (.int Z), some v2, none, some (.tup (intW (digN ((p + w + 1) / 8) (numB p w s F fr)))), some v2, some (.int ((p : Int) + 1)), some (.int l), some (.int (w : Int))]) (h' := ha4) ?_)).trans ?_
  · simp [irS, c_law_is_right, ex, ev, evs, gets, sto, stos, sets, e4]
  refine (congrArg fin (exs_nx (σ' := [some (.str cs), some (.int N), some (.int Z), some v2, some (.tup (intW (digN ((p + w + 1) / 8) (numB p w false (2 ^ w - 1) (2 ^ (p - 1)))))), some (.tup (intW (digN ((p + w + 1) / 8) (numB p w s F fr)))), some v2, some (.int ((p : Int) + 1)), some (.int l), some (.int (w : Int))]) (h' := ha4) ?_)).trans ?_
  · generalize ((2 ^ w : Nat) : Int) = Wd at *
    generalize ((2 ^ p : Nat) : Int) = Q at *
    generalize ((2 ^ (p - 1) : Nat) : Int) = Q1 at *
    simp [irS, c_law_is_right, ex, ev, evs, gets, sto, stos, sets, sw, sq, s3, ep, sub_int, add_int, vn]
  · have q := sm2 (numB p w (backS w s F fr) F (backF p w F fr)) ha5
    have nn5 := nn ha5
    rw [← res] at q e5
    by_cases hh : F = 2 ^ w - 1 ∧ 0 < fr
    · rw [if_pos hh] at q e5
      rw [decide_eq_true hh] at nn5
      generalize intW (digN ((p + w + 1) / 8) (numB p w false (2 ^ w - 1) (2 ^ (p - 1)))) = A at *
      generalize intW (digN ((p + w + 1) / 8) (numB p w s F fr)) = B at *
      simp [irS, c_law_is_right, fin, exs, ex, ev, evs, gets, e5, cmpop, nn5, ofB, truth, q]
    · rw [if_neg hh] at q e5
      rw [decide_eq_false hh] at nn5
      generalize intW (digN ((p + w + 1) / 8) (numB p w false (2 ^ w - 1) (2 ^ (p - 1)))) = A at *
      generalize intW (digN ((p + w + 1) / 8) (numB p w s F fr)) = B at *
      simp [irS, c_law_is_right, fin, exs, ex, ev, evs, gets, e5, cmpop, nn5, ofB, truth, q]
end
end Vl
set_option maxRecDepth 100000
set_option maxHeartbeats 4000000
namespace Vl
/-- turns with an invariant -/
theorem turns_inv {f : W → L → R (Option W)} {Q : W → Prop} (I : Nat → L → Prop) : ∀ (items acc : List W) (i : Nat) (h : L), I i h → (∀ (j : Nat) (x : W), items[j]? = some x → ∀ h, I (i + j) h → ∃ y h', f x h = .ok (some y) h' ∧ I (i + j + 1) h' ∧ Q y) → acc.length + items.length ≤ LINE →
    ∃ ys h', turns [] f items h acc = .ok (acc ++ ys) h' ∧ I (i + items.length) h' ∧ ys.length = items.length ∧ ∀ y ∈ ys, Q y
  | [], acc, i, h, hi, _, _ => ⟨[], h, by simp [turns, heldB], by simpa using hi, rfl, by simp⟩
  | x :: xs, acc, i, h, hi, hf, hl => by
    obtain ⟨y, h1, e1, i1, q1⟩ := hf 0 x rfl h hi
    obtain ⟨ys, h2, e2, i2, l2, q2⟩ := turns_inv I xs (acc ++ [y]) (i + 1) h1 i1 (fun j z hz h hI => by
      have := hf (j + 1) z (by simpa using hz) h (by rw [show i + (j + 1) = i + 1 + j by omega]; exact hI)
      rw [show i + (j + 1) + 1 = i + 1 + j + 1 by omega] at this
      exact this) (by simp at hl ⊢; omega)
    refine ⟨y :: ys, h2, ?_, ?_, by simp [l2], ?_⟩
    · simp only [turns, heldB, if_true, e1, R.bind_ok, R.calm_ok]
      rw [if_pos (by simp at hl; omega), e2]
      simp
    · have : i + (x :: xs).length = i + 1 + xs.length := by simp; omega
      rw [this]
      exact i2
    · intro z hz
      rcases List.mem_cons.mp hz with e | e
      · rw [e]; exact q1
      · exact q2 z e
/-- a for with an invariant -/
theorem fors_inv {g : W → Env → L → R Env} {b : Env → L → R F} (I : Nat → Env → L → Prop) : ∀ (items : List W) (i : Nat) (σ : Env) (h : L), I i σ h → (∀ (j : Nat) (x : W), items[j]? = some x → ∀ σ h, I (i + j) σ h → ∃ σ1 h1 σ' h', g x σ h = .ok σ1 h1 ∧ b σ1 h1 = .ok (.nx σ') h' ∧ I (i + j + 1) σ' h') →
    ∃ σ' h', fors [] g b items σ h = .ok (.nx σ') h' ∧ I (i + items.length) σ' h'
  | [], i, σ, h, hi, _ => ⟨σ, h, by simp [fors, heldB], by simpa using hi⟩
  | x :: xs, i, σ, h, hi, hf => by
    obtain ⟨σ1, h1, σ2, h2, e1, e2, i2⟩ := hf 0 x rfl σ h hi
    obtain ⟨σ3, h3, e3, i3⟩ := fors_inv I xs (i + 1) σ2 h2 i2 (fun j z hz σ h hI => by
      have := hf (j + 1) z (by simpa using hz) σ h (by rw [show i + (j + 1) = i + 1 + j by omega]; exact hI)
      rw [show i + (j + 1) + 1 = i + 1 + j + 1 by omega] at this
      exact this)
    refine ⟨σ3, h3, ?_, ?_⟩
    · simp only [fors, heldB, if_true, e1, R.bind_ok, R.calm_ok, e2, e3]
    · have : i + (x :: xs).length = i + 1 + xs.length := by simp; omega
      rw [this]
      exact i3
theorem ranges_at : ∀ (n i : Nat) (lo : Int), i < n → (ranges lo n)[i]? = some (.int (lo + i))
  | 0, _, _, h => by omega
  | n + 1, 0, lo, _ => by simp [ranges]
  | n + 1, i + 1, lo, h => by
    show (ranges (lo + 1) n)[i]? = _
    rw [ranges_at n i (lo + 1) (by omega)]
    congr 2
    omega
/-- all of truths -/
theorem cfn_all {ys : List W} {h : L} (hy : ∀ y ∈ ys, y = .bl true) : cfn .all ys h = .ok (.bl true) h := by
  have e : boolsW ys = some (ys.map fun _ => true) := by
    induction ys with
    | nil => rfl
    | cons y ys ih =>
      rw [hy y List.mem_cons_self]
      show (boolsW ys).map (true :: ·) = _
      rw [ih fun z hz => hy z (List.mem_cons_of_mem _ hz)]
      rfl
  simp [cfn, e]
theorem cfn_sum {ys : List W} {h : L} (hy : ∀ y ∈ ys, ∃ i : Int, y = .int i) : ∃ i : Int, cfn .sum ys h = .ok (.int i) h := by
  have e : ∃ l, intsW ys = some l := by
    induction ys with
    | nil => exact ⟨[], rfl⟩
    | cons y ys ih =>
      obtain ⟨i, rfl⟩ := hy y List.mem_cons_self
      obtain ⟨l, el⟩ := ih fun z hz => hy z (List.mem_cons_of_mem _ hz)
      refine ⟨i :: l, ?_⟩
      show (intsW ys).map (i :: ·) = _
      rw [el]
      rfl
  obtain ⟨l, el⟩ := e
  exact ⟨l.sum, by simp [cfn, el]⟩
theorem Strm.grow {h h' : L} {r q n : Nat} (S : Strm h r q n) (a : Ap h h') : Strm h' r q n ∧ Grow r q h h' := ⟨S.ap a, a.grow⟩
section
variable {kd : Kd} {P : List Fn} {d g g0 : Nat} {h : L} {r q n : Nat}
/-- a great number that is drawn -/
theorem great_ok (hP : P[g]? = some (c_law_v_great g0)) (hD : P[g0]? = some c_law_draw) (S : Strm h r q n) (hn : n ≤ 900000) {m : Int} (hm : 0 < m) :
    Ok (call kd P (d + 2) g [.ref r, .int m] h) fun v h' => ∃ x : Int, v = .int x ∧ 0 ≤ x ∧ x < m ∧ Strm h' r q (n + 8) ∧ Grow r q h h' := by
  have hev : evs (call kd P (d + 1)) kd (.cons (.cst (.int 8)) .nil) [some (.ref r), some (.int m), none] h = .ok [.int ((8 : Nat) : Int)] h := by simp [evs, ev]
  have er := evi_rng hev (by omega)
  obtain ⟨ys, h', e, ⟨S', G'⟩, ly, hy⟩ := turns_inv (Q := fun y => ∃ i : Int, y = .int i) (f := cturn (call kd P (d + 1)) kd [2] (.nm 2) .nil (.bin .shl (.call g0 (.cons (.var 0) (.cons (.cst (.int 65536)) .nil))) (.bin .mul (.cst (.int 16)) (.var 2))) [some (.ref r), some (.int m), none])
    (fun j h' => Strm h' r q (n + j) ∧ Grow r q h h') (ranges 0 8) [] 0 h ⟨by simpa using S, Grow.refl⟩ (fun j x hx h1 ⟨S1, G1⟩ => by
      have hj : j < 8 := by
        have := (List.getElem?_eq_some_iff.mp hx).1
        rw [ranges_len] at this
        exact this
      rw [ranges_at 8 j 0 hj] at hx
      cases hx
      obtain ⟨v, h2, e, y, rfl, y0, y1, S2, G2⟩ := draw_ok (kd := kd) (d := d) hD S1 (m := 65536) (by omega) (by decide) (by decide)
      have m1 : binop .mul (.int 16) (.int (j : Int)) h2 = .ok (.int (16 * (j : Int))) h2 := mul_ok (by decide) (by omega)
      have ib := ibits_le (x := y) (n := 16) (by omega)
      have s1 : binop .shl (.int y) (.int (16 * (j : Int))) h2 = .ok (.int (y * 2 ^ (16 * (j : Int)).toNat)) h2 := by
        show (if 0 ≤ 16 * (j : Int) ∧ (ibits y : Int) + 16 * (j : Int) ≤ 134217728 then _ else _) = _
        rw [if_pos (by omega)]
      refine ⟨.int (y * 2 ^ (16 * (j : Int)).toNat), h2, ?_, ⟨by rw [show n + (0 + j + 1) = n + (0 + j) + 1 by omega]; exact S2, G1.trans G2⟩, ⟨_, rfl⟩⟩
      · simp [cturn, wipes, sto, sets, evt, ev, evs, gets, e, m1, s1]) (by decide)
  obtain ⟨i, ei⟩ := cfn_sum (h := h') hy
  refine ⟨.int (i % m), h', ?_, i % m, rfl, Int.emod_nonneg _ (by omega), Int.emod_lt_of_pos _ hm, by rw [ranges_len] at S'; simpa using S', G'⟩
  rw [List.nil_append] at e
  rw [call_in hP rfl]
  show fin (exs (call kd P (d + 1)) kd _ [some (.ref r), some (.int m), none] h) = _
  have er' : evi (call kd P (d + 1)) kd (.rng1 (.cons (.cst (.int 8)) .nil)) [some (.ref r), some (.int m), none] h = .ok ⟨ranges 0 8, []⟩ h := er
  simp [c_law_v_great, fin, exs, ex, ev, evc_eq, er', e, ei, gets, mod_ok hm]
end
end Vl
set_option maxRecDepth 100000
set_option maxHeartbeats 4000000
namespace Vl
/-! ### the machine's equations, one by one: what follows a part is kept apart until the part has its value -/
section
variable (C : Orc) (kd : Kd)
def varK (o : Option W) (h : L) : R W := match o with
  | some v => .ok v h
  | none => .stuck
def binK2 (o : BOp) (x y : W) (h : L) : R W := binop o x y h
def binK (o : BOp) (b : E) (σ : Env) (x : W) (h : L) : R W := (ev C kd b σ h).bind (binK2 o x)
def negK (x : W) (h : L) : R W := match x with
  | .int i => .ok (.int (-i)) h
  | _ => .stuck
def notK (x : W) (h : L) : R W := match truth x h with
  | some b => .ok (.bl (!b)) h
  | none => .stuck
def andK (b : E) (σ : Env) (x : W) (h : L) : R W := match truth x h with
  | some true => ev C kd b σ h
  | some false => .ok x h
  | none => .stuck
def orK (b : E) (σ : Env) (x : W) (h : L) : R W := match truth x h with
  | some true => .ok x h
  | some false => ev C kd b σ h
  | none => .stuck
def cmpK2 (o : COp) (x y : W) (h : L) : R W := cmpop kd o x y h
def cmpK (o : COp) (b : E) (σ : Env) (x : W) (h : L) : R W := (ev C kd b σ h).bind (cmpK2 kd o x)
def cmp2K3 (o' : COp) (c : E) (σ : Env) (y z : W) (h : L) : R W := match z with
  | .bl true => (ev C kd c σ h).bind (cmpK2 kd o' y)
  | .bl false => .ok (.bl false) h
  | _ => .stuck
def cmp2K2 (o o' : COp) (c : E) (σ : Env) (x y : W) (h : L) : R W := (cmpop kd o x y h).bind (cmp2K3 C kd o' c σ y)
def cmp2K (o o' : COp) (b c : E) (σ : Env) (x : W) (h : L) : R W := (ev C kd b σ h).bind (cmp2K2 C kd o o' c σ x)
def iteK (a b : E) (σ : Env) (x : W) (h : L) : R W := match truth x h with
  | some true => ev C kd a σ h
  | some false => ev C kd b σ h
  | none => .stuck
def tupF (xs : List W) (h : L) : R W := if xs.length ≤ LINE then .ok (.tup xs) h else .stuck
def lstF (xs : List W) (h : L) : R W := if xs.length ≤ LINE then alloc (.lst xs) h else .stuck
def dicF (ks : List (List Nat)) (xs : List W) (h : L) : R W := if ks.length = xs.length ∧ xs.length ≤ 1000 then alloc (.dic ((ks.zip xs).foldl (fun kvs p => putK kvs p.1 p.2) [])) h else .stuck
def subK2 (x y : W) (h : L) : R W := subv kd x y h
def subK (i : E) (σ : Env) (x : W) (h : L) : R W := (ev C kd i σ h).bind (subK2 kd x)
def slcK3 (x y z : W) (h : L) : R W := slcv x y z h
def slcK2 (hi : E) (σ : Env) (x y : W) (h : L) : R W := (ev C kd hi σ h).bind (slcK3 x y)
def slcK (lo hi : E) (σ : Env) (x : W) (h : L) : R W := (ev C kd lo σ h).bind (slcK2 C kd hi σ x)
def callK (g : Nat) (xs : List W) (h : L) : R W := C g xs h
def bfK (f : BF) (xs : List W) (h : L) : R W := bfn kd f xs h
def mtK2 (m : MT) (x : W) (xs : List W) (h : L) : R W := bmt m x xs h
def mtK (m : MT) (es : Es) (σ : Env) (x : W) (h : L) : R W := if mtOk m x h then (evs C kd es σ h).bind (mtK2 m x) else .stuck
def lcF (xs : List W) (h : L) : R W := alloc (.lst xs) h
def cfK (f : BF) (xs : List W) (h : L) : R W := cfn f xs h
def idxK (x : W) (h : L) : R W := match x with
  | .int i => .ok (.int i) h
  | _ => .stuck
def consK2 (x : W) (xs : List W) (h : L) : R (List W) := .ok (x :: xs) h
def consK (es : Es) (σ : Env) (x : W) (h : L) : R (List W) := (evs C kd es σ h).bind (consK2 x)
def srcK (x : W) (h : L) : R Src := match srcOf h x with
  | some s => .ok s h
  | none => .stuck
def rng1K (xs : List W) (h : L) : R Src := match xs with
  | [.int n] => if -(2 ^ 62) ≤ n ∧ n < 2 ^ 62 then .ok ⟨ranges 0 n.toNat, []⟩ h else .stuck
  | _ => .stuck
def rng2K (xs : List W) (h : L) : R Src := match xs with
  | [.int a, .int b] => if -(2 ^ 62) ≤ a ∧ a < 2 ^ 62 ∧ -(2 ^ 62) ≤ b ∧ b < 2 ^ 62 then .ok ⟨ranges a (b - a).toNat, []⟩ h else .stuck
  | _ => .stuck
def zipK (xs : List W) (h : L) : R Src := match xs with
  | [x, y] => match zipS h x y with
    | some s => .ok s h
    | none => .stuck
  | _ => .stuck
def enumK (x : W) (h : L) : R Src := match x with
  | .ref r => match h[r]? with
    | some (.lst xs) => .ok ⟨enums 0 xs, [(r, xs)]⟩ h
    | _ => .stuck
  | _ => .stuck
def tpK (ts : Ts) (v : W) (σ : Env) (h : L) : R Env := match v with
  | .tup xs => stos C kd ts xs σ h
  | .ref r => match h[r]? with
    | some (.lst xs) => stos C kd ts xs σ h
    | _ => .stuck
  | _ => .stuck
def unK (σ : Env) (_ : Unit) (h : L) : R Env := .ok σ h
def sbK2 (v : W) (σ : Env) (x y : W) (h : L) : R Env := (putv x y v h).bind (unK σ)
def sbK (i : E) (v : W) (σ : Env) (x : W) (h : L) : R Env := (ev C kd i σ h).bind (sbK2 v σ x)
def stoK (ts : Ts) (xs : List W) (σ : Env) (h : L) : R Env := stos C kd ts xs σ h
def evtK (es : Es) (σ : Env) (x : W) (h : L) : R Bool := match truth x h with
  | some true => evt C kd es σ h
  | some false => .ok false h
  | none => .stuck
def evcK (own : List Nat) (t : T) (cs : Es) (ca : E) (ε : Env) (s : Src) (h : L) : R (List W) := turns s.held (cturn C kd own t cs ca ε) s.items h []
def nxK (σ : Env) (h : L) : R F := .ok (.nx σ) h
def asgK (t : T) (σ : Env) (x : W) (h : L) : R F := (sto C kd t x σ h).calm.bind nxK
def augK3 (i : Nat) (σ : Env) (z : W) (h : L) : R F := .ok (.nx (sets σ i (some z))) h
def augK2 (i : Nat) (o : BOp) (σ : Env) (x y : W) (h : L) : R F := (augop o x y h).bind (augK3 i σ)
def augK (i : Nat) (o : BOp) (e : E) (σ : Env) (v : Option W) (h : L) : R F := match v with
  | some x => (ev C kd e σ h).bind (augK2 i o σ x)
  | none => .stuck
def ifeK (a b : Ss) (σ : Env) (x : W) (h : L) : R F := match truth x h with
  | some true => exs C kd a σ h
  | some false => exs C kd b σ h
  | none => .stuck
def forG (t : T) (x : W) (σ : Env) (h : L) : R Env := sto C kd t x σ h
def forK (t : T) (b : Ss) (σ : Env) (s : Src) (h : L) : R F := fors s.held (forG C kd t) (exs C kd b) s.items σ h
def retK (x : W) (h : L) : R F := .ok (.rt x) h
def dropK (σ : Env) (_ : W) (h : L) : R F := .ok (.nx σ) h
/-- what follows a statement -/
def contR (ss : Ss) (f : F) (h : L) : R F := match f with
  | .nx σ => exs C kd ss σ h
  | .rt v => .ok (.rt v) h
  | .bk σ => .ok (.bk σ) h
  | .ct σ => .ok (.ct σ) h
/-- the outermost block, run by hand -/
def runs (ss : Ss) (σ : Env) (h : L) : R F := exs C kd ss σ h
def contX (ss : Ss) (f : F) (h : L) : R F := match f with
  | .nx σ => runs C kd ss σ h
  | .rt v => .ok (.rt v) h
  | .bk σ => .ok (.bk σ) h
  | .ct σ => .ok (.ct σ) h
def tstK (x : W) (h : L) : R Bool := match truth x h with
  | some k => .ok k h
  | none => .stuck
/-- a while's test -/
def tstE (c : E) (σ : Env) (h : L) : R Bool := (ev C kd c σ h).bind tstK
end
section
variable {C : Orc} {kd : Kd} {σ : Env} {h : L} {a b c e i lo hi : E} {es : Es} {x y z v w : W} {o : BOp} {p p' : COp} {xs : List W}
theorem q_cst : ev C kd (.cst w) σ h = .ok w h := (rfl)
theorem q_var {i : Nat} : ev C kd (.var i) σ h = varK (gets σ i) h := (rfl)
theorem q_varK : varK (some v) h = .ok v h := (rfl)
theorem q_bin : ev C kd (.bin o a b) σ h = (ev C kd a σ h).bind (binK C kd o b σ) := (rfl)
theorem q_binK : binK C kd o b σ x h = (ev C kd b σ h).bind (binK2 o x) := (rfl)
theorem q_binK2 : binK2 o x y h = binop o x y h := (rfl)
theorem q_neg : ev C kd (.neg a) σ h = (ev C kd a σ h).bind negK := (rfl)
theorem q_negK {j : Int} : negK (.int j) h = .ok (.int (-j)) h := (rfl)
theorem q_not : ev C kd (.not a) σ h = (ev C kd a σ h).bind notK := (rfl)
theorem q_notK {k : Bool} : notK (.bl k) h = .ok (.bl (!k)) h := (rfl)
theorem q_notK' {k : Bool} (t : truth x h = some k) : notK x h = .ok (.bl (!k)) h := by simp only [notK, t]
theorem q_and : ev C kd (.and a b) σ h = (ev C kd a σ h).bind (andK C kd b σ) := (rfl)
theorem q_andK_t : andK C kd b σ (.bl true) h = ev C kd b σ h := (rfl)
theorem q_andK_f : andK C kd b σ (.bl false) h = .ok (.bl false) h := (rfl)
theorem q_or : ev C kd (.or a b) σ h = (ev C kd a σ h).bind (orK C kd b σ) := (rfl)
theorem q_orK_t : orK C kd b σ (.bl true) h = .ok (.bl true) h := (rfl)
theorem q_orK_f : orK C kd b σ (.bl false) h = ev C kd b σ h := (rfl)
theorem q_cmp : ev C kd (.cmp p a b) σ h = (ev C kd a σ h).bind (cmpK C kd p b σ) := (rfl)
theorem q_cmpK : cmpK C kd p b σ x h = (ev C kd b σ h).bind (cmpK2 kd p x) := (rfl)
theorem q_cmpK2 : cmpK2 kd p x y h = cmpop kd p x y h := (rfl)
theorem q_cmp2 : ev C kd (.cmp2 p p' a b c) σ h = (ev C kd a σ h).bind (cmp2K C kd p p' b c σ) := by
  simp only [ev]
  congr 1
theorem q_cmp2K : cmp2K C kd p p' b c σ x h = (ev C kd b σ h).bind (cmp2K2 C kd p p' c σ x) := (rfl)
theorem q_cmp2K2 : cmp2K2 C kd p p' c σ x y h = (cmpop kd p x y h).bind (cmp2K3 C kd p' c σ y) := (rfl)
theorem q_cmp2K3_t : cmp2K3 C kd p' c σ y (.bl true) h = (ev C kd c σ h).bind (cmpK2 kd p' y) := (rfl)
theorem q_cmp2K3_f : cmp2K3 C kd p' c σ y (.bl false) h = .ok (.bl false) h := (rfl)
theorem q_ite : ev C kd (.ite c a b) σ h = (ev C kd c σ h).bind (iteK C kd a b σ) := (rfl)
theorem q_iteK_t : iteK C kd a b σ (.bl true) h = ev C kd a σ h := (rfl)
theorem q_iteK_f : iteK C kd a b σ (.bl false) h = ev C kd b σ h := (rfl)
theorem q_tup : ev C kd (.tup es) σ h = (evs C kd es σ h).bind tupF := (rfl)
theorem q_lst : ev C kd (.lst es) σ h = (evs C kd es σ h).bind lstF := (rfl)
theorem q_dic {ks : List (List Nat)} : ev C kd (.dic ks es) σ h = (evs C kd es σ h).bind (dicF ks) := (rfl)
theorem q_sub : ev C kd (.sub a i) σ h = (ev C kd a σ h).bind (subK C kd i σ) := (rfl)
theorem q_subK : subK C kd i σ x h = (ev C kd i σ h).bind (subK2 kd x) := (rfl)
theorem q_subK2 : subK2 kd x y h = subv kd x y h := (rfl)
theorem q_slc : ev C kd (.slc a lo hi) σ h = (ev C kd a σ h).bind (slcK C kd lo hi σ) := (rfl)
theorem q_slcK : slcK C kd lo hi σ x h = (ev C kd lo σ h).bind (slcK2 C kd hi σ x) := (rfl)
theorem q_slcK2 : slcK2 C kd hi σ x y h = (ev C kd hi σ h).bind (slcK3 x y) := (rfl)
theorem q_slcK3 : slcK3 x y z h = slcv x y z h := (rfl)
theorem q_rev : ev C kd (.rev a) σ h = (ev C kd a σ h).bind revv := (rfl)
theorem q_call {g : Nat} : ev C kd (.call g es) σ h = (evs C kd es σ h).bind (callK C g) := (rfl)
theorem q_callK {g : Nat} : callK C g xs h = C g xs h := (rfl)
theorem q_bf {f : BF} : ev C kd (.bf f es) σ h = (evs C kd es σ h).bind (bfK kd f) := (rfl)
theorem q_bfK {f : BF} : bfK kd f xs h = bfn kd f xs h := (rfl)
theorem q_mt {m : MT} : ev C kd (.mt m a es) σ h = (ev C kd a σ h).bind (mtK C kd m es σ) := (rfl)
theorem q_mtK {m : MT} (t : mtOk m x h = true) : mtK C kd m es σ x h = (evs C kd es σ h).bind (mtK2 m x) := if_pos t
theorem q_mtK2 {m : MT} : mtK2 m x xs h = bmt m x xs h := (rfl)
theorem q_mt_int {j : Int} : mtK C kd .bits es σ (.int j) h = (evs C kd es σ h).bind (mtK2 .bits (.int j)) := (rfl)
theorem q_lc {cp : Cp} : ev C kd (.lc cp) σ h = (evc C kd cp σ h).bind lcF := (rfl)
theorem q_lcF : lcF xs h = .ok (.ref h.length) (h ++ [.lst xs]) := (rfl)
theorem q_bfc {f : BF} {cp : Cp} : ev C kd (.bfc f cp) σ h = (evc C kd cp σ h).bind (cfK f) := (rfl)
theorem q_cfK {f : BF} : cfK f xs h = cfn f xs h := (rfl)
theorem q_idx : ev C kd (.idx a) σ h = (ev C kd a σ h).bind idxK := (rfl)
theorem q_idxK {j : Int} : idxK (.int j) h = .ok (.int j) h := (rfl)
theorem q_nil : evs C kd .nil σ h = .ok [] h := (rfl)
theorem q_cons : evs C kd (.cons e es) σ h = (ev C kd e σ h).bind (consK C kd es σ) := (rfl)
theorem q_consK : consK C kd es σ x h = (evs C kd es σ h).bind (consK2 x) := (rfl)
theorem q_consK2 : consK2 x xs h = .ok (x :: xs) h := (rfl)
theorem q_of : evi C kd (.of e) σ h = (ev C kd e σ h).bind srcK := (rfl)
theorem q_srcK_tup : srcK (.tup xs) h = .ok ⟨xs, []⟩ h := (rfl)
theorem q_srcK_str {s : List Nat} : srcK (.str s) h = .ok ⟨s.map fun c => .str [c], []⟩ h := (rfl)
theorem q_srcK_ref {r : Nat} (t : h[r]? = some (.lst xs)) : srcK (.ref r) h = .ok ⟨xs, [(r, xs)]⟩ h := by simp only [srcK, srcOf, t]
theorem q_rng1 : evi C kd (.rng1 es) σ h = (evs C kd es σ h).bind rng1K := by
  simp only [evi]
  congr 1
theorem rng_if {α : Type} {n : Int} {a b : α} (h0 : -1000000 ≤ n) (h1 : n ≤ 1000000) : (if -(2 ^ 62) ≤ n ∧ n < 2 ^ 62 then a else b) = a := if_pos ⟨by omega, by omega⟩
theorem q_rng1Ki {j : Int} (h0 : 0 ≤ j) (hm : j ≤ 1000000) : rng1K [.int j] h = .ok ⟨ranges 0 j.toNat, []⟩ h := rng_if (by omega) hm
theorem q_rng1K {m : Nat} (hm : m ≤ 1000000) : rng1K [.int (m : Int)] h = .ok ⟨ranges 0 m, []⟩ h := by
  rw [q_rng1Ki (by omega) (by omega), Int.toNat_natCast]
theorem q_rng2 : evi C kd (.rng2 es) σ h = (evs C kd es σ h).bind rng2K := by
  simp only [evi]
  congr 1
theorem q_rng2K {j k : Int} (h0 : -1000000 ≤ j) (hm : j ≤ 1000000) (h1 : -1000000 ≤ k) (hk : k ≤ 1000000) : rng2K [.int j, .int k] h = .ok ⟨ranges j (k - j).toNat, []⟩ h := by
  refine Eq.trans (if_pos ?_) rfl
  refine ⟨?_, ?_, ?_, ?_⟩ <;> omega
theorem q_zip : evi C kd (.zip es) σ h = (evs C kd es σ h).bind zipK := by
  simp only [evi]
  congr 1
theorem q_zipK_tup {ys : List W} : zipK [.tup xs, .tup ys] h = .ok ⟨zips xs ys, []⟩ h := (rfl)
theorem q_zipK_ref {r q : Nat} {ys : List W} (t : h[r]? = some (.lst xs)) (t' : h[q]? = some (.lst ys)) : zipK [.ref r, .ref q] h = .ok ⟨zips xs ys, [(r, xs), (q, ys)]⟩ h := by simp only [zipK, zipS, t, t']
theorem q_enum : evi C kd (.enum e) σ h = (ev C kd e σ h).bind enumK := (rfl)
theorem q_enumK {r : Nat} (t : h[r]? = some (.lst xs)) : enumK (.ref r) h = .ok ⟨enums 0 xs, [(r, xs)]⟩ h := by simp only [enumK, t]
theorem q_nm {i : Nat} : sto C kd (.nm i) v σ h = .ok (sets σ i (some v)) h := (rfl)
theorem q_tp {ts : Ts} : sto C kd (.tp ts) v σ h = tpK C kd ts v σ h := by cases v <;> rfl
theorem q_tpK {ts : Ts} : tpK C kd ts (.tup xs) σ h = stos C kd ts xs σ h := (rfl)
theorem q_tpK_ref {ts : Ts} {r : Nat} (t : h[r]? = some (.lst xs)) : tpK C kd ts (.ref r) σ h = stos C kd ts xs σ h := by simp only [tpK, t]
theorem q_sb : sto C kd (.sb a i) v σ h = (ev C kd a σ h).bind (sbK C kd i v σ) := (rfl)
theorem q_sbK : sbK C kd i v σ x h = (ev C kd i σ h).bind (sbK2 v σ x) := (rfl)
theorem q_sbK2 : sbK2 v σ x y h = (putv x y v h).bind (unK σ) := (rfl)
theorem q_unK {u : Unit} : unK σ u h = .ok σ h := (rfl)
theorem q_snil : stos C kd .nil [] σ h = .ok σ h := (rfl)
theorem q_scons {t : T} {ts : Ts} : stos C kd (.cons t ts) (x :: xs) σ h = (sto C kd t x σ h).bind (stoK C kd ts xs) := (rfl)
theorem q_stoK {ts : Ts} : stoK C kd ts xs σ h = stos C kd ts xs σ h := (rfl)
theorem q_tnil : evt C kd .nil σ h = .ok true h := (rfl)
theorem q_tcons : evt C kd (.cons e es) σ h = (ev C kd e σ h).bind (evtK C kd es σ) := (rfl)
theorem q_evtK_t : evtK C kd es σ (.bl true) h = evt C kd es σ h := (rfl)
theorem q_evtK_f : evtK C kd es σ (.bl false) h = .ok false h := (rfl)
theorem q_mk {own : List Nat} {t : T} {it : It} {cs : Es} : evc C kd (.mk own t it cs a) σ h = (evi C kd it σ h).bind (evcK C kd own t cs a σ) := evc_eq
theorem q_evcK {own : List Nat} {t : T} {cs : Es} {s : Src} : evcK C kd own t cs a σ s h = turns s.held (cturn C kd own t cs a σ) s.items h [] := (rfl)
/-! statements -/
variable {ss sa sb : Ss} {s : S} {t : T} {it : It}
theorem q_asg : ex C kd (.asg t e) σ h = (ev C kd e σ h).bind (asgK C kd t σ) := (rfl)
theorem q_asgK : asgK C kd t σ x h = (sto C kd t x σ h).calm.bind nxK := (rfl)
theorem q_nxK : nxK σ h = .ok (.nx σ) h := (rfl)
theorem q_aug {i : Nat} : ex C kd (.aug i o e) σ h = augK C kd i o e σ (gets σ i) h := by
  simp only [ex, augK]
  cases gets σ i <;> rfl
theorem q_augK {i : Nat} : augK C kd i o e σ (some x) h = (ev C kd e σ h).bind (augK2 i o σ x) := (rfl)
theorem q_augK2 {i : Nat} : augK2 i o σ x y h = (augop o x y h).bind (augK3 i σ) := (rfl)
theorem q_augK3 {i : Nat} : augK3 i σ z h = .ok (.nx (sets σ i (some z))) h := (rfl)
theorem q_ife : ex C kd (.ife c sa sb) σ h = (ev C kd c σ h).bind (ifeK C kd sa sb σ) := (rfl)
theorem q_ifeK_t : ifeK C kd sa sb σ (.bl true) h = exs C kd sa σ h := (rfl)
theorem q_ifeK_f : ifeK C kd sa sb σ (.bl false) h = exs C kd sb σ h := (rfl)
theorem q_whl : ex C kd (.whl c sa) σ h = whiles (tstE C kd c) (exs C kd sa) FUEL σ h := (rfl)
theorem q_for : ex C kd (.for t it sa) σ h = (evi C kd it σ h).bind (forK C kd t sa σ) := (rfl)
theorem q_forK {r : Src} : forK C kd t sa σ r h = fors r.held (forG C kd t) (exs C kd sa) r.items σ h := (rfl)
theorem q_forG : forG C kd t x σ h = sto C kd t x σ h := (rfl)
theorem q_ret : ex C kd (.ret e) σ h = (ev C kd e σ h).bind retK := (rfl)
theorem q_retK : retK x h = .ok (.rt x) h := (rfl)
theorem q_retn : ex C kd .retn σ h = .ok (.rt .non) h := (rfl)
theorem q_expr : ex C kd (.expr e) σ h = (ev C kd e σ h).bind (dropK σ) := (rfl)
theorem q_dropK : dropK σ x h = .ok (.nx σ) h := (rfl)
theorem q_pass : ex C kd .pass σ h = .ok (.nx σ) h := (rfl)
theorem q_brk : ex C kd .brk σ h = .ok (.bk σ) h := (rfl)
theorem q_cont : ex C kd .cont σ h = .ok (.ct σ) h := (rfl)
theorem q_try : ex C kd (.try sa) σ h = (exs C kd sa σ h).calm := (rfl)
theorem q_xnil : exs C kd .nil σ h = .ok (.nx σ) h := (rfl)
theorem q_xcons : exs C kd (.cons s ss) σ h = (ex C kd s σ h).bind (contR C kd ss) := (rfl)
theorem q_nx : contR C kd ss (.nx σ) h = exs C kd ss σ h := (rfl)
theorem q_rt : contR C kd ss (.rt v) h = .ok (.rt v) h := (rfl)
theorem q_bk : contR C kd ss (.bk σ) h = .ok (.bk σ) h := (rfl)
theorem q_ct : contR C kd ss (.ct σ) h = .ok (.ct σ) h := (rfl)
theorem run_nil : runs C kd .nil σ h = .ok (.nx σ) h := (rfl)
theorem run_cons : runs C kd (.cons s ss) σ h = (ex C kd s σ h).bind (contX C kd ss) := (rfl)
theorem run_nx : contX C kd ss (.nx σ) h = runs C kd ss σ h := (rfl)
theorem run_rt : contX C kd ss (.rt v) h = .ok (.rt v) h := (rfl)
theorem run_bk : contX C kd ss (.bk σ) h = .ok (.bk σ) h := (rfl)
theorem run_ct : contX C kd ss (.ct σ) h = .ok (.ct σ) h := (rfl)
theorem q_tst : tstE C kd c σ h = (ev C kd c σ h).bind tstK := (rfl)
theorem q_tstK {k : Bool} : tstK (.bl k) h = .ok k h := (rfl)
theorem q_fin_rt : fin (.ok (.rt v) h) = .ok v h := (rfl)
theorem q_fin_nx : fin (.ok (.nx σ) h) = .ok .non h := (rfl)
/-! displays -/
theorem q_t0 : tupF [] h = .ok (.tup []) h := if_pos (show 0 ≤ LINE by decide)
theorem q_l0 : lstF [] h = .ok (.ref h.length) (h ++ [.lst []]) := if_pos (show 0 ≤ LINE by decide)
theorem q_t1 {a0 : W} : tupF [a0] h = .ok (.tup [a0]) h := if_pos (show 1 ≤ LINE by decide)
theorem q_l1 {a0 : W} : lstF [a0] h = .ok (.ref h.length) (h ++ [.lst [a0]]) := if_pos (show 1 ≤ LINE by decide)
theorem q_t2 {a0 a1 : W} : tupF [a0, a1] h = .ok (.tup [a0, a1]) h := if_pos (show 2 ≤ LINE by decide)
theorem q_l2 {a0 a1 : W} : lstF [a0, a1] h = .ok (.ref h.length) (h ++ [.lst [a0, a1]]) := if_pos (show 2 ≤ LINE by decide)
theorem q_t3 {a0 a1 a2 : W} : tupF [a0, a1, a2] h = .ok (.tup [a0, a1, a2]) h := if_pos (show 3 ≤ LINE by decide)
theorem q_l3 {a0 a1 a2 : W} : lstF [a0, a1, a2] h = .ok (.ref h.length) (h ++ [.lst [a0, a1, a2]]) := if_pos (show 3 ≤ LINE by decide)
theorem q_t4 {a0 a1 a2 a3 : W} : tupF [a0, a1, a2, a3] h = .ok (.tup [a0, a1, a2, a3]) h := if_pos (show 4 ≤ LINE by decide)
theorem q_l4 {a0 a1 a2 a3 : W} : lstF [a0, a1, a2, a3] h = .ok (.ref h.length) (h ++ [.lst [a0, a1, a2, a3]]) := if_pos (show 4 ≤ LINE by decide)
theorem q_t5 {a0 a1 a2 a3 a4 : W} : tupF [a0, a1, a2, a3, a4] h = .ok (.tup [a0, a1, a2, a3, a4]) h := if_pos (show 5 ≤ LINE by decide)
theorem q_l5 {a0 a1 a2 a3 a4 : W} : lstF [a0, a1, a2, a3, a4] h = .ok (.ref h.length) (h ++ [.lst [a0, a1, a2, a3, a4]]) := if_pos (show 5 ≤ LINE by decide)
theorem q_t6 {a0 a1 a2 a3 a4 a5 : W} : tupF [a0, a1, a2, a3, a4, a5] h = .ok (.tup [a0, a1, a2, a3, a4, a5]) h := if_pos (show 6 ≤ LINE by decide)
theorem q_l6 {a0 a1 a2 a3 a4 a5 : W} : lstF [a0, a1, a2, a3, a4, a5] h = .ok (.ref h.length) (h ++ [.lst [a0, a1, a2, a3, a4, a5]]) := if_pos (show 6 ≤ LINE by decide)
theorem q_t7 {a0 a1 a2 a3 a4 a5 a6 : W} : tupF [a0, a1, a2, a3, a4, a5, a6] h = .ok (.tup [a0, a1, a2, a3, a4, a5, a6]) h := if_pos (show 7 ≤ LINE by decide)
theorem q_l7 {a0 a1 a2 a3 a4 a5 a6 : W} : lstF [a0, a1, a2, a3, a4, a5, a6] h = .ok (.ref h.length) (h ++ [.lst [a0, a1, a2, a3, a4, a5, a6]]) := if_pos (show 7 ≤ LINE by decide)
theorem q_t8 {a0 a1 a2 a3 a4 a5 a6 a7 : W} : tupF [a0, a1, a2, a3, a4, a5, a6, a7] h = .ok (.tup [a0, a1, a2, a3, a4, a5, a6, a7]) h := if_pos (show 8 ≤ LINE by decide)
theorem q_l8 {a0 a1 a2 a3 a4 a5 a6 a7 : W} : lstF [a0, a1, a2, a3, a4, a5, a6, a7] h = .ok (.ref h.length) (h ++ [.lst [a0, a1, a2, a3, a4, a5, a6, a7]]) := if_pos (show 8 ≤ LINE by decide)
theorem q_t9 {a0 a1 a2 a3 a4 a5 a6 a7 a8 : W} : tupF [a0, a1, a2, a3, a4, a5, a6, a7, a8] h = .ok (.tup [a0, a1, a2, a3, a4, a5, a6, a7, a8]) h := if_pos (show 9 ≤ LINE by decide)
theorem q_l9 {a0 a1 a2 a3 a4 a5 a6 a7 a8 : W} : lstF [a0, a1, a2, a3, a4, a5, a6, a7, a8] h = .ok (.ref h.length) (h ++ [.lst [a0, a1, a2, a3, a4, a5, a6, a7, a8]]) := if_pos (show 9 ≤ LINE by decide)
theorem q_t10 {a0 a1 a2 a3 a4 a5 a6 a7 a8 a9 : W} : tupF [a0, a1, a2, a3, a4, a5, a6, a7, a8, a9] h = .ok (.tup [a0, a1, a2, a3, a4, a5, a6, a7, a8, a9]) h := if_pos (show 10 ≤ LINE by decide)
theorem q_l10 {a0 a1 a2 a3 a4 a5 a6 a7 a8 a9 : W} : lstF [a0, a1, a2, a3, a4, a5, a6, a7, a8, a9] h = .ok (.ref h.length) (h ++ [.lst [a0, a1, a2, a3, a4, a5, a6, a7, a8, a9]]) := if_pos (show 10 ≤ LINE by decide)
theorem q_t11 {a0 a1 a2 a3 a4 a5 a6 a7 a8 a9 a10 : W} : tupF [a0, a1, a2, a3, a4, a5, a6, a7, a8, a9, a10] h = .ok (.tup [a0, a1, a2, a3, a4, a5, a6, a7, a8, a9, a10]) h := if_pos (show 11 ≤ LINE by decide)
theorem q_l11 {a0 a1 a2 a3 a4 a5 a6 a7 a8 a9 a10 : W} : lstF [a0, a1, a2, a3, a4, a5, a6, a7, a8, a9, a10] h = .ok (.ref h.length) (h ++ [.lst [a0, a1, a2, a3, a4, a5, a6, a7, a8, a9, a10]]) := if_pos (show 11 ≤ LINE by decide)
theorem q_t12 {a0 a1 a2 a3 a4 a5 a6 a7 a8 a9 a10 a11 : W} : tupF [a0, a1, a2, a3, a4, a5, a6, a7, a8, a9, a10, a11] h = .ok (.tup [a0, a1, a2, a3, a4, a5, a6, a7, a8, a9, a10, a11]) h := if_pos (show 12 ≤ LINE by decide)
theorem q_l12 {a0 a1 a2 a3 a4 a5 a6 a7 a8 a9 a10 a11 : W} : lstF [a0, a1, a2, a3, a4, a5, a6, a7, a8, a9, a10, a11] h = .ok (.ref h.length) (h ++ [.lst [a0, a1, a2, a3, a4, a5, a6, a7, a8, a9, a10, a11]]) := if_pos (show 12 ≤ LINE by decide)
theorem q_t13 {a0 a1 a2 a3 a4 a5 a6 a7 a8 a9 a10 a11 a12 : W} : tupF [a0, a1, a2, a3, a4, a5, a6, a7, a8, a9, a10, a11, a12] h = .ok (.tup [a0, a1, a2, a3, a4, a5, a6, a7, a8, a9, a10, a11, a12]) h := if_pos (show 13 ≤ LINE by decide)
theorem q_l13 {a0 a1 a2 a3 a4 a5 a6 a7 a8 a9 a10 a11 a12 : W} : lstF [a0, a1, a2, a3, a4, a5, a6, a7, a8, a9, a10, a11, a12] h = .ok (.ref h.length) (h ++ [.lst [a0, a1, a2, a3, a4, a5, a6, a7, a8, a9, a10, a11, a12]]) := if_pos (show 13 ≤ LINE by decide)
theorem q_t14 {a0 a1 a2 a3 a4 a5 a6 a7 a8 a9 a10 a11 a12 a13 : W} : tupF [a0, a1, a2, a3, a4, a5, a6, a7, a8, a9, a10, a11, a12, a13] h = .ok (.tup [a0, a1, a2, a3, a4, a5, a6, a7, a8, a9, a10, a11, a12, a13]) h := if_pos (show 14 ≤ LINE by decide)
theorem q_l14 {a0 a1 a2 a3 a4 a5 a6 a7 a8 a9 a10 a11 a12 a13 : W} : lstF [a0, a1, a2, a3, a4, a5, a6, a7, a8, a9, a10, a11, a12, a13] h = .ok (.ref h.length) (h ++ [.lst [a0, a1, a2, a3, a4, a5, a6, a7, a8, a9, a10, a11, a12, a13]]) := if_pos (show 14 ≤ LINE by decide)
theorem q_t15 {a0 a1 a2 a3 a4 a5 a6 a7 a8 a9 a10 a11 a12 a13 a14 : W} : tupF [a0, a1, a2, a3, a4, a5, a6, a7, a8, a9, a10, a11, a12, a13, a14] h = .ok (.tup [a0, a1, a2, a3, a4, a5, a6, a7, a8, a9, a10, a11, a12, a13, a14]) h := if_pos (show 15 ≤ LINE by decide)
theorem q_l15 {a0 a1 a2 a3 a4 a5 a6 a7 a8 a9 a10 a11 a12 a13 a14 : W} : lstF [a0, a1, a2, a3, a4, a5, a6, a7, a8, a9, a10, a11, a12, a13, a14] h = .ok (.ref h.length) (h ++ [.lst [a0, a1, a2, a3, a4, a5, a6, a7, a8, a9, a10, a11, a12, a13, a14]]) := if_pos (show 15 ≤ LINE by decide)
theorem q_t16 {a0 a1 a2 a3 a4 a5 a6 a7 a8 a9 a10 a11 a12 a13 a14 a15 : W} : tupF [a0, a1, a2, a3, a4, a5, a6, a7, a8, a9, a10, a11, a12, a13, a14, a15] h = .ok (.tup [a0, a1, a2, a3, a4, a5, a6, a7, a8, a9, a10, a11, a12, a13, a14, a15]) h := if_pos (show 16 ≤ LINE by decide)
theorem q_l16 {a0 a1 a2 a3 a4 a5 a6 a7 a8 a9 a10 a11 a12 a13 a14 a15 : W} : lstF [a0, a1, a2, a3, a4, a5, a6, a7, a8, a9, a10, a11, a12, a13, a14, a15] h = .ok (.ref h.length) (h ++ [.lst [a0, a1, a2, a3, a4, a5, a6, a7, a8, a9, a10, a11, a12, a13, a14, a15]]) := if_pos (show 16 ≤ LINE by decide)
theorem q_t17 {a0 a1 a2 a3 a4 a5 a6 a7 a8 a9 a10 a11 a12 a13 a14 a15 a16 : W} : tupF [a0, a1, a2, a3, a4, a5, a6, a7, a8, a9, a10, a11, a12, a13, a14, a15, a16] h = .ok (.tup [a0, a1, a2, a3, a4, a5, a6, a7, a8, a9, a10, a11, a12, a13, a14, a15, a16]) h := if_pos (show 17 ≤ LINE by decide)
theorem q_l17 {a0 a1 a2 a3 a4 a5 a6 a7 a8 a9 a10 a11 a12 a13 a14 a15 a16 : W} : lstF [a0, a1, a2, a3, a4, a5, a6, a7, a8, a9, a10, a11, a12, a13, a14, a15, a16] h = .ok (.ref h.length) (h ++ [.lst [a0, a1, a2, a3, a4, a5, a6, a7, a8, a9, a10, a11, a12, a13, a14, a15, a16]]) := if_pos (show 17 ≤ LINE by decide)
theorem q_t18 {a0 a1 a2 a3 a4 a5 a6 a7 a8 a9 a10 a11 a12 a13 a14 a15 a16 a17 : W} : tupF [a0, a1, a2, a3, a4, a5, a6, a7, a8, a9, a10, a11, a12, a13, a14, a15, a16, a17] h = .ok (.tup [a0, a1, a2, a3, a4, a5, a6, a7, a8, a9, a10, a11, a12, a13, a14, a15, a16, a17]) h := if_pos (show 18 ≤ LINE by decide)
theorem q_l18 {a0 a1 a2 a3 a4 a5 a6 a7 a8 a9 a10 a11 a12 a13 a14 a15 a16 a17 : W} : lstF [a0, a1, a2, a3, a4, a5, a6, a7, a8, a9, a10, a11, a12, a13, a14, a15, a16, a17] h = .ok (.ref h.length) (h ++ [.lst [a0, a1, a2, a3, a4, a5, a6, a7, a8, a9, a10, a11, a12, a13, a14, a15, a16, a17]]) := if_pos (show 18 ≤ LINE by decide)
theorem q_t19 {a0 a1 a2 a3 a4 a5 a6 a7 a8 a9 a10 a11 a12 a13 a14 a15 a16 a17 a18 : W} : tupF [a0, a1, a2, a3, a4, a5, a6, a7, a8, a9, a10, a11, a12, a13, a14, a15, a16, a17, a18] h = .ok (.tup [a0, a1, a2, a3, a4, a5, a6, a7, a8, a9, a10, a11, a12, a13, a14, a15, a16, a17, a18]) h := if_pos (show 19 ≤ LINE by decide)
theorem q_l19 {a0 a1 a2 a3 a4 a5 a6 a7 a8 a9 a10 a11 a12 a13 a14 a15 a16 a17 a18 : W} : lstF [a0, a1, a2, a3, a4, a5, a6, a7, a8, a9, a10, a11, a12, a13, a14, a15, a16, a17, a18] h = .ok (.ref h.length) (h ++ [.lst [a0, a1, a2, a3, a4, a5, a6, a7, a8, a9, a10, a11, a12, a13, a14, a15, a16, a17, a18]]) := if_pos (show 19 ≤ LINE by decide)
end
/-! ### turns, one by one (not among the equations: by hand) -/
def forsK2 (held : List (Nat × List W)) (g : W → Env → L → R Env) (b : Env → L → R F) (xs : List W) (f : F) (h : L) : R F := match f with
  | .nx σ => fors held g b xs σ h
  | .ct σ => fors held g b xs σ h
  | .bk σ => .ok (.nx σ) h
  | .rt v => .ok (.rt v) h
def forsK (held : List (Nat × List W)) (g : W → Env → L → R Env) (b : Env → L → R F) (xs : List W) (σ : Env) (h : L) : R F := (b σ h).bind (forsK2 held g b xs)
section
variable {held : List (Nat × List W)} {g : W → Env → L → R Env} {b : Env → L → R F} {x : W} {xs acc : List W} {σ : Env} {h : L}
theorem f_nil (e : heldB h held = true) : fors held g b [] σ h = .ok (.nx σ) h := by simp only [fors, e, if_true]
theorem f_cons (e : heldB h held = true) : fors held g b (x :: xs) σ h = (g x σ h).calm.bind (forsK held g b xs) := by
  simp only [fors, e, if_true]
  rfl
theorem f_nil0 : fors [] g b [] σ h = .ok (.nx σ) h := f_nil rfl
theorem f_cons0 : fors [] g b (x :: xs) σ h = (g x σ h).calm.bind (forsK [] g b xs) := f_cons rfl
theorem f_K : forsK held g b xs σ h = (b σ h).bind (forsK2 held g b xs) := (rfl)
theorem f_nx : forsK2 held g b xs (.nx σ) h = fors held g b xs σ h := (rfl)
theorem f_ct : forsK2 held g b xs (.ct σ) h = fors held g b xs σ h := (rfl)
theorem f_bk : forsK2 held g b xs (.bk σ) h = .ok (.nx σ) h := (rfl)
theorem f_rt {v : W} : forsK2 held g b xs (.rt v) h = .ok (.rt v) h := (rfl)
theorem f_held0 : heldB h [] = true := (rfl)
def turnsK (held : List (Nat × List W)) (f : W → L → R (Option W)) (xs acc : List W) (r : Option W) (h : L) : R (List W) := match r with
  | some y => if acc.length < LINE then turns held f xs h (acc ++ [y]) else .stuck
  | none => turns held f xs h acc
theorem t_nil {f : W → L → R (Option W)} (e : heldB h held = true) : turns held f [] h acc = .ok acc h := by simp only [turns, e, if_true]
theorem t_cons {f : W → L → R (Option W)} (e : heldB h held = true) : turns held f (x :: xs) h acc = (f x h).calm.bind (turnsK held f xs acc) := by
  simp only [turns, e, if_true]
  rfl
theorem t_nil0 {f : W → L → R (Option W)} : turns [] f [] h acc = .ok acc h := t_nil rfl
theorem t_cons0 {f : W → L → R (Option W)} : turns [] f (x :: xs) h acc = (f x h).calm.bind (turnsK [] f xs acc) := t_cons rfl
theorem t_some {f : W → L → R (Option W)} {y : W} (l : acc.length < 1000000) : turnsK held f xs acc (some y) h = turns held f xs h (acc ++ [y]) := if_pos (Nat.lt_trans l (by decide))
theorem t_none {f : W → L → R (Option W)} : turnsK held f xs acc none h = turns held f xs h acc := (rfl)
end
/-! ### calls -/
theorem call_run {kd : Kd} {P : List Fn} {d g : Nat} {f : Fn} (hP : P[g]? = some f) {ws : List W} {h : L} (hl : ws.length = f.np) : call kd P (d + 1) g ws h = fin (runs (call kd P d) kd f.body (ws.map some ++ List.replicate (f.nn - f.np) none) h) := by
  simp only [call, hP, if_pos hl]
  rfl
end Vl
set_option maxRecDepth 100000
set_option maxHeartbeats 4000000
namespace Vl
/-- the statements of a block, the body of a loop -/
def nthS : Ss → Nat → S
  | .cons s _, 0 => s
  | .cons _ ss, n + 1 => nthS ss n
  | .nil, _ => .pass
def loopB : S → Ss
  | .for _ _ b => b
  | .whl _ b => b
  | _ => .nil
def loopT : S → E
  | .whl c _ => c
  | _ => .cst .non
/-! ### the heap's end -/
theorem app_at {h t : L} {i : Nat} : (h ++ t)[h.length + i]? = t[i]? := by
  rw [List.getElem?_append_right (by omega)]
  congr 1
  omega
theorem app_at0 {h t : L} : (h ++ t)[h.length]? = t[0]? := app_at (i := 0)
theorem app_put {h t : L} {i : Nat} {o : O} : (h ++ t).set (h.length + i) o = h ++ t.set i o := by
  rw [List.set_append_right _ _ (by omega)]
  congr 2
  omega
theorem app_put0 {h t : L} {o : O} : (h ++ t).set h.length o = h ++ t.set 0 o := app_put (i := 0)
theorem alloc_0 {h : L} {o : O} : alloc o h = .ok (.ref h.length) (h ++ [o]) := rfl
/-! ### whiles -/
theorem whiles_dec {t : Env → L → R Bool} {b : Env → L → R F} (I : Nat → Env → L → Prop) (Q : Env → L → Prop)
    (step : ∀ m σ h, I m σ h → (t σ h = .ok false h ∧ Q σ h) ∨ (t σ h = .ok true h ∧ ∃ σ' h' m', (b σ h = .ok (.nx σ') h' ∨ b σ h = .ok (.ct σ') h') ∧ m' < m ∧ I m' σ' h')) :
    ∀ (m n : Nat) (σ : Env) (h : L), m < n → I m σ h → ∃ σ' h', whiles t b n σ h = .ok (.nx σ') h' ∧ Q σ' h' := by
  intro m
  induction m using Nat.strongRecOn with
  | ind m ih =>
    intro n σ h hn hI
    cases n with
    | zero => omega
    | succ n =>
      rcases step m σ h hI with ⟨e, q⟩ | ⟨e, σ', h', m', e2, hm, hI'⟩
      · exact ⟨σ, h, by simp only [whiles, e, R.bind_ok], q⟩
      · obtain ⟨σ2, h2, e3, q⟩ := ih m' hm n σ' h' (by omega) hI'
        refine ⟨σ2, h2, ?_, q⟩
        rcases e2 with e2 | e2 <;> simp only [whiles, e, R.bind_ok, e2, e3]
theorem whiles_go {t : Env → L → R Bool} {b : Env → L → R F} {n : Nat} {σ σ' : Env} {h h' : L} (e : t σ h = .ok true h) (e2 : b σ h = .ok (.nx σ') h') : whiles t b (n + 1) σ h = whiles t b n σ' h' := by
  simp only [whiles, e, R.bind_ok, e2]
theorem whiles_ct {t : Env → L → R Bool} {b : Env → L → R F} {n : Nat} {σ σ' : Env} {h h' : L} (e : t σ h = .ok true h) (e2 : b σ h = .ok (.ct σ') h') : whiles t b (n + 1) σ h = whiles t b n σ' h' := by
  simp only [whiles, e, R.bind_ok, e2]
/-! ### texts -/
theorem isDig_mem (c : Nat) : decide (c ∈ [48, 49, 50, 51, 52, 53, 54, 55, 56, 57]) = isDig c := by
  unfold isDig
  rw [← Bool.decide_and]
  congr 1
  simp only [List.mem_cons, List.not_mem_nil, or_false, eq_iff_iff]
  omega
theorem isDig_or (c : Nat) : (decide (c = 48) || (decide (c = 49) || (decide (c = 50) || (decide (c = 51) || (decide (c = 52) || (decide (c = 53) || (decide (c = 54) || (decide (c = 55) || (decide (c = 56) || decide (c = 57)))))))))) = isDig c := by
  rw [← isDig_mem]
  simp [Bool.decide_or]
theorem str_at {kd : Kd} {s : List Nat} {k : Nat} {c : Nat} {h : L} (hl : s.length ≤ LINE) (e : s[k]? = some c) : subv kd (.str s) (.int (k : Int)) h = .ok (.str [c]) h := by
  have := (List.getElem?_eq_some_iff.mp e).1
  simp only [subv, hl, if_true, atI, ixN_lt this, Option.bind_some, e]
theorem pre_at {α : Type} {a : List α} {c : α} {b : List α} : (a ++ c :: b)[a.length]? = some c := by simp
theorem sIx_int {n d : Nat} {i : Nat} : sIx n d (.int (i : Int)) = some (min i n) := by
  simp only [sIx]
  rw [if_neg (by omega)]
  simp
/-- a[len(x) : len(x y)] -/
theorem cut_mid {x y z : List Nat} : cut (x ++ y ++ z) (.int (x.length : Int)) (.int ((x.length + y.length : Nat) : Int)) = some y := by
  simp only [cut, sIx_int, List.length_append]
  congr 1
  rw [Nat.min_eq_left (by omega), Nat.min_eq_left (by omega)]
  rw [List.append_assoc, List.drop_left' rfl]
  rw [List.take_left' (by omega)]
section
variable {kd : Kd} {P : List Fn} [Tab P] [KTab kd] {d : Nat} {h : L}
/-- a count in a layout -/
theorem count_from_t {pre ds rest : List Nat} (hd : ds.all isDig = true) (hr : ∀ c r, rest = c :: r → isDig c = false) (hl : (pre ++ ds ++ rest).length ≤ 100000) (h6 : ds.length ≤ 640) :
    call kd P (d + 1) F_count_from [.str (pre ++ ds ++ rest), .int (pre.length : Int)] h = .ok (.tup [.int (if ds = [] then 1 else (decV ds : Int)), .int ((pre.length + ds.length : Nat) : Int)]) h := by
  rw [call_run h_count_from rfl]
  show fin (runs (call kd P d) kd c_count_from.body [some (.str (pre ++ ds ++ rest)), some (.int (pre.length : Int)), none] h) = _
  have hL : (pre ++ ds ++ rest).length ≤ LINE := by unfold LINE; omega
  generalize hS : pre ++ ds ++ rest = s at *
  have key : ∀ (a b : List Nat), ds = a ++ b → ∀ n, b.length < n → whiles (tstE (call kd P d) kd (loopT (nthS c_count_from.body 1))) (exs (call kd P d) kd (loopB (nthS c_count_from.body 1))) n [some (.str s), some (.int (pre.length : Int)), some (.int ((pre.length + a.length : Nat) : Int))] h
      = .ok (.nx [some (.str s), some (.int (pre.length : Int)), some (.int ((pre.length + ds.length : Nat) : Int))]) h := by
    intro a b
    induction b generalizing a with
    | nil =>
      intro e n hn
      cases n with
      | zero => omega
      | succ n =>
      have ea : a = ds := by simpa using e.symm
      subst ea
      refine whiles_stop ?_
      cases rest with
      | nil =>
        have : ¬ ((pre.length : Int) + (a.length : Int) < (s.length : Int)) := by rw [← hS]; simp
        simp [loopT, nthS, c_count_from, R.bind_ok, R.calm_ok, q_cst, q_var, q_varK, q_bin, q_binK, q_binK2, q_neg, q_negK, q_not, q_and, q_andK_t, q_andK_f, q_or, q_orK_t, q_orK_f, q_cmp, q_cmpK, q_cmpK2, q_cmp2, q_cmp2K, q_cmp2K2, q_cmp2K3_t, q_cmp2K3_f, q_ite, q_iteK_t, q_iteK_f, q_tup, q_lst, q_dic, q_sub, q_subK, q_subK2, q_slc, q_slcK, q_slcK2, q_slcK3, q_rev, q_call, q_callK, q_bf, q_bfK, q_mt, q_mtK, q_mtK2, q_mt_int, q_lc, q_lcF, q_bfc, q_cfK, q_idx, q_idxK, q_nil, q_cons, q_consK, q_consK2, q_of, q_srcK_tup, q_srcK_str, q_srcK_ref, q_rng1, q_rng1K, q_rng2, q_rng2K, q_zip, q_zipK_tup, q_zipK_ref, q_enum, q_enumK, q_nm, q_tp, q_tpK, q_tpK_ref, q_sb, q_sbK, q_sbK2, q_unK, q_snil, q_scons, q_stoK, q_tnil, q_tcons, q_evtK_t, q_evtK_f, q_mk, q_evcK, q_asg, q_asgK, q_nxK, q_aug, q_augK, q_augK2, q_augK3, q_ife, q_ifeK_t, q_ifeK_f, q_for, q_forG, q_ret, q_retK, q_retn, q_expr, q_dropK, q_pass, q_brk, q_cont, q_try, q_xnil, q_xcons, q_nx, q_rt, q_bk, q_ct, q_tst, q_tstK, q_fin_rt, q_fin_nx, q_t0, q_l0, q_t1, q_l1, q_t2, q_l2, q_t3, q_l3, q_t4, q_l4, q_t5, q_l5, q_t6, q_l6, q_t7, q_l7, q_t8, q_l8, q_t9, q_l9, q_t10, q_l10, q_t11, q_l11, q_t12, q_l12, q_t13, q_l13, q_t14, q_l14, q_t15, q_l15, q_t16, q_l16, q_t17, q_l17, q_t18, q_l18, q_t19, q_l19, q_notK, gets, sets, wipes, cmpop, ofB, isv, eqh_int, eqh_str, eqh_bl, bfn, bIsi, isT, isTs, tyN, tysOf, TN.is, bInt, bLen, bTup, items, add_int, sub_int, app_at, app_at0, app_put, app_put0, alloc_0, cturn, hL, this]
      | cons c r =>
        have hc := hr c r rfl
        have h1 : ((pre.length : Int) + (a.length : Int) < (s.length : Int)) := by rw [← hS]; simp; omega
        have h2 := str_at (kd := kd) (h := h) (k := pre.length + a.length) (c := c) hL (by rw [← hS, ← List.length_append]; exact pre_at)
        rw [Int.natCast_add] at h2
        simp [loopT, nthS, c_count_from, R.bind_ok, R.calm_ok, q_cst, q_var, q_varK, q_bin, q_binK, q_binK2, q_neg, q_negK, q_not, q_and, q_andK_t, q_andK_f, q_or, q_orK_t, q_orK_f, q_cmp, q_cmpK, q_cmpK2, q_cmp2, q_cmp2K, q_cmp2K2, q_cmp2K3_t, q_cmp2K3_f, q_ite, q_iteK_t, q_iteK_f, q_tup, q_lst, q_dic, q_sub, q_subK, q_subK2, q_slc, q_slcK, q_slcK2, q_slcK3, q_rev, q_call, q_callK, q_bf, q_bfK, q_mt, q_mtK, q_mtK2, q_mt_int, q_lc, q_lcF, q_bfc, q_cfK, q_idx, q_idxK, q_nil, q_cons, q_consK, q_consK2, q_of, q_srcK_tup, q_srcK_str, q_srcK_ref, q_rng1, q_rng1K, q_rng2, q_rng2K, q_zip, q_zipK_tup, q_zipK_ref, q_enum, q_enumK, q_nm, q_tp, q_tpK, q_tpK_ref, q_sb, q_sbK, q_sbK2, q_unK, q_snil, q_scons, q_stoK, q_tnil, q_tcons, q_evtK_t, q_evtK_f, q_mk, q_evcK, q_asg, q_asgK, q_nxK, q_aug, q_augK, q_augK2, q_augK3, q_ife, q_ifeK_t, q_ifeK_f, q_for, q_forG, q_ret, q_retK, q_retn, q_expr, q_dropK, q_pass, q_brk, q_cont, q_try, q_xnil, q_xcons, q_nx, q_rt, q_bk, q_ct, q_tst, q_tstK, q_fin_rt, q_fin_nx, q_t0, q_l0, q_t1, q_l1, q_t2, q_l2, q_t3, q_l3, q_t4, q_l4, q_t5, q_l5, q_t6, q_l6, q_t7, q_l7, q_t8, q_l8, q_t9, q_l9, q_t10, q_l10, q_t11, q_l11, q_t12, q_l12, q_t13, q_l13, q_t14, q_l14, q_t15, q_l15, q_t16, q_l16, q_t17, q_l17, q_t18, q_l18, q_t19, q_l19, q_notK, gets, sets, wipes, cmpop, ofB, isv, eqh_int, eqh_str, eqh_bl, bfn, bIsi, isT, isTs, tyN, tysOf, TN.is, bInt, bLen, bTup, items, add_int, sub_int, app_at, app_at0, app_put, app_put0, alloc_0, cturn, hL, h1, h2, isIn, isDig_or, hc]
    | cons c b ih =>
      intro e n hn
      cases n with
      | zero => omega
      | succ n =>
      have ih' := ih (a ++ [c]) (by rw [e]; simp) n (by simp at hn; omega)
      have hc : isDig c = true := List.all_eq_true.mp hd c (by rw [e]; simp)
      have h1 : ((pre.length : Int) + (a.length : Int) < (s.length : Int)) := by rw [← hS, e]; simp; omega
      have h2 := str_at (kd := kd) (h := h) (k := pre.length + a.length) (c := c) hL (by rw [← hS, e, ← List.length_append]; simp)
      rw [Int.natCast_add] at h2
      rw [List.length_append, List.length_singleton] at ih'
      refine (whiles_go (σ' := [some (.str s), some (.int (pre.length : Int)), some (.int ((pre.length + (a.length + 1) : Nat) : Int))]) (h' := h) ?_ ?_).trans ih'
      · simp [loopT, nthS, c_count_from, R.bind_ok, R.calm_ok, q_cst, q_var, q_varK, q_bin, q_binK, q_binK2, q_neg, q_negK, q_not, q_and, q_andK_t, q_andK_f, q_or, q_orK_t, q_orK_f, q_cmp, q_cmpK, q_cmpK2, q_cmp2, q_cmp2K, q_cmp2K2, q_cmp2K3_t, q_cmp2K3_f, q_ite, q_iteK_t, q_iteK_f, q_tup, q_lst, q_dic, q_sub, q_subK, q_subK2, q_slc, q_slcK, q_slcK2, q_slcK3, q_rev, q_call, q_callK, q_bf, q_bfK, q_mt, q_mtK, q_mtK2, q_mt_int, q_lc, q_lcF, q_bfc, q_cfK, q_idx, q_idxK, q_nil, q_cons, q_consK, q_consK2, q_of, q_srcK_tup, q_srcK_str, q_srcK_ref, q_rng1, q_rng1K, q_rng2, q_rng2K, q_zip, q_zipK_tup, q_zipK_ref, q_enum, q_enumK, q_nm, q_tp, q_tpK, q_tpK_ref, q_sb, q_sbK, q_sbK2, q_unK, q_snil, q_scons, q_stoK, q_tnil, q_tcons, q_evtK_t, q_evtK_f, q_mk, q_evcK, q_asg, q_asgK, q_nxK, q_aug, q_augK, q_augK2, q_augK3, q_ife, q_ifeK_t, q_ifeK_f, q_for, q_forG, q_ret, q_retK, q_retn, q_expr, q_dropK, q_pass, q_brk, q_cont, q_try, q_xnil, q_xcons, q_nx, q_rt, q_bk, q_ct, q_tst, q_tstK, q_fin_rt, q_fin_nx, q_t0, q_l0, q_t1, q_l1, q_t2, q_l2, q_t3, q_l3, q_t4, q_l4, q_t5, q_l5, q_t6, q_l6, q_t7, q_l7, q_t8, q_l8, q_t9, q_l9, q_t10, q_l10, q_t11, q_l11, q_t12, q_l12, q_t13, q_l13, q_t14, q_l14, q_t15, q_l15, q_t16, q_l16, q_t17, q_l17, q_t18, q_l18, q_t19, q_l19, q_notK, gets, sets, wipes, cmpop, ofB, isv, eqh_int, eqh_str, eqh_bl, bfn, bIsi, isT, isTs, tyN, tysOf, TN.is, bInt, bLen, bTup, items, add_int, sub_int, app_at, app_at0, app_put, app_put0, alloc_0, cturn, hL, h1, h2, isIn, isDig_or, hc]
      · simp [loopB, nthS, c_count_from, R.bind_ok, R.calm_ok, q_cst, q_var, q_varK, q_bin, q_binK, q_binK2, q_neg, q_negK, q_not, q_and, q_andK_t, q_andK_f, q_or, q_orK_t, q_orK_f, q_cmp, q_cmpK, q_cmpK2, q_cmp2, q_cmp2K, q_cmp2K2, q_cmp2K3_t, q_cmp2K3_f, q_ite, q_iteK_t, q_iteK_f, q_tup, q_lst, q_dic, q_sub, q_subK, q_subK2, q_slc, q_slcK, q_slcK2, q_slcK3, q_rev, q_call, q_callK, q_bf, q_bfK, q_mt, q_mtK, q_mtK2, q_mt_int, q_lc, q_lcF, q_bfc, q_cfK, q_idx, q_idxK, q_nil, q_cons, q_consK, q_consK2, q_of, q_srcK_tup, q_srcK_str, q_srcK_ref, q_rng1, q_rng1K, q_rng2, q_rng2K, q_zip, q_zipK_tup, q_zipK_ref, q_enum, q_enumK, q_nm, q_tp, q_tpK, q_tpK_ref, q_sb, q_sbK, q_sbK2, q_unK, q_snil, q_scons, q_stoK, q_tnil, q_tcons, q_evtK_t, q_evtK_f, q_mk, q_evcK, q_asg, q_asgK, q_nxK, q_aug, q_augK, q_augK2, q_augK3, q_ife, q_ifeK_t, q_ifeK_f, q_for, q_forG, q_ret, q_retK, q_retn, q_expr, q_dropK, q_pass, q_brk, q_cont, q_try, q_xnil, q_xcons, q_nx, q_rt, q_bk, q_ct, q_tst, q_tstK, q_fin_rt, q_fin_nx, q_t0, q_l0, q_t1, q_l1, q_t2, q_l2, q_t3, q_l3, q_t4, q_l4, q_t5, q_l5, q_t6, q_l6, q_t7, q_l7, q_t8, q_l8, q_t9, q_l9, q_t10, q_l10, q_t11, q_l11, q_t12, q_l12, q_t13, q_l13, q_t14, q_l14, q_t15, q_l15, q_t16, q_l16, q_t17, q_l17, q_t18, q_l18, q_t19, q_l19, q_notK, gets, sets, wipes, cmpop, ofB, isv, eqh_int, eqh_str, eqh_bl, bfn, bIsi, isT, isTs, tyN, tysOf, TN.is, bInt, bLen, bTup, items, add_int, sub_int, app_at, app_at0, app_put, app_put0, alloc_0, cturn, augop, Int.add_assoc]
  have kk := key [] ds rfl FUEL (by unfold FUEL; omega)
  simp only [c_count_from] at kk ⊢
  rw [run_cons]
  simp [R.bind_ok, R.calm_ok, q_cst, q_var, q_varK, q_bin, q_binK, q_binK2, q_neg, q_negK, q_not, q_and, q_andK_t, q_andK_f, q_or, q_orK_t, q_orK_f, q_cmp, q_cmpK, q_cmpK2, q_cmp2, q_cmp2K, q_cmp2K2, q_cmp2K3_t, q_cmp2K3_f, q_ite, q_iteK_t, q_iteK_f, q_tup, q_lst, q_dic, q_sub, q_subK, q_subK2, q_slc, q_slcK, q_slcK2, q_slcK3, q_rev, q_call, q_callK, q_bf, q_bfK, q_mt, q_mtK, q_mtK2, q_mt_int, q_lc, q_lcF, q_bfc, q_cfK, q_idx, q_idxK, q_nil, q_cons, q_consK, q_consK2, q_of, q_srcK_tup, q_srcK_str, q_srcK_ref, q_rng1, q_rng1K, q_rng2, q_rng2K, q_zip, q_zipK_tup, q_zipK_ref, q_enum, q_enumK, q_nm, q_tp, q_tpK, q_tpK_ref, q_sb, q_sbK, q_sbK2, q_unK, q_snil, q_scons, q_stoK, q_tnil, q_tcons, q_evtK_t, q_evtK_f, q_mk, q_evcK, q_asg, q_asgK, q_nxK, q_aug, q_augK, q_augK2, q_augK3, q_ife, q_ifeK_t, q_ifeK_f, q_for, q_forG, q_ret, q_retK, q_retn, q_expr, q_dropK, q_pass, q_brk, q_cont, q_try, q_xnil, q_xcons, q_nx, q_rt, q_bk, q_ct, q_tst, q_tstK, q_fin_rt, q_fin_nx, q_t0, q_l0, q_t1, q_l1, q_t2, q_l2, q_t3, q_l3, q_t4, q_l4, q_t5, q_l5, q_t6, q_l6, q_t7, q_l7, q_t8, q_l8, q_t9, q_l9, q_t10, q_l10, q_t11, q_l11, q_t12, q_l12, q_t13, q_l13, q_t14, q_l14, q_t15, q_l15, q_t16, q_l16, q_t17, q_l17, q_t18, q_l18, q_t19, q_l19, q_notK, gets, sets, wipes, cmpop, ofB, isv, eqh_int, eqh_str, eqh_bl, bfn, bIsi, isT, isTs, tyN, tysOf, TN.is, bInt, bLen, bTup, items, add_int, sub_int, app_at, app_at0, app_put, app_put0, alloc_0, cturn]
  rw [run_nx]
  rw [run_cons, q_whl]
  simp only [nthS, loopT, loopB, List.length_nil, Nat.add_zero] at kk
  rw [kk, R.bind_ok, run_nx]
  by_cases he : ds = []
  · subst he
    rw [run_cons]
    simp [R.bind_ok, R.calm_ok, q_cst, q_var, q_varK, q_bin, q_binK, q_binK2, q_neg, q_negK, q_not, q_and, q_andK_t, q_andK_f, q_or, q_orK_t, q_orK_f, q_cmp, q_cmpK, q_cmpK2, q_cmp2, q_cmp2K, q_cmp2K2, q_cmp2K3_t, q_cmp2K3_f, q_ite, q_iteK_t, q_iteK_f, q_tup, q_lst, q_dic, q_sub, q_subK, q_subK2, q_slc, q_slcK, q_slcK2, q_slcK3, q_rev, q_call, q_callK, q_bf, q_bfK, q_mt, q_mtK, q_mtK2, q_mt_int, q_lc, q_lcF, q_bfc, q_cfK, q_idx, q_idxK, q_nil, q_cons, q_consK, q_consK2, q_of, q_srcK_tup, q_srcK_str, q_srcK_ref, q_rng1, q_rng1K, q_rng2, q_rng2K, q_zip, q_zipK_tup, q_zipK_ref, q_enum, q_enumK, q_nm, q_tp, q_tpK, q_tpK_ref, q_sb, q_sbK, q_sbK2, q_unK, q_snil, q_scons, q_stoK, q_tnil, q_tcons, q_evtK_t, q_evtK_f, q_mk, q_evcK, q_asg, q_asgK, q_nxK, q_aug, q_augK, q_augK2, q_augK3, q_ife, q_ifeK_t, q_ifeK_f, q_for, q_forG, q_ret, q_retK, q_retn, q_expr, q_dropK, q_pass, q_brk, q_cont, q_try, q_xnil, q_xcons, q_nx, q_rt, q_bk, q_ct, q_tst, q_tstK, q_fin_rt, q_fin_nx, q_t0, q_l0, q_t1, q_l1, q_t2, q_l2, q_t3, q_l3, q_t4, q_l4, q_t5, q_l5, q_t6, q_l6, q_t7, q_l7, q_t8, q_l8, q_t9, q_l9, q_t10, q_l10, q_t11, q_l11, q_t12, q_l12, q_t13, q_l13, q_t14, q_l14, q_t15, q_l15, q_t16, q_l16, q_t17, q_l17, q_t18, q_l18, q_t19, q_l19, q_notK, gets, sets, wipes, cmpop, ofB, isv, eqh_int, eqh_str, eqh_bl, bfn, bIsi, isT, isTs, tyN, tysOf, TN.is, bInt, bLen, bTup, items, add_int, sub_int, app_at, app_at0, app_put, app_put0, alloc_0, cturn, run_rt, run_nx, run_nil]
  · have h0 : 0 < ds.length := List.length_pos_iff.mpr he
    have h1 : (pre.length : Int) < (pre.length : Int) + (ds.length : Int) := by omega
    have hcut := cut_mid (x := pre) (y := ds) (z := rest)
    rw [hS, Int.natCast_add] at hcut
    have hd' : (∀ (x : Nat), x ∈ ds → isDig x = true) = True := eq_true (List.all_eq_true.mp hd)
    rw [run_cons]
    simp [R.bind_ok, R.calm_ok, q_cst, q_var, q_varK, q_bin, q_binK, q_binK2, q_neg, q_negK, q_not, q_and, q_andK_t, q_andK_f, q_or, q_orK_t, q_orK_f, q_cmp, q_cmpK, q_cmpK2, q_cmp2, q_cmp2K, q_cmp2K2, q_cmp2K3_t, q_cmp2K3_f, q_ite, q_iteK_t, q_iteK_f, q_tup, q_lst, q_dic, q_sub, q_subK, q_subK2, q_slc, q_slcK, q_slcK2, q_slcK3, q_rev, q_call, q_callK, q_bf, q_bfK, q_mt, q_mtK, q_mtK2, q_mt_int, q_lc, q_lcF, q_bfc, q_cfK, q_idx, q_idxK, q_nil, q_cons, q_consK, q_consK2, q_of, q_srcK_tup, q_srcK_str, q_srcK_ref, q_rng1, q_rng1K, q_rng2, q_rng2K, q_zip, q_zipK_tup, q_zipK_ref, q_enum, q_enumK, q_nm, q_tp, q_tpK, q_tpK_ref, q_sb, q_sbK, q_sbK2, q_unK, q_snil, q_scons, q_stoK, q_tnil, q_tcons, q_evtK_t, q_evtK_f, q_mk, q_evcK, q_asg, q_asgK, q_nxK, q_aug, q_augK, q_augK2, q_augK3, q_ife, q_ifeK_t, q_ifeK_f, q_for, q_forG, q_ret, q_retK, q_retn, q_expr, q_dropK, q_pass, q_brk, q_cont, q_try, q_xnil, q_xcons, q_nx, q_rt, q_bk, q_ct, q_tst, q_tstK, q_fin_rt, q_fin_nx, q_t0, q_l0, q_t1, q_l1, q_t2, q_l2, q_t3, q_l3, q_t4, q_l4, q_t5, q_l5, q_t6, q_l6, q_t7, q_l7, q_t8, q_l8, q_t9, q_l9, q_t10, q_l10, q_t11, q_l11, q_t12, q_l12, q_t13, q_l13, q_t14, q_l14, q_t15, q_l15, q_t16, q_l16, q_t17, q_l17, q_t18, q_l18, q_t19, q_l19, q_notK, gets, sets, wipes, cmpop, ofB, isv, eqh_int, eqh_str, eqh_bl, bfn, bIsi, isT, isTs, tyN, tysOf, TN.is, bInt, bLen, bTup, items, add_int, sub_int, app_at, app_at0, app_put, app_put0, alloc_0, cturn, run_rt, run_nx, run_nil, h1, slcv, hL, hcut, hd', he, h6]
/-! ### fields -/
def isSP (c : Nat) : Bool := decide (c = 115) || decide (c = 112)
theorem beq1 (a c : Nat) : ([a] == [c]) = decide (c = a) := by
  by_cases h : c = a
  · subst h; simp
  · rw [decide_eq_false h, beq_eq_false_iff_ne]
    intro e
    exact h (List.cons.inj e).1.symm
theorem isIn_sp (kd : Kd) (h : L) (c : Nat) : isIn kd h (.str [c]) (.tup [.str [115], .str [112]]) = some (isSP c) := by
  show some (eqvB (.str [115]) (.str [c]) || (eqvB (.str [112]) (.str [c]) || false)) = _
  rw [eqvB_str_str, eqvB_str_str, beq1, beq1, Bool.or_false]
  rfl
/-- the triples of a field -/
def fieldT (c z many place : Nat) : List (Nat × Nat × Nat) := if c = 120 then [] else if isSP c then [(c, place, many)] else (List.range many).map fun k => (c, place + k * z, z)
def triW (t : Nat × Nat × Nat) : W := .tup [.str [t.1], .int (t.2.1 : Nat), .int (t.2.2 : Nat)]
theorem ranges_eq : ∀ (m lo : Nat), ranges (lo : Int) m = (List.range m).map fun k => W.int ((lo + k : Nat) : Int)
  | 0, _ => rfl
  | m + 1, lo => by
    show W.int lo :: ranges ((lo + 1 : Nat) : Int) m = _
    rw [ranges_eq m (lo + 1), List.range_succ_eq_map, List.map_cons, List.map_map]
    congr 1
    apply List.map_congr_left
    intro k _
    simp only [Function.comp]
    congr 2
    omega
theorem field_of_t {c z many place : Nat} (hz : 0 < z ∧ z ≤ 8) (h1 : c = 120 ∨ c = 115 ∨ c = 112 → z = 1) (hm : many ≤ 1000000) :
    ∃ p h', call kd P (d + 1) F_field_of [.str [c], .int (z : Int), .int (many : Int), .int (place : Int)] h = .ok (.tup [.ref p, .int ((place + many * z : Nat) : Int)]) h' ∧ Ap h h' ∧ h.length ≤ p ∧ h'[p]? = some (.lst ((fieldT c z many place).map triW)) := by
  have mz : ∀ h, binop .mul (.int (z : Int)) (.int (many : Int)) h = .ok (.int ((z : Int) * (many : Int))) h := fun h => mul_ok (by omega) (by omega)
  by_cases c1 : c = 120
  · subst c1
    have := h1 (.inl rfl)
    subst this
    refine ⟨h.length, h ++ [.lst []], ?_, Ap.app, Nat.le_refl _, by simp [fieldT]⟩
    rw [call_run h_field_of rfl]
    show fin (runs (call kd P d) kd c_field_of.body [some (.str [120]), some (.int 1), some (.int (many : Int)), some (.int (place : Int)), none] h) = _
    simp only [c_field_of]
    rw [run_cons]
    simp [R.bind_ok, R.calm_ok, q_cst, q_var, q_varK, q_bin, q_binK, q_binK2, q_neg, q_negK, q_not, q_and, q_andK_t, q_andK_f, q_or, q_orK_t, q_orK_f, q_cmp, q_cmpK, q_cmpK2, q_cmp2, q_cmp2K, q_cmp2K2, q_cmp2K3_t, q_cmp2K3_f, q_ite, q_iteK_t, q_iteK_f, q_tup, q_lst, q_dic, q_sub, q_subK, q_subK2, q_slc, q_slcK, q_slcK2, q_slcK3, q_rev, q_call, q_callK, q_bf, q_bfK, q_mt, q_mtK, q_mtK2, q_mt_int, q_lc, q_lcF, q_bfc, q_cfK, q_idx, q_idxK, q_nil, q_cons, q_consK, q_consK2, q_of, q_srcK_tup, q_srcK_str, q_srcK_ref, q_rng1, q_rng1K, q_rng2, q_rng2K, q_zip, q_zipK_tup, q_zipK_ref, q_enum, q_enumK, q_nm, q_tp, q_tpK, q_tpK_ref, q_sb, q_sbK, q_sbK2, q_unK, q_snil, q_scons, q_stoK, q_tnil, q_tcons, q_evtK_t, q_evtK_f, q_mk, q_evcK, q_asg, q_asgK, q_nxK, q_aug, q_augK, q_augK2, q_augK3, q_ife, q_ifeK_t, q_ifeK_f, q_for, q_forG, q_ret, q_retK, q_retn, q_expr, q_dropK, q_pass, q_brk, q_cont, q_try, q_xnil, q_xcons, q_nx, q_rt, q_bk, q_ct, q_tst, q_tstK, q_fin_rt, q_fin_nx, q_t0, q_l0, q_t1, q_l1, q_t2, q_l2, q_t3, q_l3, q_t4, q_l4, q_t5, q_l5, q_t6, q_l6, q_t7, q_l7, q_t8, q_l8, q_t9, q_l9, q_t10, q_l10, q_t11, q_l11, q_t12, q_l12, q_t13, q_l13, q_t14, q_l14, q_t15, q_l15, q_t16, q_l16, q_t17, q_l17, q_t18, q_l18, q_t19, q_l19, q_notK, gets, sets, wipes, cmpop, ofB, isv, eqh_int, eqh_str, eqh_bl, bfn, bIsi, isT, isTs, tyN, tysOf, TN.is, bInt, bLen, bTup, items, add_int, sub_int, app_at, app_at0, app_put, app_put0, alloc_0, cturn, run_rt, run_nx, run_nil]
  · by_cases c2 : isSP c = true
    · have hz1 : z = 1 := h1 (by simp [isSP] at c2; omega)
      subst hz1
      refine ⟨h.length, h ++ [.lst [.tup [.str [c], .int (place : Int), .int (many : Int)]]], ?_, Ap.app, Nat.le_refl _, by simp [fieldT, c1, c2, triW]⟩
      rw [call_run h_field_of rfl]
      show fin (runs (call kd P d) kd c_field_of.body [some (.str [c]), some (.int 1), some (.int (many : Int)), some (.int (place : Int)), none] h) = _
      simp only [c_field_of]
      have c1' : ([c] == [120]) = false := by simp [c1]
      rw [run_cons]
      simp [R.bind_ok, R.calm_ok, q_cst, q_var, q_varK, q_bin, q_binK, q_binK2, q_neg, q_negK, q_not, q_and, q_andK_t, q_andK_f, q_or, q_orK_t, q_orK_f, q_cmp, q_cmpK, q_cmpK2, q_cmp2, q_cmp2K, q_cmp2K2, q_cmp2K3_t, q_cmp2K3_f, q_ite, q_iteK_t, q_iteK_f, q_tup, q_lst, q_dic, q_sub, q_subK, q_subK2, q_slc, q_slcK, q_slcK2, q_slcK3, q_rev, q_call, q_callK, q_bf, q_bfK, q_mt, q_mtK, q_mtK2, q_mt_int, q_lc, q_lcF, q_bfc, q_cfK, q_idx, q_idxK, q_nil, q_cons, q_consK, q_consK2, q_of, q_srcK_tup, q_srcK_str, q_srcK_ref, q_rng1, q_rng1K, q_rng2, q_rng2K, q_zip, q_zipK_tup, q_zipK_ref, q_enum, q_enumK, q_nm, q_tp, q_tpK, q_tpK_ref, q_sb, q_sbK, q_sbK2, q_unK, q_snil, q_scons, q_stoK, q_tnil, q_tcons, q_evtK_t, q_evtK_f, q_mk, q_evcK, q_asg, q_asgK, q_nxK, q_aug, q_augK, q_augK2, q_augK3, q_ife, q_ifeK_t, q_ifeK_f, q_for, q_forG, q_ret, q_retK, q_retn, q_expr, q_dropK, q_pass, q_brk, q_cont, q_try, q_xnil, q_xcons, q_nx, q_rt, q_bk, q_ct, q_tst, q_tstK, q_fin_rt, q_fin_nx, q_t0, q_l0, q_t1, q_l1, q_t2, q_l2, q_t3, q_l3, q_t4, q_l4, q_t5, q_l5, q_t6, q_l6, q_t7, q_l7, q_t8, q_l8, q_t9, q_l9, q_t10, q_l10, q_t11, q_l11, q_t12, q_l12, q_t13, q_l13, q_t14, q_l14, q_t15, q_l15, q_t16, q_l16, q_t17, q_l17, q_t18, q_l18, q_t19, q_l19, q_notK, gets, sets, wipes, cmpop, ofB, isv, eqh_int, eqh_str, eqh_bl, bfn, bIsi, isT, isTs, tyN, tysOf, TN.is, bInt, bLen, bTup, items, add_int, sub_int, app_at, app_at0, app_put, app_put0, alloc_0, cturn, c1']
      rw [run_nx]
      rw [run_cons]
      simp [R.bind_ok, R.calm_ok, q_cst, q_var, q_varK, q_bin, q_binK, q_binK2, q_neg, q_negK, q_not, q_and, q_andK_t, q_andK_f, q_or, q_orK_t, q_orK_f, q_cmp, q_cmpK, q_cmpK2, q_cmp2, q_cmp2K, q_cmp2K2, q_cmp2K3_t, q_cmp2K3_f, q_ite, q_iteK_t, q_iteK_f, q_tup, q_lst, q_dic, q_sub, q_subK, q_subK2, q_slc, q_slcK, q_slcK2, q_slcK3, q_rev, q_call, q_callK, q_bf, q_bfK, q_mt, q_mtK, q_mtK2, q_mt_int, q_lc, q_lcF, q_bfc, q_cfK, q_idx, q_idxK, q_nil, q_cons, q_consK, q_consK2, q_of, q_srcK_tup, q_srcK_str, q_srcK_ref, q_rng1, q_rng1K, q_rng2, q_rng2K, q_zip, q_zipK_tup, q_zipK_ref, q_enum, q_enumK, q_nm, q_tp, q_tpK, q_tpK_ref, q_sb, q_sbK, q_sbK2, q_unK, q_snil, q_scons, q_stoK, q_tnil, q_tcons, q_evtK_t, q_evtK_f, q_mk, q_evcK, q_asg, q_asgK, q_nxK, q_aug, q_augK, q_augK2, q_augK3, q_ife, q_ifeK_t, q_ifeK_f, q_for, q_forG, q_ret, q_retK, q_retn, q_expr, q_dropK, q_pass, q_brk, q_cont, q_try, q_xnil, q_xcons, q_nx, q_rt, q_bk, q_ct, q_tst, q_tstK, q_fin_rt, q_fin_nx, q_t0, q_l0, q_t1, q_l1, q_t2, q_l2, q_t3, q_l3, q_t4, q_l4, q_t5, q_l5, q_t6, q_l6, q_t7, q_l7, q_t8, q_l8, q_t9, q_l9, q_t10, q_l10, q_t11, q_l11, q_t12, q_l12, q_t13, q_l13, q_t14, q_l14, q_t15, q_l15, q_t16, q_l16, q_t17, q_l17, q_t18, q_l18, q_t19, q_l19, q_notK, gets, sets, wipes, cmpop, ofB, isv, eqh_int, eqh_str, eqh_bl, bfn, bIsi, isT, isTs, tyN, tysOf, TN.is, bInt, bLen, bTup, items, add_int, sub_int, app_at, app_at0, app_put, app_put0, alloc_0, cturn, run_rt, run_nx, run_nil, isIn_sp, c2]
    · have c1' : ([c] == [120]) = false := by simp [c1]
      have c2' : isSP c = false := by simpa using c2
      have c3 : (115 == c) = false := by simp [isSP] at c2'; simp; omega
      have c4 : (112 == c) = false := by simp [isSP] at c2'; simp; omega
      have hf : fieldT c z many place = (List.range many).map fun k => (c, place + k * z, z) := by simp [fieldT, c1, c2']
      refine ⟨h.length, h ++ [.lst ((fieldT c z many place).map triW)], ?_, Ap.app, Nat.le_refl _, by simp⟩
      rw [call_run h_field_of rfl]
      show fin (runs (call kd P d) kd c_field_of.body [some (.str [c]), some (.int (z : Int)), some (.int (many : Int)), some (.int (place : Int)), none] h) = _
      simp only [c_field_of]
      have hev : evs (call kd P d) kd (.cons (.var 2) .nil) [some (.str [c]), some (.int (z : Int)), some (.int (many : Int)), some (.int (place : Int)), none] h = .ok [.int (many : Int)] h := by simp [evs, ev, gets]
      have er := evi_rng hev (by omega)
      have ht := turns_pure (held := []) (h := h) (f := cturn (call kd P d) kd [4] (.nm 4) .nil (.tup (.cons (.var 0) (.cons (.bin .add (.var 3) (.bin .mul (.var 1) (.var 4))) (.cons (.var 1) .nil)))) [some (.str [c]), some (.int (z : Int)), some (.int (many : Int)), some (.int (place : Int)), none])
        (fun x => match x with | .int k => .tup [.str [c], .int ((place : Int) + (z : Int) * k), .int (z : Int)] | _ => .non) rfl (ranges 0 many) [] (fun x hx => by
          rw [show (0 : Int) = ((0 : Nat) : Int) from rfl, ranges_eq] at hx
          obtain ⟨k, hk, rfl⟩ := List.mem_map.mp hx
          have hk' := List.mem_range.mp hk
          have mk : binop .mul (.int (z : Int)) (.int (k : Int)) h = .ok (.int ((z : Int) * (k : Int))) h := mul_ok (by omega) (by omega)
          simp [cturn, R.bind_ok, R.calm_ok, q_cst, q_var, q_varK, q_bin, q_binK, q_binK2, q_neg, q_negK, q_not, q_and, q_andK_t, q_andK_f, q_or, q_orK_t, q_orK_f, q_cmp, q_cmpK, q_cmpK2, q_cmp2, q_cmp2K, q_cmp2K2, q_cmp2K3_t, q_cmp2K3_f, q_ite, q_iteK_t, q_iteK_f, q_tup, q_lst, q_dic, q_sub, q_subK, q_subK2, q_slc, q_slcK, q_slcK2, q_slcK3, q_rev, q_call, q_callK, q_bf, q_bfK, q_mt, q_mtK, q_mtK2, q_mt_int, q_lc, q_lcF, q_bfc, q_cfK, q_idx, q_idxK, q_nil, q_cons, q_consK, q_consK2, q_of, q_srcK_tup, q_srcK_str, q_srcK_ref, q_rng1, q_rng1K, q_rng2, q_rng2K, q_zip, q_zipK_tup, q_zipK_ref, q_enum, q_enumK, q_nm, q_tp, q_tpK, q_tpK_ref, q_sb, q_sbK, q_sbK2, q_unK, q_snil, q_scons, q_stoK, q_tnil, q_tcons, q_evtK_t, q_evtK_f, q_mk, q_evcK, q_asg, q_asgK, q_nxK, q_aug, q_augK, q_augK2, q_augK3, q_ife, q_ifeK_t, q_ifeK_f, q_for, q_forG, q_ret, q_retK, q_retn, q_expr, q_dropK, q_pass, q_brk, q_cont, q_try, q_xnil, q_xcons, q_nx, q_rt, q_bk, q_ct, q_tst, q_tstK, q_fin_rt, q_fin_nx, q_t0, q_l0, q_t1, q_l1, q_t2, q_l2, q_t3, q_l3, q_t4, q_l4, q_t5, q_l5, q_t6, q_l6, q_t7, q_l7, q_t8, q_l8, q_t9, q_l9, q_t10, q_l10, q_t11, q_l11, q_t12, q_l12, q_t13, q_l13, q_t14, q_l14, q_t15, q_l15, q_t16, q_l16, q_t17, q_l17, q_t18, q_l18, q_t19, q_l19, q_notK, gets, sets, wipes, cmpop, ofB, isv, eqh_int, eqh_str, eqh_bl, bfn, bIsi, isT, isTs, tyN, tysOf, TN.is, bInt, bLen, bTup, items, add_int, sub_int, app_at, app_at0, app_put, app_put0, alloc_0, cturn, mk]) (by rw [ranges_len]; exact Nat.le_trans (by simpa using hm) (show 1000000 ≤ LINE by decide))
      have hl : (ranges 0 many).map (fun x => match x with | .int k => W.tup [.str [c], .int ((place : Int) + (z : Int) * k), .int (z : Int)] | _ => .non) = (fieldT c z many place).map triW := by
        rw [hf, show (0 : Int) = ((0 : Nat) : Int) from rfl, ranges_eq, List.map_map, List.map_map]
        apply List.map_congr_left
        intro k _
        simp [triW, Int.mul_comm]
      rw [hl, List.nil_append] at ht
      generalize ranges 0 many = rr at *
      rw [show ((place + many * z : Nat) : Int) = (place : Int) + (z : Int) * (many : Int) by rw [Int.natCast_add, Int.natCast_mul, Int.mul_comm]]
      rw [run_cons]
      simp [R.bind_ok, R.calm_ok, q_cst, q_var, q_varK, q_bin, q_binK, q_binK2, q_neg, q_negK, q_not, q_and, q_andK_t, q_andK_f, q_or, q_orK_t, q_orK_f, q_cmp, q_cmpK, q_cmpK2, q_cmp2, q_cmp2K, q_cmp2K2, q_cmp2K3_t, q_cmp2K3_f, q_ite, q_iteK_t, q_iteK_f, q_tup, q_lst, q_dic, q_sub, q_subK, q_subK2, q_slc, q_slcK, q_slcK2, q_slcK3, q_rev, q_call, q_callK, q_bf, q_bfK, q_mt, q_mtK, q_mtK2, q_mt_int, q_lc, q_lcF, q_bfc, q_cfK, q_idx, q_idxK, q_nil, q_cons, q_consK, q_consK2, q_of, q_srcK_tup, q_srcK_str, q_srcK_ref, q_rng1, q_rng1K, q_rng2, q_rng2K, q_zip, q_zipK_tup, q_zipK_ref, q_enum, q_enumK, q_nm, q_tp, q_tpK, q_tpK_ref, q_sb, q_sbK, q_sbK2, q_unK, q_snil, q_scons, q_stoK, q_tnil, q_tcons, q_evtK_t, q_evtK_f, q_mk, q_evcK, q_asg, q_asgK, q_nxK, q_aug, q_augK, q_augK2, q_augK3, q_ife, q_ifeK_t, q_ifeK_f, q_for, q_forG, q_ret, q_retK, q_retn, q_expr, q_dropK, q_pass, q_brk, q_cont, q_try, q_xnil, q_xcons, q_nx, q_rt, q_bk, q_ct, q_tst, q_tstK, q_fin_rt, q_fin_nx, q_t0, q_l0, q_t1, q_l1, q_t2, q_l2, q_t3, q_l3, q_t4, q_l4, q_t5, q_l5, q_t6, q_l6, q_t7, q_l7, q_t8, q_l8, q_t9, q_l9, q_t10, q_l10, q_t11, q_l11, q_t12, q_l12, q_t13, q_l13, q_t14, q_l14, q_t15, q_l15, q_t16, q_l16, q_t17, q_l17, q_t18, q_l18, q_t19, q_l19, q_notK, gets, sets, wipes, cmpop, ofB, isv, eqh_int, eqh_str, eqh_bl, bfn, bIsi, isT, isTs, tyN, tysOf, TN.is, bInt, bLen, bTup, items, add_int, sub_int, app_at, app_at0, app_put, app_put0, alloc_0, cturn, c1']
      rw [run_nx]
      rw [run_cons]
      simp [R.bind_ok, R.calm_ok, q_cst, q_var, q_varK, q_bin, q_binK, q_binK2, q_neg, q_negK, q_not, q_and, q_andK_t, q_andK_f, q_or, q_orK_t, q_orK_f, q_cmp, q_cmpK, q_cmpK2, q_cmp2, q_cmp2K, q_cmp2K2, q_cmp2K3_t, q_cmp2K3_f, q_ite, q_iteK_t, q_iteK_f, q_tup, q_lst, q_dic, q_sub, q_subK, q_subK2, q_slc, q_slcK, q_slcK2, q_slcK3, q_rev, q_call, q_callK, q_bf, q_bfK, q_mt, q_mtK, q_mtK2, q_mt_int, q_lc, q_lcF, q_bfc, q_cfK, q_idx, q_idxK, q_nil, q_cons, q_consK, q_consK2, q_of, q_srcK_tup, q_srcK_str, q_srcK_ref, q_rng1, q_rng1K, q_rng2, q_rng2K, q_zip, q_zipK_tup, q_zipK_ref, q_enum, q_enumK, q_nm, q_tp, q_tpK, q_tpK_ref, q_sb, q_sbK, q_sbK2, q_unK, q_snil, q_scons, q_stoK, q_tnil, q_tcons, q_evtK_t, q_evtK_f, q_mk, q_evcK, q_asg, q_asgK, q_nxK, q_aug, q_augK, q_augK2, q_augK3, q_ife, q_ifeK_t, q_ifeK_f, q_for, q_forG, q_ret, q_retK, q_retn, q_expr, q_dropK, q_pass, q_brk, q_cont, q_try, q_xnil, q_xcons, q_nx, q_rt, q_bk, q_ct, q_tst, q_tstK, q_fin_rt, q_fin_nx, q_t0, q_l0, q_t1, q_l1, q_t2, q_l2, q_t3, q_l3, q_t4, q_l4, q_t5, q_l5, q_t6, q_l6, q_t7, q_l7, q_t8, q_l8, q_t9, q_l9, q_t10, q_l10, q_t11, q_l11, q_t12, q_l12, q_t13, q_l13, q_t14, q_l14, q_t15, q_l15, q_t16, q_l16, q_t17, q_l17, q_t18, q_l18, q_t19, q_l19, q_notK, gets, sets, wipes, cmpop, ofB, isv, eqh_int, eqh_str, eqh_bl, bfn, bIsi, isT, isTs, tyN, tysOf, TN.is, bInt, bLen, bTup, items, add_int, sub_int, app_at, app_at0, app_put, app_put0, alloc_0, cturn, isIn_sp, c2']
      rw [run_nx]
      rw [run_cons]
      simp [R.bind_ok, R.calm_ok, q_cst, q_var, q_varK, q_bin, q_binK, q_binK2, q_neg, q_negK, q_not, q_and, q_andK_t, q_andK_f, q_or, q_orK_t, q_orK_f, q_cmp, q_cmpK, q_cmpK2, q_cmp2, q_cmp2K, q_cmp2K2, q_cmp2K3_t, q_cmp2K3_f, q_ite, q_iteK_t, q_iteK_f, q_tup, q_lst, q_dic, q_sub, q_subK, q_subK2, q_slc, q_slcK, q_slcK2, q_slcK3, q_rev, q_call, q_callK, q_bf, q_bfK, q_mt, q_mtK, q_mtK2, q_mt_int, q_lc, q_lcF, q_bfc, q_cfK, q_idx, q_idxK, q_nil, q_cons, q_consK, q_consK2, q_of, q_srcK_tup, q_srcK_str, q_srcK_ref, q_rng1, q_rng1K, q_rng2, q_rng2K, q_zip, q_zipK_tup, q_zipK_ref, q_enum, q_enumK, q_nm, q_tp, q_tpK, q_tpK_ref, q_sb, q_sbK, q_sbK2, q_unK, q_snil, q_scons, q_stoK, q_tnil, q_tcons, q_evtK_t, q_evtK_f, q_mk, q_evcK, q_asg, q_asgK, q_nxK, q_aug, q_augK, q_augK2, q_augK3, q_ife, q_ifeK_t, q_ifeK_f, q_for, q_forG, q_ret, q_retK, q_retn, q_expr, q_dropK, q_pass, q_brk, q_cont, q_try, q_xnil, q_xcons, q_nx, q_rt, q_bk, q_ct, q_tst, q_tstK, q_fin_rt, q_fin_nx, q_t0, q_l0, q_t1, q_l1, q_t2, q_l2, q_t3, q_l3, q_t4, q_l4, q_t5, q_l5, q_t6, q_l6, q_t7, q_l7, q_t8, q_l8, q_t9, q_l9, q_t10, q_l10, q_t11, q_l11, q_t12, q_l12, q_t13, q_l13, q_t14, q_l14, q_t15, q_l15, q_t16, q_l16, q_t17, q_l17, q_t18, q_l18, q_t19, q_l19, q_notK, gets, sets, wipes, cmpop, ofB, isv, eqh_int, eqh_str, eqh_bl, bfn, bIsi, isT, isTs, tyN, tysOf, TN.is, bInt, bLen, bTup, items, add_int, sub_int, app_at, app_at0, app_put, app_put0, alloc_0, cturn, run_rt, run_nx, run_nil, er, ht, mz]
end
end Vl
set_option maxRecDepth 100000
set_option maxHeartbeats 4000000
namespace Vl
/-! ### tables of sizes -/
def szI (kvs : List (List Nat × W)) (c : Nat) : Option Nat := match lookK kvs [c] with
  | some (.int i) => some i.toNat
  | _ => none
def okT (kvs : List (List Nat × W)) : Bool := kvs.all fun p => match p.2 with
  | .int i => decide (0 ≤ i)
  | _ => false
theorem szI_look : ∀ {kvs : List (List Nat × W)}, okT kvs = true → ∀ c, lookK kvs [c] = (szI kvs c).map fun z => W.int (z : Int)
  | [], _, c => rfl
  | (k, v) :: kvs, h, c => by
    simp only [okT, List.all_cons, Bool.and_eq_true] at h
    have ih := szI_look (kvs := kvs) h.2 c
    unfold szI at ih ⊢
    simp only [lookK]
    by_cases hk : [c] = k
    · rw [if_pos hk]
      cases v with
      | int i =>
        have h0 : 0 ≤ i := of_decide_eq_true h.1
        show _ = some (W.int (i.toNat : Int))
        rw [Int.toNat_of_nonneg h0]
      | _ => cases h.1
    · rw [if_neg hk]
      exact ih
def CODES : List Nat := [120, 99, 98, 66, 63, 104, 72, 105, 73, 108, 76, 113, 81, 110, 78, 80, 101, 102, 100, 115, 112]
theorem szI_out : ∀ {kvs : List (List Nat × W)}, kvs.all (fun p => CODES.any fun c => p.1 == [c]) = true → ∀ c, c ∉ CODES → szI kvs c = none
  | [], _, c, _ => rfl
  | (k, v) :: kvs, h, c, hc => by
    simp only [List.all_cons, Bool.and_eq_true] at h
    have ih := szI_out (kvs := kvs) h.2 c hc
    unfold szI at ih ⊢
    simp only [lookK]
    rw [if_neg]
    · exact ih
    · rintro rfl
      obtain ⟨c', h1, h2⟩ := List.any_eq_true.mp h.1
      have := eq_of_beq h2
      cases this
      exact hc h1
/-- the size of a code -/
def szOf (nat : Bool) (c : Nat) : Option Nat := szI (if nat then t_NATIVE else t_STANDARD) c
theorem sz_tab (nat : Bool) : okT (if nat then t_NATIVE else t_STANDARD) = true ∧ (if nat then t_NATIVE else t_STANDARD).all (fun p => CODES.any fun c => p.1 == [c]) = true := by cases nat <;> decide
theorem szOf_facts {nat : Bool} {c z : Nat} (h : szOf nat c = some z) : 0 < z ∧ z ≤ 8 ∧ isDig c = false ∧ c ≠ 32 ∧ (c = 120 ∨ c = 115 ∨ c = 112 → z = 1) := by
  have hc : c ∈ CODES := by
    by_cases hc : c ∈ CODES
    · exact hc
    · have := szI_out (sz_tab nat).2 c hc
      unfold szOf at h
      rw [this] at h
      cases h
  have key : ∀ nat : Bool, ∀ c ∈ CODES, ∀ z, szOf nat c = some z → 0 < z ∧ z ≤ 8 ∧ isDig c = false ∧ c ≠ 32 ∧ (c = 120 ∨ c = 115 ∨ c = 112 → z = 1) := by
    have k2 : ∀ nat : Bool, (CODES.all fun c => match szOf nat c with
      | some z => decide (0 < z ∧ z ≤ 8 ∧ isDig c = false ∧ c ≠ 32 ∧ (c = 120 ∨ c = 115 ∨ c = 112 → z = 1))
      | none => true) = true := by intro nat; cases nat <;> decide
    intro nat c hc z hz
    have := List.all_eq_true.mp (k2 nat) c hc
    rw [hz] at this
    exact of_decide_eq_true this
  exact key nat c hc z h
/-- a table that says the same -/
theorem sz_same {a b : List (List Nat × W)} (h1 : a.all (fun p => CODES.any fun c => p.1 == [c]) = true) (h2 : b.all (fun p => CODES.any fun c => p.1 == [c]) = true) (h : ∀ c ∈ CODES, szI a c = szI b c) (c : Nat) : szI a c = szI b c := by
  by_cases hc : c ∈ CODES
  · exact h c hc
  · rw [szI_out h1 c hc, szI_out h2 c hc]
/-! ### what a layout is read as -/
structure LS where
  cnt : List Nat
  place : Nat
  acc : List (Nat × Nat × Nat)
def manyOf (cnt : List Nat) : Nat := if cnt = [] then 1 else decV cnt
def upTo (nat : Bool) (place z : Nat) : Nat := if nat then place + (z - place % z) % z else place
def stepL (nat : Bool) (st : LS) (c : Nat) : Option LS :=
  if isDig c then some ⟨st.cnt ++ [c], st.place, st.acc⟩
  else match szOf nat c with
    | none => if c = 32 ∧ st.cnt = [] then some st else none
    | some z => some ⟨[], upTo nat st.place z + manyOf st.cnt * z, st.acc ++ fieldT c z (manyOf st.cnt) (upTo nat st.place z)⟩
def runL (nat : Bool) : List Nat → LS → Nat → Sum Nat LS
  | [], st, _ => .inr st
  | c :: s, st, i => match stepL nat st c with
    | some st' => runL nat s st' (i + 1)
    | none => .inl i
/-- how many things a layout tells, at most -/
def tot : List Nat → List Nat → Nat
  | [], _ => 0
  | c :: s, cnt => if isDig c then tot s (cnt ++ [c]) else manyOf cnt + 1 + tot s []
theorem fieldT_len (c z many place : Nat) : (fieldT c z many place).length ≤ many + 1 := by
  unfold fieldT
  split
  · simp
  · split
    · simp
    · simp
theorem up_dvd {place z : Nat} (hz : 0 < z) : (place + (z - place % z) % z) % z = 0 := by
  have h1 := Nat.mod_lt place hz
  by_cases h0 : place % z = 0
  · rw [h0, Nat.sub_zero, Nat.mod_self, Nat.add_zero, h0]
  · rw [Nat.mod_eq_of_lt (show z - place % z < z by omega)]
    have := Nat.div_add_mod place z
    have e : place + (z - place % z) = z * (place / z + 1) := by rw [Nat.mul_add]; omega
    rw [e, Nat.mul_mod_right]
section
variable {kd : Kd} {P : List Fn} [Tab P] [KTab kd] {d : Nat} {h : L}
theorem isIn_dig (c : Nat) : isIn kd h (.str [c]) (.str [48, 49, 50, 51, 52, 53, 54, 55, 56, 57]) = some (isDig c) := by
  show some _ = _
  rw [isDig_mem]
theorem isIn_dic {r : Nat} {kvs : List (List Nat × W)} {k : List Nat} (e : h[r]? = some (.dic kvs)) : isIn kd h (.str k) (.ref r) = some (lookK kvs k).isSome := by
  simp only [isIn, e]
theorem sub_dic {r : Nat} {kvs : List (List Nat × W)} {k : List Nat} {v : W} (e : h[r]? = some (.dic kvs)) (q : lookK kvs k = some v) : subv kd (.ref r) (.str k) h = .ok v h := by
  simp only [subv, e, q]
/-- the text's order -/
inductive Ord : List Nat → Bool → Bool → Prop
  | n : Ord [] true false
  | a : Ord [64] true false
  | e : Ord [61] false false
  | l : Ord [60] false false
  | g : Ord [62] false true
  | x : Ord [33] false true
def vrS (n : Nat) : S := nthS (loopB (nthS (c_law_v_read F_law_v_sizes).body 2)) n
theorem isIn_nat {o : List Nat} {nat gr : Bool} (O : Ord o nat gr) : isIn kd h (.str o) (.tup [.str [], .str [64]]) = some nat := by
  cases O <;> rfl
theorem vr_up {C : Orc} {x0 x2 x5 x6 x8 x9 : Option W} {q z : Nat} {c : Nat} {o : List Nat} {nat gr : Bool} (O : Ord o nat gr) (hz : 0 < z ∧ z ≤ 8) (hs : subv kd (.ref q) (.str [c]) h = .ok (.int (z : Int)) h) :
    ∀ (m place n : Nat), (upTo nat place z - place) = m → m < n → whiles (tstE C kd (loopT (nthS (match nthS (match nthS (match vrS 1 with | .ife _ _ b => b | _ => .nil) 0 with | .ife _ _ b => b | _ => .nil) 0 with | .ife _ a _ => a | _ => .nil) 1))) (exs C kd (loopB (nthS (match nthS (match nthS (match vrS 1 with | .ife _ _ b => b | _ => .nil) 0 with | .ife _ _ b => b | _ => .nil) 0 with | .ife _ a _ => a | _ => .nil) 1))) n
      [x0, some (.str o), x2, some (.ref q), some (.int (place : Int)), x5, x6, some (.str [c]), x8, x9] h = .ok (.nx [x0, some (.str o), x2, some (.ref q), some (.int ((upTo nat place z : Nat) : Int)), x5, x6, some (.str [c]), x8, x9]) h := by
  simp only [vrS, nthS, loopB, loopT, c_law_v_read]
  have on := isIn_nat (kd := kd) (h := h) O
  intro m
  induction m with
  | zero =>
    intro place n hm hn
    cases n with
    | zero => omega
    | succ n =>
    have e0 : upTo nat place z = place := by unfold upTo at hm ⊢; split at hm <;> simp_all
    rw [e0]
    refine whiles_stop ?_
    cases nat with
    | false => simp [R.bind_ok, R.calm_ok, q_cst, q_var, q_varK, q_bin, q_binK, q_binK2, q_neg, q_negK, q_not, q_and, q_andK_t, q_andK_f, q_or, q_orK_t, q_orK_f, q_cmp, q_cmpK, q_cmpK2, q_cmp2, q_cmp2K, q_cmp2K2, q_cmp2K3_t, q_cmp2K3_f, q_ite, q_iteK_t, q_iteK_f, q_tup, q_lst, q_dic, q_sub, q_subK, q_subK2, q_slc, q_slcK, q_slcK2, q_slcK3, q_rev, q_call, q_callK, q_bf, q_bfK, q_mt, q_mtK, q_mtK2, q_mt_int, q_lc, q_lcF, q_bfc, q_cfK, q_idx, q_idxK, q_nil, q_cons, q_consK, q_consK2, q_of, q_srcK_tup, q_srcK_str, q_srcK_ref, q_rng1, q_rng1K, q_rng2, q_rng2K, q_zip, q_zipK_tup, q_zipK_ref, q_enum, q_enumK, q_nm, q_tp, q_tpK, q_tpK_ref, q_sb, q_sbK, q_sbK2, q_unK, q_snil, q_scons, q_stoK, q_tnil, q_tcons, q_evtK_t, q_evtK_f, q_mk, q_evcK, q_asg, q_asgK, q_nxK, q_aug, q_augK, q_augK2, q_augK3, q_ife, q_ifeK_t, q_ifeK_f, q_for, q_forG, q_ret, q_retK, q_retn, q_expr, q_dropK, q_pass, q_brk, q_cont, q_try, q_xnil, q_xcons, q_nx, q_rt, q_bk, q_ct, q_tst, q_tstK, q_fin_rt, q_fin_nx, q_t0, q_l0, q_t1, q_l1, q_t2, q_l2, q_t3, q_l3, q_t4, q_l4, q_t5, q_l5, q_t6, q_l6, q_t7, q_l7, q_t8, q_l8, q_t9, q_l9, q_t10, q_l10, q_t11, q_l11, q_t12, q_l12, q_t13, q_l13, q_t14, q_l14, q_t15, q_l15, q_t16, q_l16, q_t17, q_l17, q_t18, q_l18, q_t19, q_l19, q_notK, gets, sets, wipes, cmpop, ofB, isv, eqh_int, eqh_str, eqh_bl, bfn, bIsi, isT, isTs, tyN, tysOf, TN.is, bInt, bLen, bTup, items, add_int, sub_int, app_at, app_at0, app_put, app_put0, alloc_0, cturn, on]
    | true =>
      have e1 : place % z = 0 := by
        have := up_dvd (place := place) hz.1
        unfold upTo at e0
        simp only [if_true] at e0
        rw [e0] at this
        exact this
      have md : binop .mod (.int (place : Int)) (.int (z : Int)) h = .ok (.int ((place % z : Nat) : Int)) h := mod_ok (by omega)
      rw [e1] at md
      simp [R.bind_ok, R.calm_ok, q_cst, q_var, q_varK, q_bin, q_binK, q_binK2, q_neg, q_negK, q_not, q_and, q_andK_t, q_andK_f, q_or, q_orK_t, q_orK_f, q_cmp, q_cmpK, q_cmpK2, q_cmp2, q_cmp2K, q_cmp2K2, q_cmp2K3_t, q_cmp2K3_f, q_ite, q_iteK_t, q_iteK_f, q_tup, q_lst, q_dic, q_sub, q_subK, q_subK2, q_slc, q_slcK, q_slcK2, q_slcK3, q_rev, q_call, q_callK, q_bf, q_bfK, q_mt, q_mtK, q_mtK2, q_mt_int, q_lc, q_lcF, q_bfc, q_cfK, q_idx, q_idxK, q_nil, q_cons, q_consK, q_consK2, q_of, q_srcK_tup, q_srcK_str, q_srcK_ref, q_rng1, q_rng1K, q_rng2, q_rng2K, q_zip, q_zipK_tup, q_zipK_ref, q_enum, q_enumK, q_nm, q_tp, q_tpK, q_tpK_ref, q_sb, q_sbK, q_sbK2, q_unK, q_snil, q_scons, q_stoK, q_tnil, q_tcons, q_evtK_t, q_evtK_f, q_mk, q_evcK, q_asg, q_asgK, q_nxK, q_aug, q_augK, q_augK2, q_augK3, q_ife, q_ifeK_t, q_ifeK_f, q_for, q_forG, q_ret, q_retK, q_retn, q_expr, q_dropK, q_pass, q_brk, q_cont, q_try, q_xnil, q_xcons, q_nx, q_rt, q_bk, q_ct, q_tst, q_tstK, q_fin_rt, q_fin_nx, q_t0, q_l0, q_t1, q_l1, q_t2, q_l2, q_t3, q_l3, q_t4, q_l4, q_t5, q_l5, q_t6, q_l6, q_t7, q_l7, q_t8, q_l8, q_t9, q_l9, q_t10, q_l10, q_t11, q_l11, q_t12, q_l12, q_t13, q_l13, q_t14, q_l14, q_t15, q_l15, q_t16, q_l16, q_t17, q_l17, q_t18, q_l18, q_t19, q_l19, q_notK, gets, sets, wipes, cmpop, ofB, isv, eqh_int, eqh_str, eqh_bl, bfn, bIsi, isT, isTs, tyN, tysOf, TN.is, bInt, bLen, bTup, items, add_int, sub_int, app_at, app_at0, app_put, app_put0, alloc_0, cturn, on, hs, md]
  | succ m ih =>
    intro place n hm hn
    cases n with
    | zero => omega
    | succ n =>
    cases nat with
    | false => simp [upTo] at hm
    | true =>
      have h1 := Nat.mod_lt place hz.1
      have h0 : place % z ≠ 0 := by
        intro e
        simp [upTo, e] at hm
      have e1 : (place + 1) % z = (place % z + 1) % z := (Nat.mod_add_mod place z 1).symm
      have e2 : upTo true (place + 1) z = upTo true place z := by
        simp only [upTo, if_true]
        rw [Nat.mod_eq_of_lt (show z - place % z < z by omega)]
        by_cases hl : place % z + 1 = z
        · rw [e1, hl, Nat.mod_self, Nat.sub_zero, Nat.mod_self]
          omega
        · rw [e1, Nat.mod_eq_of_lt (show place % z + 1 < z by omega), Nat.mod_eq_of_lt (by omega)]
          omega
      have ih' := ih (place + 1) n (by rw [e2]; omega) (by omega)
      rw [e2] at ih'
      have md : binop .mod (.int (place : Int)) (.int (z : Int)) h = .ok (.int ((place % z : Nat) : Int)) h := mod_ok (by omega)
      have hp : (0 : Int) < ((place % z : Nat) : Int) := by omega
      generalize ((place % z : Nat) : Int) = pm at *
      refine (whiles_go (σ' := [x0, some (.str o), x2, some (.ref q), some (.int ((place + 1 : Nat) : Int)), x5, x6, some (.str [c]), x8, x9]) (h' := h) ?_ ?_).trans ih'
      · simp [R.bind_ok, R.calm_ok, q_cst, q_var, q_varK, q_bin, q_binK, q_binK2, q_neg, q_negK, q_not, q_and, q_andK_t, q_andK_f, q_or, q_orK_t, q_orK_f, q_cmp, q_cmpK, q_cmpK2, q_cmp2, q_cmp2K, q_cmp2K2, q_cmp2K3_t, q_cmp2K3_f, q_ite, q_iteK_t, q_iteK_f, q_tup, q_lst, q_dic, q_sub, q_subK, q_subK2, q_slc, q_slcK, q_slcK2, q_slcK3, q_rev, q_call, q_callK, q_bf, q_bfK, q_mt, q_mtK, q_mtK2, q_mt_int, q_lc, q_lcF, q_bfc, q_cfK, q_idx, q_idxK, q_nil, q_cons, q_consK, q_consK2, q_of, q_srcK_tup, q_srcK_str, q_srcK_ref, q_rng1, q_rng1K, q_rng2, q_rng2K, q_zip, q_zipK_tup, q_zipK_ref, q_enum, q_enumK, q_nm, q_tp, q_tpK, q_tpK_ref, q_sb, q_sbK, q_sbK2, q_unK, q_snil, q_scons, q_stoK, q_tnil, q_tcons, q_evtK_t, q_evtK_f, q_mk, q_evcK, q_asg, q_asgK, q_nxK, q_aug, q_augK, q_augK2, q_augK3, q_ife, q_ifeK_t, q_ifeK_f, q_for, q_forG, q_ret, q_retK, q_retn, q_expr, q_dropK, q_pass, q_brk, q_cont, q_try, q_xnil, q_xcons, q_nx, q_rt, q_bk, q_ct, q_tst, q_tstK, q_fin_rt, q_fin_nx, q_t0, q_l0, q_t1, q_l1, q_t2, q_l2, q_t3, q_l3, q_t4, q_l4, q_t5, q_l5, q_t6, q_l6, q_t7, q_l7, q_t8, q_l8, q_t9, q_l9, q_t10, q_l10, q_t11, q_l11, q_t12, q_l12, q_t13, q_l13, q_t14, q_l14, q_t15, q_l15, q_t16, q_l16, q_t17, q_l17, q_t18, q_l18, q_t19, q_l19, q_notK, gets, sets, wipes, cmpop, ofB, isv, eqh_int, eqh_str, eqh_bl, bfn, bIsi, isT, isTs, tyN, tysOf, TN.is, bInt, bLen, bTup, items, add_int, sub_int, app_at, app_at0, app_put, app_put0, alloc_0, cturn, on, hs, md, hp]
      · simp [R.bind_ok, R.calm_ok, q_cst, q_var, q_varK, q_bin, q_binK, q_binK2, q_neg, q_negK, q_not, q_and, q_andK_t, q_andK_f, q_or, q_orK_t, q_orK_f, q_cmp, q_cmpK, q_cmpK2, q_cmp2, q_cmp2K, q_cmp2K2, q_cmp2K3_t, q_cmp2K3_f, q_ite, q_iteK_t, q_iteK_f, q_tup, q_lst, q_dic, q_sub, q_subK, q_subK2, q_slc, q_slcK, q_slcK2, q_slcK3, q_rev, q_call, q_callK, q_bf, q_bfK, q_mt, q_mtK, q_mtK2, q_mt_int, q_lc, q_lcF, q_bfc, q_cfK, q_idx, q_idxK, q_nil, q_cons, q_consK, q_consK2, q_of, q_srcK_tup, q_srcK_str, q_srcK_ref, q_rng1, q_rng1K, q_rng2, q_rng2K, q_zip, q_zipK_tup, q_zipK_ref, q_enum, q_enumK, q_nm, q_tp, q_tpK, q_tpK_ref, q_sb, q_sbK, q_sbK2, q_unK, q_snil, q_scons, q_stoK, q_tnil, q_tcons, q_evtK_t, q_evtK_f, q_mk, q_evcK, q_asg, q_asgK, q_nxK, q_aug, q_augK, q_augK2, q_augK3, q_ife, q_ifeK_t, q_ifeK_f, q_for, q_forG, q_ret, q_retK, q_retn, q_expr, q_dropK, q_pass, q_brk, q_cont, q_try, q_xnil, q_xcons, q_nx, q_rt, q_bk, q_ct, q_tst, q_tstK, q_fin_rt, q_fin_nx, q_t0, q_l0, q_t1, q_l1, q_t2, q_l2, q_t3, q_l3, q_t4, q_l4, q_t5, q_l5, q_t6, q_l6, q_t7, q_l7, q_t8, q_l8, q_t9, q_l9, q_t10, q_l10, q_t11, q_l11, q_t12, q_l12, q_t13, q_l13, q_t14, q_l14, q_t15, q_l15, q_t16, q_l16, q_t17, q_l17, q_t18, q_l18, q_t19, q_l19, q_notK, gets, sets, wipes, cmpop, ofB, isv, eqh_int, eqh_str, eqh_bl, bfn, bIsi, isT, isTs, tyN, tysOf, TN.is, bInt, bLen, bTup, items, add_int, sub_int, app_at, app_at0, app_put, app_put0, alloc_0, cturn]
end
end Vl
set_option maxRecDepth 100000
set_option maxHeartbeats 4000000
namespace Vl
theorem set_at {H : L} {p : Nat} {o : O} (hp : p < H.length) : (H.set p o)[p]? = some o := by simp [hp]
theorem set_at_ne {H : L} {p q : Nat} {o o' : O} (hq : H[q]? = some o') (n : p ≠ q) : (H.set p o)[q]? = some o' := by
  rw [List.getElem?_set_ne n]
  exact hq
theorem append_set {H : L} {p : Nat} {xs : List W} {y : W} (hp : p < H.length) (hl : xs.length < LINE) : mAppend p y (H.set p (.lst xs)) = .ok .non (H.set p (.lst (xs ++ [y]))) := by
  unfold mAppend
  rw [set_at hp]
  simp [hl]
def vrF : S := nthS (match nthS (match nthS (match vrS 1 with | .ife _ _ b => b | _ => .nil) 0 with | .ife _ _ b => b | _ => .nil) 0 with | .ife _ a _ => a | _ => .nil) 2
section
variable {kd : Kd} {P : List Fn} [Tab P] [KTab kd] {d : Nat} {h H : L}
theorem vr_for {C : Orc} {x0 x1 x2 x6 : Option W} {p q z c many place : Nat} {w : Int} (hz : 0 < z ∧ z ≤ 8) (hp : p < H.length) (hpq : p ≠ q) (hq : H[q]? = some (.dic tbl)) (hs : lookK tbl [c] = some (.int (z : Int))) (hw : w = if isSP c then (many : Int) else (z : Int)) :
    ∀ (m lo : Nat) (xs : List W) (x9 : Option W), lo + m ≤ 1000000 → xs.length + m ≤ LINE →
    ∃ x9', fors [] (forG C kd (.nm 9)) (exs C kd (loopB vrF)) (ranges (lo : Int) m) [x0, x1, x2, some (.ref q), some (.int (place : Int)), some (.ref p), x6, some (.str [c]), some (.int (many : Int)), x9] (H.set p (.lst xs))
      = .ok (.nx [x0, x1, x2, some (.ref q), some (.int (place : Int)), some (.ref p), x6, some (.str [c]), some (.int (many : Int)), x9']) (H.set p (.lst (xs ++ (List.range m).map fun k => .tup [.str [c], .int ((place + (lo + k) * z : Nat) : Int), .int w]))) := by
  simp only [vrF, vrS, nthS, loopB, c_law_v_read]
  intro m
  induction m with
  | zero =>
    intro lo xs x9 _ _
    exact ⟨x9, by simp [ranges, fors, heldB]⟩
  | succ m ih =>
    intro lo xs x9 h1 h2
    obtain ⟨x9', e⟩ := ih (lo + 1) (xs ++ [.tup [.str [c], .int ((place + lo * z : Nat) : Int), .int w]]) (some (.int (lo : Int))) (by omega) (by simp; omega)
    refine ⟨x9', ?_⟩
    have el : xs ++ [W.tup [.str [c], .int ((place + lo * z : Nat) : Int), .int w]] ++ (List.range m).map (fun k => W.tup [.str [c], .int ((place + (lo + 1 + k) * z : Nat) : Int), .int w]) = xs ++ (List.range (m + 1)).map fun k => W.tup [.str [c], .int ((place + (lo + k) * z : Nat) : Int), .int w] := by
      rw [List.range_succ_eq_map, List.map_cons, List.map_map, List.append_assoc]
      rw [List.singleton_append, Nat.add_zero]
      congr 2
      apply List.map_congr_left
      intro k _
      simp only [Function.comp]
      rw [show lo + 1 + k = lo + (k + 1) by omega]
    rw [el] at e
    rw [← e]
    have sd : subv kd (.ref q) (.str [c]) (H.set p (.lst xs)) = .ok (.int (z : Int)) (H.set p (.lst xs)) := sub_dic (set_at_ne hq hpq) hs
    have ml : binop .mul (.int (lo : Int)) (.int (z : Int)) (H.set p (.lst xs)) = .ok (.int ((lo : Int) * (z : Int))) (H.set p (.lst xs)) := mul_ok (by omega) (by omega)
    have il : isLst (H.set p (.lst xs)) p = true := by unfold isLst; rw [set_at hp]
    have mo : mtOk .append (.ref p) (H.set p (.lst xs)) = true := il
    have ap := append_set (H := H) (y := .tup [.str [c], .int ((place : Int) + (lo : Int) * (z : Int)), .int w]) hp (show xs.length < LINE by omega)
    have hr : ranges (lo : Int) (m + 1) = .int (lo : Int) :: ranges ((lo + 1 : Nat) : Int) m := rfl
    rw [hr]
    simp only [fors, heldB, if_true]
    subst hw
    rw [show ((place + lo * z : Nat) : Int) = (place : Int) + (lo : Int) * (z : Int) by rw [Int.natCast_add, Int.natCast_mul]]
    generalize ranges ((lo + 1 : Nat) : Int) m = rr at *
    cases hsp : isSP c with
    | true =>
      rw [hsp] at ap
      simp only [if_true] at ap
      simp [R.bind_ok, R.calm_ok, q_cst, q_var, q_varK, q_bin, q_binK, q_binK2, q_neg, q_negK, q_not, q_and, q_andK_t, q_andK_f, q_or, q_orK_t, q_orK_f, q_cmp, q_cmpK, q_cmpK2, q_cmp2, q_cmp2K, q_cmp2K2, q_cmp2K3_t, q_cmp2K3_f, q_ite, q_iteK_t, q_iteK_f, q_tup, q_lst, q_dic, q_sub, q_subK, q_subK2, q_slc, q_slcK, q_slcK2, q_slcK3, q_rev, q_call, q_callK, q_bf, q_bfK, q_mt, q_mtK, q_mtK2, q_mt_int, q_lc, q_lcF, q_bfc, q_cfK, q_idx, q_idxK, q_nil, q_cons, q_consK, q_consK2, q_of, q_srcK_tup, q_srcK_str, q_srcK_ref, q_rng1, q_rng1K, q_rng2, q_rng2K, q_zip, q_zipK_tup, q_zipK_ref, q_enum, q_enumK, q_nm, q_tp, q_tpK, q_tpK_ref, q_sb, q_sbK, q_sbK2, q_unK, q_snil, q_scons, q_stoK, q_tnil, q_tcons, q_evtK_t, q_evtK_f, q_mk, q_evcK, q_asg, q_asgK, q_nxK, q_aug, q_augK, q_augK2, q_augK3, q_ife, q_ifeK_t, q_ifeK_f, q_for, q_forG, q_ret, q_retK, q_retn, q_expr, q_dropK, q_pass, q_brk, q_cont, q_try, q_xnil, q_xcons, q_nx, q_rt, q_bk, q_ct, q_tst, q_tstK, q_fin_rt, q_fin_nx, q_t0, q_l0, q_t1, q_l1, q_t2, q_l2, q_t3, q_l3, q_t4, q_l4, q_t5, q_l5, q_t6, q_l6, q_t7, q_l7, q_t8, q_l8, q_t9, q_l9, q_t10, q_l10, q_t11, q_l11, q_t12, q_l12, q_t13, q_l13, q_t14, q_l14, q_t15, q_l15, q_t16, q_l16, q_t17, q_l17, q_t18, q_l18, q_t19, q_l19, q_notK, gets, sets, wipes, cmpop, ofB, isv, eqh_int, eqh_str, eqh_bl, bfn, bIsi, isT, isTs, tyN, tysOf, TN.is, bInt, bLen, bTup, items, add_int, sub_int, app_at, app_at0, app_put, app_put0, alloc_0, cturn, sd, ml, q_mtK mo, isIn_sp, hsp, bmt, ap]
    | false =>
      rw [hsp] at ap
      simp only [Bool.false_eq_true, if_false] at ap
      simp [R.bind_ok, R.calm_ok, q_cst, q_var, q_varK, q_bin, q_binK, q_binK2, q_neg, q_negK, q_not, q_and, q_andK_t, q_andK_f, q_or, q_orK_t, q_orK_f, q_cmp, q_cmpK, q_cmpK2, q_cmp2, q_cmp2K, q_cmp2K2, q_cmp2K3_t, q_cmp2K3_f, q_ite, q_iteK_t, q_iteK_f, q_tup, q_lst, q_dic, q_sub, q_subK, q_subK2, q_slc, q_slcK, q_slcK2, q_slcK3, q_rev, q_call, q_callK, q_bf, q_bfK, q_mt, q_mtK, q_mtK2, q_mt_int, q_lc, q_lcF, q_bfc, q_cfK, q_idx, q_idxK, q_nil, q_cons, q_consK, q_consK2, q_of, q_srcK_tup, q_srcK_str, q_srcK_ref, q_rng1, q_rng1K, q_rng2, q_rng2K, q_zip, q_zipK_tup, q_zipK_ref, q_enum, q_enumK, q_nm, q_tp, q_tpK, q_tpK_ref, q_sb, q_sbK, q_sbK2, q_unK, q_snil, q_scons, q_stoK, q_tnil, q_tcons, q_evtK_t, q_evtK_f, q_mk, q_evcK, q_asg, q_asgK, q_nxK, q_aug, q_augK, q_augK2, q_augK3, q_ife, q_ifeK_t, q_ifeK_f, q_for, q_forG, q_ret, q_retK, q_retn, q_expr, q_dropK, q_pass, q_brk, q_cont, q_try, q_xnil, q_xcons, q_nx, q_rt, q_bk, q_ct, q_tst, q_tstK, q_fin_rt, q_fin_nx, q_t0, q_l0, q_t1, q_l1, q_t2, q_l2, q_t3, q_l3, q_t4, q_l4, q_t5, q_l5, q_t6, q_l6, q_t7, q_l7, q_t8, q_l8, q_t9, q_l9, q_t10, q_l10, q_t11, q_l11, q_t12, q_l12, q_t13, q_l13, q_t14, q_l14, q_t15, q_l15, q_t16, q_l16, q_t17, q_l17, q_t18, q_l18, q_t19, q_l19, q_notK, gets, sets, wipes, cmpop, ofB, isv, eqh_int, eqh_str, eqh_bl, bfn, bIsi, isT, isTs, tyN, tysOf, TN.is, bInt, bLen, bTup, items, add_int, sub_int, app_at, app_at0, app_put, app_put0, alloc_0, cturn, sd, ml, q_mtK mo, isIn_sp, hsp, bmt, ap]
/-- one sign of a layout -/
theorem vr_step {C : Orc} {t o : List Nat} {nat gr : Bool} {p q c i : Nat} {tbl : List (List Nat × W)} {x7 x8 x9 : Option W} {st : LS} (O : Ord o nat gr) (hp : p < H.length) (hpq : p ≠ q) (hq : H[q]? = some (.dic tbl)) (hok : okT tbl = true) (htb : ∀ c, szI tbl c = szOf nat c)
    (ht : t.length ≤ 640) (hc : t[i]? = some c) (hl : st.cnt.length ≤ 640) (hd : st.cnt.all isDig = true) (hm : manyOf st.cnt ≤ 1000000) (ha : st.acc.length + manyOf st.cnt + 1 ≤ 10000000) :
    ∃ y7 y8 y9, exs C kd (loopB (nthS (c_law_v_read F_law_v_sizes).body 2)) [some (.str t), some (.str o), some (.int (i : Int)), some (.ref q), some (.int (st.place : Int)), some (.ref p), some (.str st.cnt), x7, x8, x9] (H.set p (.lst (st.acc.map triW)))
      = match stepL nat st c with
        | some st' => .ok (.nx [some (.str t), some (.str o), some (.int (i : Int)), some (.ref q), some (.int (st'.place : Int)), some (.ref p), some (.str st'.cnt), y7, y8, y9]) (H.set p (.lst (st'.acc.map triW)))
        | none => .ok (.rt (.int (i : Int))) (H.set p (.lst (st.acc.map triW))) := by
  have hL : t.length ≤ LINE := Nat.le_trans ht (by decide)
  have h2 : ∀ h, subv kd (.str t) (.int (i : Int)) h = .ok (.str [c]) h := fun h => str_at hL hc
  have hq' : ∀ o', (H.set p o')[q]? = some (.dic tbl) := fun o' => set_at_ne hq hpq
  by_cases hdg : isDig c = true
  · refine ⟨some (.str [c]), x8, x9, ?_⟩
    have hs : stepL nat st c = some ⟨st.cnt ++ [c], st.place, st.acc⟩ := by simp [stepL, hdg]
    rw [hs]
    have ad : ∀ h, binop .add (.str st.cnt) (.str [c]) h = .ok (.str (st.cnt ++ [c])) h := fun h => if_pos (Nat.le_trans (show st.cnt.length + 1 ≤ 641 by omega) (by decide))
    simp only [nthS, loopB, c_law_v_read]
    simp [R.bind_ok, R.calm_ok, q_cst, q_var, q_varK, q_bin, q_binK, q_binK2, q_neg, q_negK, q_not, q_and, q_andK_t, q_andK_f, q_or, q_orK_t, q_orK_f, q_cmp, q_cmpK, q_cmpK2, q_cmp2, q_cmp2K, q_cmp2K2, q_cmp2K3_t, q_cmp2K3_f, q_ite, q_iteK_t, q_iteK_f, q_tup, q_lst, q_dic, q_sub, q_subK, q_subK2, q_slc, q_slcK, q_slcK2, q_slcK3, q_rev, q_call, q_callK, q_bf, q_bfK, q_mt, q_mtK, q_mtK2, q_mt_int, q_lc, q_lcF, q_bfc, q_cfK, q_idx, q_idxK, q_nil, q_cons, q_consK, q_consK2, q_of, q_srcK_tup, q_srcK_str, q_srcK_ref, q_rng1, q_rng1K, q_rng2, q_rng2K, q_zip, q_zipK_tup, q_zipK_ref, q_enum, q_enumK, q_nm, q_tp, q_tpK, q_tpK_ref, q_sb, q_sbK, q_sbK2, q_unK, q_snil, q_scons, q_stoK, q_tnil, q_tcons, q_evtK_t, q_evtK_f, q_mk, q_evcK, q_asg, q_asgK, q_nxK, q_aug, q_augK, q_augK2, q_augK3, q_ife, q_ifeK_t, q_ifeK_f, q_for, q_forG, q_ret, q_retK, q_retn, q_expr, q_dropK, q_pass, q_brk, q_cont, q_try, q_xnil, q_xcons, q_nx, q_rt, q_bk, q_ct, q_tst, q_tstK, q_fin_rt, q_fin_nx, q_t0, q_l0, q_t1, q_l1, q_t2, q_l2, q_t3, q_l3, q_t4, q_l4, q_t5, q_l5, q_t6, q_l6, q_t7, q_l7, q_t8, q_l8, q_t9, q_l9, q_t10, q_l10, q_t11, q_l11, q_t12, q_l12, q_t13, q_l13, q_t14, q_l14, q_t15, q_l15, q_t16, q_l16, q_t17, q_l17, q_t18, q_l18, q_t19, q_l19, q_notK, gets, sets, wipes, cmpop, ofB, isv, eqh_int, eqh_str, eqh_bl, bfn, bIsi, isT, isTs, tyN, tysOf, TN.is, bInt, bLen, bTup, items, add_int, sub_int, app_at, app_at0, app_put, app_put0, alloc_0, cturn, h2, isIn_dig, hdg, ad]
  · have hdg' : isDig c = false := by simpa using hdg
    cases hz : szOf nat c with
    | none =>
      have lk : lookK tbl [c] = none := by rw [szI_look hok, htb, hz]; rfl
      have ii := isIn_dic (kd := kd) (k := [c]) (hq' (.lst (st.acc.map triW)))
      rw [lk] at ii
      by_cases hsp : c = 32 ∧ st.cnt = []
      · refine ⟨some (.str [c]), x8, x9, ?_⟩
        have hs : stepL nat st c = some st := by
          unfold stepL
          rw [if_neg (by rw [hdg']; decide), hz]
          exact if_pos hsp
        rw [hs]
        have b1 : ([c] == [32]) = true := by rw [hsp.1]; rfl
        have b2 : (st.cnt == []) = true := by rw [hsp.2]; rfl
        simp only [nthS, loopB, c_law_v_read]
        simp [R.bind_ok, R.calm_ok, q_cst, q_var, q_varK, q_bin, q_binK, q_binK2, q_neg, q_negK, q_not, q_and, q_andK_t, q_andK_f, q_or, q_orK_t, q_orK_f, q_cmp, q_cmpK, q_cmpK2, q_cmp2, q_cmp2K, q_cmp2K2, q_cmp2K3_t, q_cmp2K3_f, q_ite, q_iteK_t, q_iteK_f, q_tup, q_lst, q_dic, q_sub, q_subK, q_subK2, q_slc, q_slcK, q_slcK2, q_slcK3, q_rev, q_call, q_callK, q_bf, q_bfK, q_mt, q_mtK, q_mtK2, q_mt_int, q_lc, q_lcF, q_bfc, q_cfK, q_idx, q_idxK, q_nil, q_cons, q_consK, q_consK2, q_of, q_srcK_tup, q_srcK_str, q_srcK_ref, q_rng1, q_rng1K, q_rng2, q_rng2K, q_zip, q_zipK_tup, q_zipK_ref, q_enum, q_enumK, q_nm, q_tp, q_tpK, q_tpK_ref, q_sb, q_sbK, q_sbK2, q_unK, q_snil, q_scons, q_stoK, q_tnil, q_tcons, q_evtK_t, q_evtK_f, q_mk, q_evcK, q_asg, q_asgK, q_nxK, q_aug, q_augK, q_augK2, q_augK3, q_ife, q_ifeK_t, q_ifeK_f, q_for, q_forG, q_ret, q_retK, q_retn, q_expr, q_dropK, q_pass, q_brk, q_cont, q_try, q_xnil, q_xcons, q_nx, q_rt, q_bk, q_ct, q_tst, q_tstK, q_fin_rt, q_fin_nx, q_t0, q_l0, q_t1, q_l1, q_t2, q_l2, q_t3, q_l3, q_t4, q_l4, q_t5, q_l5, q_t6, q_l6, q_t7, q_l7, q_t8, q_l8, q_t9, q_l9, q_t10, q_l10, q_t11, q_l11, q_t12, q_l12, q_t13, q_l13, q_t14, q_l14, q_t15, q_l15, q_t16, q_l16, q_t17, q_l17, q_t18, q_l18, q_t19, q_l19, q_notK, gets, sets, wipes, cmpop, ofB, isv, eqh_int, eqh_str, eqh_bl, bfn, bIsi, isT, isTs, tyN, tysOf, TN.is, bInt, bLen, bTup, items, add_int, sub_int, app_at, app_at0, app_put, app_put0, alloc_0, cturn, h2, isIn_dig, hdg', ii, b1, b2]
      · refine ⟨none, none, none, ?_⟩
        have hs : stepL nat st c = none := by simp [stepL, hdg', hz, hsp]
        rw [hs]
        by_cases h32 : c = 32
        · have b1 : ([c] == [32]) = true := by rw [h32]; rfl
          have b2 : (st.cnt == []) = false := by
            rw [beq_eq_false_iff_ne]
            exact fun e => hsp ⟨h32, e⟩
          simp only [nthS, loopB, c_law_v_read]
          simp [R.bind_ok, R.calm_ok, q_cst, q_var, q_varK, q_bin, q_binK, q_binK2, q_neg, q_negK, q_not, q_and, q_andK_t, q_andK_f, q_or, q_orK_t, q_orK_f, q_cmp, q_cmpK, q_cmpK2, q_cmp2, q_cmp2K, q_cmp2K2, q_cmp2K3_t, q_cmp2K3_f, q_ite, q_iteK_t, q_iteK_f, q_tup, q_lst, q_dic, q_sub, q_subK, q_subK2, q_slc, q_slcK, q_slcK2, q_slcK3, q_rev, q_call, q_callK, q_bf, q_bfK, q_mt, q_mtK, q_mtK2, q_mt_int, q_lc, q_lcF, q_bfc, q_cfK, q_idx, q_idxK, q_nil, q_cons, q_consK, q_consK2, q_of, q_srcK_tup, q_srcK_str, q_srcK_ref, q_rng1, q_rng1K, q_rng2, q_rng2K, q_zip, q_zipK_tup, q_zipK_ref, q_enum, q_enumK, q_nm, q_tp, q_tpK, q_tpK_ref, q_sb, q_sbK, q_sbK2, q_unK, q_snil, q_scons, q_stoK, q_tnil, q_tcons, q_evtK_t, q_evtK_f, q_mk, q_evcK, q_asg, q_asgK, q_nxK, q_aug, q_augK, q_augK2, q_augK3, q_ife, q_ifeK_t, q_ifeK_f, q_for, q_forG, q_ret, q_retK, q_retn, q_expr, q_dropK, q_pass, q_brk, q_cont, q_try, q_xnil, q_xcons, q_nx, q_rt, q_bk, q_ct, q_tst, q_tstK, q_fin_rt, q_fin_nx, q_t0, q_l0, q_t1, q_l1, q_t2, q_l2, q_t3, q_l3, q_t4, q_l4, q_t5, q_l5, q_t6, q_l6, q_t7, q_l7, q_t8, q_l8, q_t9, q_l9, q_t10, q_l10, q_t11, q_l11, q_t12, q_l12, q_t13, q_l13, q_t14, q_l14, q_t15, q_l15, q_t16, q_l16, q_t17, q_l17, q_t18, q_l18, q_t19, q_l19, q_notK, gets, sets, wipes, cmpop, ofB, isv, eqh_int, eqh_str, eqh_bl, bfn, bIsi, isT, isTs, tyN, tysOf, TN.is, bInt, bLen, bTup, items, add_int, sub_int, app_at, app_at0, app_put, app_put0, alloc_0, cturn, h2, isIn_dig, hdg', ii, b1, b2]
        · have b1 : ([c] == [32]) = false := by rw [beq1]; exact decide_eq_false (fun e => h32 e.symm)
          simp only [nthS, loopB, c_law_v_read]
          simp [R.bind_ok, R.calm_ok, q_cst, q_var, q_varK, q_bin, q_binK, q_binK2, q_neg, q_negK, q_not, q_and, q_andK_t, q_andK_f, q_or, q_orK_t, q_orK_f, q_cmp, q_cmpK, q_cmpK2, q_cmp2, q_cmp2K, q_cmp2K2, q_cmp2K3_t, q_cmp2K3_f, q_ite, q_iteK_t, q_iteK_f, q_tup, q_lst, q_dic, q_sub, q_subK, q_subK2, q_slc, q_slcK, q_slcK2, q_slcK3, q_rev, q_call, q_callK, q_bf, q_bfK, q_mt, q_mtK, q_mtK2, q_mt_int, q_lc, q_lcF, q_bfc, q_cfK, q_idx, q_idxK, q_nil, q_cons, q_consK, q_consK2, q_of, q_srcK_tup, q_srcK_str, q_srcK_ref, q_rng1, q_rng1K, q_rng2, q_rng2K, q_zip, q_zipK_tup, q_zipK_ref, q_enum, q_enumK, q_nm, q_tp, q_tpK, q_tpK_ref, q_sb, q_sbK, q_sbK2, q_unK, q_snil, q_scons, q_stoK, q_tnil, q_tcons, q_evtK_t, q_evtK_f, q_mk, q_evcK, q_asg, q_asgK, q_nxK, q_aug, q_augK, q_augK2, q_augK3, q_ife, q_ifeK_t, q_ifeK_f, q_for, q_forG, q_ret, q_retK, q_retn, q_expr, q_dropK, q_pass, q_brk, q_cont, q_try, q_xnil, q_xcons, q_nx, q_rt, q_bk, q_ct, q_tst, q_tstK, q_fin_rt, q_fin_nx, q_t0, q_l0, q_t1, q_l1, q_t2, q_l2, q_t3, q_l3, q_t4, q_l4, q_t5, q_l5, q_t6, q_l6, q_t7, q_l7, q_t8, q_l8, q_t9, q_l9, q_t10, q_l10, q_t11, q_l11, q_t12, q_l12, q_t13, q_l13, q_t14, q_l14, q_t15, q_l15, q_t16, q_l16, q_t17, q_l17, q_t18, q_l18, q_t19, q_l19, q_notK, gets, sets, wipes, cmpop, ofB, isv, eqh_int, eqh_str, eqh_bl, bfn, bIsi, isT, isTs, tyN, tysOf, TN.is, bInt, bLen, bTup, items, add_int, sub_int, app_at, app_at0, app_put, app_put0, alloc_0, cturn, h2, isIn_dig, hdg', ii, b1]
    | some z =>
      obtain ⟨z1, z2, _, z4, z5⟩ := szOf_facts hz
      have lk : lookK tbl [c] = some (.int (z : Int)) := by rw [szI_look hok, htb, hz]; rfl
      have ii := isIn_dic (kd := kd) (k := [c]) (hq' (.lst (st.acc.map triW)))
      rw [lk] at ii
      have b1 : ([c] == [32]) = false := by rw [beq1]; exact decide_eq_false (fun e => z4 e.symm)
      have hs : stepL nat st c = some ⟨[], upTo nat st.place z + manyOf st.cnt * z, st.acc ++ fieldT c z (manyOf st.cnt) (upTo nat st.place z)⟩ := by simp [stepL, hdg', hz]
      rw [hs]
      have sd : ∀ o', subv kd (.ref q) (.str [c]) (H.set p o') = .ok (.int (z : Int)) (H.set p o') := fun o' => sub_dic (hq' o') lk
      have up := vr_up (C := C) (kd := kd) (h := H.set p (.lst (st.acc.map triW))) (x0 := some (.str t)) (x2 := some (.int (i : Int))) (x5 := some (.ref p)) (x6 := some (.str st.cnt)) (x8 := some (.int (manyOf st.cnt : Int))) (x9 := x9) (q := q) (z := z) (c := c) O ⟨z1, z2⟩ (sd _) _ st.place FUEL rfl (by
        have : upTo nat st.place z - st.place ≤ z := by
          unfold upTo
          split
          · have := Nat.mod_lt (z - st.place % z) z1
            omega
          · omega
        unfold FUEL
        omega)
      obtain ⟨x9', fo⟩ := vr_for (C := C) (kd := kd) (H := H) (x0 := some (.str t)) (x1 := some (.str o)) (x2 := some (.int (i : Int))) (x6 := some (.str st.cnt)) (p := p) (q := q) (z := z) (c := c) (many := manyOf st.cnt) (place := upTo nat st.place z) (w := if isSP c then (manyOf st.cnt : Int) else (z : Int)) ⟨z1, z2⟩ hp hpq hq lk rfl
        (if isSP c then 1 else if c = 120 then 0 else manyOf st.cnt) 0 (st.acc.map triW) x9 (by split <;> (try split) <;> omega) (by
          have : (10000000 : Nat) ≤ LINE := by decide
          rw [List.length_map]
          split <;> (try split) <;> omega)
      have ef : st.acc.map triW ++ (List.range (if isSP c then 1 else if c = 120 then 0 else manyOf st.cnt)).map (fun k => W.tup [.str [c], .int ((upTo nat st.place z + (0 + k) * z : Nat) : Int), .int (if isSP c then (manyOf st.cnt : Int) else (z : Int))]) = (st.acc ++ fieldT c z (manyOf st.cnt) (upTo nat st.place z)).map triW := by
        rw [List.map_append]
        congr 1
        unfold fieldT
        by_cases h120 : c = 120
        · subst h120
          simp [isSP]
        · rw [if_neg h120, if_neg h120]
          cases hsp : isSP c with
          | true => simp [triW]
          | false => simp [triW]
      rw [ef] at fo
      refine ⟨some (.str [c]), some (.int (manyOf st.cnt : Int)), x9', ?_⟩
      have ml : ∀ h, binop .mul (.int (manyOf st.cnt : Int)) (.int (z : Int)) h = .ok (.int ((manyOf st.cnt : Int) * (z : Int))) h := fun h => mul_ok (by omega) (by omega)
      have ml0 : ∀ h, binop .mul (.int (manyOf st.cnt : Int)) (.int 0) h = .ok (.int ((manyOf st.cnt : Int) * 0)) h := fun h => mul_ok (by omega) (by decide)
      have ml1 : ∀ h, binop .mul (.int (manyOf st.cnt : Int)) (.int 1) h = .ok (.int ((manyOf st.cnt : Int) * 1)) h := fun h => mul_ok (by omega) (by decide)
      have er0 : ∀ h, rng1K [.int 0] h = .ok ⟨ranges 0 0, []⟩ h := fun h => q_rng1Ki (by decide) (by decide)
      have er1 : ∀ h, rng1K [.int 1] h = .ok ⟨ranges 0 1, []⟩ h := fun h => q_rng1Ki (by decide) (by decide)
      have erm : ∀ h, rng1K [.int (manyOf st.cnt : Int)] h = .ok ⟨ranges 0 (manyOf st.cnt), []⟩ h := fun h => q_rng1K hm
      have many : ∀ (A : Ss) h, exs C kd (.cons (.asg (.nm 8) (.ite (.cmp .ne (.var 6) (.cst (.str []))) (.bf .toint (.cons (.var 6) .nil)) (.cst (.int 1)))) A) [some (.str t), some (.str o), some (.int (i : Int)), some (.ref q), some (.int (st.place : Int)), some (.ref p), some (.str st.cnt), some (.str [c]), x8, x9] h
          = exs C kd A [some (.str t), some (.str o), some (.int (i : Int)), some (.ref q), some (.int (st.place : Int)), some (.ref p), some (.str st.cnt), some (.str [c]), some (.int (manyOf st.cnt : Int)), x9] h := fun A h => by
        by_cases he : st.cnt = []
        · have b2 : (st.cnt == []) = true := by rw [he]; rfl
          simp [R.bind_ok, R.calm_ok, q_cst, q_var, q_varK, q_bin, q_binK, q_binK2, q_neg, q_negK, q_not, q_and, q_andK_t, q_andK_f, q_or, q_orK_t, q_orK_f, q_cmp, q_cmpK, q_cmpK2, q_cmp2, q_cmp2K, q_cmp2K2, q_cmp2K3_t, q_cmp2K3_f, q_ite, q_iteK_t, q_iteK_f, q_tup, q_lst, q_dic, q_sub, q_subK, q_subK2, q_slc, q_slcK, q_slcK2, q_slcK3, q_rev, q_call, q_callK, q_bf, q_bfK, q_mt, q_mtK, q_mtK2, q_mt_int, q_lc, q_lcF, q_bfc, q_cfK, q_idx, q_idxK, q_nil, q_cons, q_consK, q_consK2, q_of, q_srcK_tup, q_srcK_str, q_srcK_ref, q_rng1, q_rng1K, q_rng2, q_rng2K, q_zip, q_zipK_tup, q_zipK_ref, q_enum, q_enumK, q_nm, q_tp, q_tpK, q_tpK_ref, q_sb, q_sbK, q_sbK2, q_unK, q_snil, q_scons, q_stoK, q_tnil, q_tcons, q_evtK_t, q_evtK_f, q_mk, q_evcK, q_asg, q_asgK, q_nxK, q_aug, q_augK, q_augK2, q_augK3, q_ife, q_ifeK_t, q_ifeK_f, q_for, q_forG, q_ret, q_retK, q_retn, q_expr, q_dropK, q_pass, q_brk, q_cont, q_try, q_xnil, q_xcons, q_nx, q_rt, q_bk, q_ct, q_tst, q_tstK, q_fin_rt, q_fin_nx, q_t0, q_l0, q_t1, q_l1, q_t2, q_l2, q_t3, q_l3, q_t4, q_l4, q_t5, q_l5, q_t6, q_l6, q_t7, q_l7, q_t8, q_l8, q_t9, q_l9, q_t10, q_l10, q_t11, q_l11, q_t12, q_l12, q_t13, q_l13, q_t14, q_l14, q_t15, q_l15, q_t16, q_l16, q_t17, q_l17, q_t18, q_l18, q_t19, q_l19, q_notK, gets, sets, wipes, cmpop, ofB, isv, eqh_int, eqh_str, eqh_bl, bfn, bIsi, isT, isTs, tyN, tysOf, TN.is, bInt, bLen, bTup, items, add_int, sub_int, app_at, app_at0, app_put, app_put0, alloc_0, cturn, b2, manyOf, he]
        · have b2 : (st.cnt == []) = false := by rw [beq_eq_false_iff_ne]; exact he
          have hd' : (∀ (x : Nat), x ∈ st.cnt → isDig x = true) = True := eq_true (List.all_eq_true.mp hd)
          simp [R.bind_ok, R.calm_ok, q_cst, q_var, q_varK, q_bin, q_binK, q_binK2, q_neg, q_negK, q_not, q_and, q_andK_t, q_andK_f, q_or, q_orK_t, q_orK_f, q_cmp, q_cmpK, q_cmpK2, q_cmp2, q_cmp2K, q_cmp2K2, q_cmp2K3_t, q_cmp2K3_f, q_ite, q_iteK_t, q_iteK_f, q_tup, q_lst, q_dic, q_sub, q_subK, q_subK2, q_slc, q_slcK, q_slcK2, q_slcK3, q_rev, q_call, q_callK, q_bf, q_bfK, q_mt, q_mtK, q_mtK2, q_mt_int, q_lc, q_lcF, q_bfc, q_cfK, q_idx, q_idxK, q_nil, q_cons, q_consK, q_consK2, q_of, q_srcK_tup, q_srcK_str, q_srcK_ref, q_rng1, q_rng1K, q_rng2, q_rng2K, q_zip, q_zipK_tup, q_zipK_ref, q_enum, q_enumK, q_nm, q_tp, q_tpK, q_tpK_ref, q_sb, q_sbK, q_sbK2, q_unK, q_snil, q_scons, q_stoK, q_tnil, q_tcons, q_evtK_t, q_evtK_f, q_mk, q_evcK, q_asg, q_asgK, q_nxK, q_aug, q_augK, q_augK2, q_augK3, q_ife, q_ifeK_t, q_ifeK_f, q_for, q_forG, q_ret, q_retK, q_retn, q_expr, q_dropK, q_pass, q_brk, q_cont, q_try, q_xnil, q_xcons, q_nx, q_rt, q_bk, q_ct, q_tst, q_tstK, q_fin_rt, q_fin_nx, q_t0, q_l0, q_t1, q_l1, q_t2, q_l2, q_t3, q_l3, q_t4, q_l4, q_t5, q_l5, q_t6, q_l6, q_t7, q_l7, q_t8, q_l8, q_t9, q_l9, q_t10, q_l10, q_t11, q_l11, q_t12, q_l12, q_t13, q_l13, q_t14, q_l14, q_t15, q_l15, q_t16, q_l16, q_t17, q_l17, q_t18, q_l18, q_t19, q_l19, q_notK, gets, sets, wipes, cmpop, ofB, isv, eqh_int, eqh_str, eqh_bl, bfn, bIsi, isT, isTs, tyN, tysOf, TN.is, bInt, bLen, bTup, items, add_int, sub_int, app_at, app_at0, app_put, app_put0, alloc_0, cturn, b2, manyOf, he, hd', hl]
      simp only [vrF, vrS, nthS, loopB, loopT, c_law_v_read] at fo up
      simp only [nthS, loopB, c_law_v_read]
      rw [show ((upTo nat st.place z + manyOf st.cnt * z : Nat) : Int) = ((upTo nat st.place z : Nat) : Int) + (manyOf st.cnt : Int) * (z : Int) by rw [Int.natCast_add, Int.natCast_mul]]
      generalize ((upTo nat st.place z : Nat) : Int) = up' at *
      have c0 : ((0 : Nat) : Int) = 0 := rfl
      rw [c0] at fo
      cases hsp : isSP c with
      | true =>
        simp only [hsp, if_true] at fo
        generalize ranges 0 1 = rr at *
        simp [R.bind_ok, R.calm_ok, q_cst, q_var, q_varK, q_bin, q_binK, q_binK2, q_neg, q_negK, q_not, q_and, q_andK_t, q_andK_f, q_or, q_orK_t, q_orK_f, q_cmp, q_cmpK, q_cmpK2, q_cmp2, q_cmp2K, q_cmp2K2, q_cmp2K3_t, q_cmp2K3_f, q_ite, q_iteK_t, q_iteK_f, q_tup, q_lst, q_dic, q_sub, q_subK, q_subK2, q_slc, q_slcK, q_slcK2, q_slcK3, q_rev, q_call, q_callK, q_bf, q_bfK, q_mt, q_mtK, q_mtK2, q_mt_int, q_lc, q_lcF, q_bfc, q_cfK, q_idx, q_idxK, q_nil, q_cons, q_consK, q_consK2, q_of, q_srcK_tup, q_srcK_str, q_srcK_ref, q_rng1, q_rng1K, q_rng2, q_rng2K, q_zip, q_zipK_tup, q_zipK_ref, q_enum, q_enumK, q_nm, q_tp, q_tpK, q_tpK_ref, q_sb, q_sbK, q_sbK2, q_unK, q_snil, q_scons, q_stoK, q_tnil, q_tcons, q_evtK_t, q_evtK_f, q_mk, q_evcK, q_asg, q_asgK, q_nxK, q_aug, q_augK, q_augK2, q_augK3, q_ife, q_ifeK_t, q_ifeK_f, q_for, q_forG, q_ret, q_retK, q_retn, q_expr, q_dropK, q_pass, q_brk, q_cont, q_try, q_xnil, q_xcons, q_nx, q_rt, q_bk, q_ct, q_tst, q_tstK, q_fin_rt, q_fin_nx, q_t0, q_l0, q_t1, q_l1, q_t2, q_l2, q_t3, q_l3, q_t4, q_l4, q_t5, q_l5, q_t6, q_l6, q_t7, q_l7, q_t8, q_l8, q_t9, q_l9, q_t10, q_l10, q_t11, q_l11, q_t12, q_l12, q_t13, q_l13, q_t14, q_l14, q_t15, q_l15, q_t16, q_l16, q_t17, q_l17, q_t18, q_l18, q_t19, q_l19, q_notK, gets, sets, wipes, cmpop, ofB, isv, eqh_int, eqh_str, eqh_bl, bfn, bIsi, isT, isTs, tyN, tysOf, TN.is, bInt, bLen, bTup, items, add_int, sub_int, app_at, app_at0, app_put, app_put0, alloc_0, cturn, h2, isIn_dig, hdg', ii, b1, many, q_whl, up, isIn_sp, hsp, er1, q_forK, fo, ml, sd]
      | false =>
        by_cases h120 : c = 120
        · have b3 : ([c] == [120]) = true := by rw [h120]; rfl
          simp only [hsp, if_pos h120, Bool.false_eq_true, if_false] at fo
          generalize ranges 0 0 = rr at *
          simp [R.bind_ok, R.calm_ok, q_cst, q_var, q_varK, q_bin, q_binK, q_binK2, q_neg, q_negK, q_not, q_and, q_andK_t, q_andK_f, q_or, q_orK_t, q_orK_f, q_cmp, q_cmpK, q_cmpK2, q_cmp2, q_cmp2K, q_cmp2K2, q_cmp2K3_t, q_cmp2K3_f, q_ite, q_iteK_t, q_iteK_f, q_tup, q_lst, q_dic, q_sub, q_subK, q_subK2, q_slc, q_slcK, q_slcK2, q_slcK3, q_rev, q_call, q_callK, q_bf, q_bfK, q_mt, q_mtK, q_mtK2, q_mt_int, q_lc, q_lcF, q_bfc, q_cfK, q_idx, q_idxK, q_nil, q_cons, q_consK, q_consK2, q_of, q_srcK_tup, q_srcK_str, q_srcK_ref, q_rng1, q_rng1K, q_rng2, q_rng2K, q_zip, q_zipK_tup, q_zipK_ref, q_enum, q_enumK, q_nm, q_tp, q_tpK, q_tpK_ref, q_sb, q_sbK, q_sbK2, q_unK, q_snil, q_scons, q_stoK, q_tnil, q_tcons, q_evtK_t, q_evtK_f, q_mk, q_evcK, q_asg, q_asgK, q_nxK, q_aug, q_augK, q_augK2, q_augK3, q_ife, q_ifeK_t, q_ifeK_f, q_for, q_forG, q_ret, q_retK, q_retn, q_expr, q_dropK, q_pass, q_brk, q_cont, q_try, q_xnil, q_xcons, q_nx, q_rt, q_bk, q_ct, q_tst, q_tstK, q_fin_rt, q_fin_nx, q_t0, q_l0, q_t1, q_l1, q_t2, q_l2, q_t3, q_l3, q_t4, q_l4, q_t5, q_l5, q_t6, q_l6, q_t7, q_l7, q_t8, q_l8, q_t9, q_l9, q_t10, q_l10, q_t11, q_l11, q_t12, q_l12, q_t13, q_l13, q_t14, q_l14, q_t15, q_l15, q_t16, q_l16, q_t17, q_l17, q_t18, q_l18, q_t19, q_l19, q_notK, gets, sets, wipes, cmpop, ofB, isv, eqh_int, eqh_str, eqh_bl, bfn, bIsi, isT, isTs, tyN, tysOf, TN.is, bInt, bLen, bTup, items, add_int, sub_int, app_at, app_at0, app_put, app_put0, alloc_0, cturn, h2, isIn_dig, hdg', ii, b1, b3, many, q_whl, up, isIn_sp, hsp, ml0, er0, q_forK, fo, ml, sd]
        · have b3 : ([c] == [120]) = false := by rw [beq1]; exact decide_eq_false (fun e => h120 e.symm)
          simp only [hsp, h120, Bool.false_eq_true, if_false] at fo
          generalize ranges 0 (manyOf st.cnt) = rr at *
          simp [R.bind_ok, R.calm_ok, q_cst, q_var, q_varK, q_bin, q_binK, q_binK2, q_neg, q_negK, q_not, q_and, q_andK_t, q_andK_f, q_or, q_orK_t, q_orK_f, q_cmp, q_cmpK, q_cmpK2, q_cmp2, q_cmp2K, q_cmp2K2, q_cmp2K3_t, q_cmp2K3_f, q_ite, q_iteK_t, q_iteK_f, q_tup, q_lst, q_dic, q_sub, q_subK, q_subK2, q_slc, q_slcK, q_slcK2, q_slcK3, q_rev, q_call, q_callK, q_bf, q_bfK, q_mt, q_mtK, q_mtK2, q_mt_int, q_lc, q_lcF, q_bfc, q_cfK, q_idx, q_idxK, q_nil, q_cons, q_consK, q_consK2, q_of, q_srcK_tup, q_srcK_str, q_srcK_ref, q_rng1, q_rng1K, q_rng2, q_rng2K, q_zip, q_zipK_tup, q_zipK_ref, q_enum, q_enumK, q_nm, q_tp, q_tpK, q_tpK_ref, q_sb, q_sbK, q_sbK2, q_unK, q_snil, q_scons, q_stoK, q_tnil, q_tcons, q_evtK_t, q_evtK_f, q_mk, q_evcK, q_asg, q_asgK, q_nxK, q_aug, q_augK, q_augK2, q_augK3, q_ife, q_ifeK_t, q_ifeK_f, q_for, q_forG, q_ret, q_retK, q_retn, q_expr, q_dropK, q_pass, q_brk, q_cont, q_try, q_xnil, q_xcons, q_nx, q_rt, q_bk, q_ct, q_tst, q_tstK, q_fin_rt, q_fin_nx, q_t0, q_l0, q_t1, q_l1, q_t2, q_l2, q_t3, q_l3, q_t4, q_l4, q_t5, q_l5, q_t6, q_l6, q_t7, q_l7, q_t8, q_l8, q_t9, q_l9, q_t10, q_l10, q_t11, q_l11, q_t12, q_l12, q_t13, q_l13, q_t14, q_l14, q_t15, q_l15, q_t16, q_l16, q_t17, q_l17, q_t18, q_l18, q_t19, q_l19, q_notK, gets, sets, wipes, cmpop, ofB, isv, eqh_int, eqh_str, eqh_bl, bfn, bIsi, isT, isTs, tyN, tysOf, TN.is, bInt, bLen, bTup, items, add_int, sub_int, app_at, app_at0, app_put, app_put0, alloc_0, cturn, h2, isIn_dig, hdg', ii, b1, b3, many, q_whl, up, isIn_sp, hsp, ml1, erm, q_forK, fo, ml, sd]
end
end Vl
set_option maxRecDepth 100000
set_option maxHeartbeats 4000000
namespace Vl
section
variable {kd : Kd} {P : List Fn} [Tab P] [KTab kd] {d : Nat} {h H : L}
theorem v_sizes_all {o : List Nat} {nat gr : Bool} (O : Ord o nat gr) : ∃ tbl h', call kd P (d + 1) F_law_v_sizes [.str o] h = .ok (.ref h.length) h' ∧ Ap h h' ∧ h'[h.length]? = some (.dic tbl) ∧ okT tbl = true ∧ ∀ c, szI tbl c = szOf nat c := by
  cases O
  all_goals
    refine ⟨?_, ?_, ?_, ?_, ?_, ?_, ?_⟩
    rotate_left
    rotate_left
    · rw [call_run h_law_v_sizes rfl]
      show fin (runs (call kd P d) kd c_law_v_sizes.body (some (.str _) :: List.replicate 6 none) h) = _
      simp only [c_law_v_sizes, List.replicate]
      rw [run_cons]
      simp [R.bind_ok, R.calm_ok, q_cst, q_var, q_varK, q_bin, q_binK, q_binK2, q_neg, q_negK, q_not, q_and, q_andK_t, q_andK_f, q_or, q_orK_t, q_orK_f, q_cmp, q_cmpK, q_cmpK2, q_cmp2, q_cmp2K, q_cmp2K2, q_cmp2K3_t, q_cmp2K3_f, q_ite, q_iteK_t, q_iteK_f, q_tup, q_lst, q_dic, q_sub, q_subK, q_subK2, q_slc, q_slcK, q_slcK2, q_slcK3, q_rev, q_call, q_callK, q_bf, q_bfK, q_mt, q_mtK, q_mtK2, q_mt_int, q_lc, q_lcF, q_bfc, q_cfK, q_idx, q_idxK, q_nil, q_cons, q_consK, q_consK2, q_of, q_srcK_tup, q_srcK_str, q_srcK_ref, q_rng1, q_rng1K, q_rng2, q_rng2K, q_zip, q_zipK_tup, q_zipK_ref, q_enum, q_enumK, q_nm, q_tp, q_tpK, q_tpK_ref, q_sb, q_sbK, q_sbK2, q_unK, q_snil, q_scons, q_stoK, q_tnil, q_tcons, q_evtK_t, q_evtK_f, q_mk, q_evcK, q_asg, q_asgK, q_nxK, q_aug, q_augK, q_augK2, q_augK3, q_ife, q_ifeK_t, q_ifeK_f, q_for, q_forG, q_ret, q_retK, q_retn, q_expr, q_dropK, q_pass, q_brk, q_cont, q_try, q_xnil, q_xcons, q_nx, q_rt, q_bk, q_ct, q_tst, q_tstK, q_fin_rt, q_fin_nx, q_t0, q_l0, q_t1, q_l1, q_t2, q_l2, q_t3, q_l3, q_t4, q_l4, q_t5, q_l5, q_t6, q_l6, q_t7, q_l7, q_t8, q_l8, q_t9, q_l9, q_t10, q_l10, q_t11, q_l11, q_t12, q_l12, q_t13, q_l13, q_t14, q_l14, q_t15, q_l15, q_t16, q_l16, q_t17, q_l17, q_t18, q_l18, q_t19, q_l19, q_notK, gets, sets, wipes, cmpop, ofB, isv, eqh_int, eqh_str, eqh_bl, bfn, bIsi, isT, isTs, tyN, tysOf, TN.is, bInt, bLen, bTup, items, add_int, sub_int, app_at, app_at0, app_put, app_put0, alloc_0, cturn, isIn, anyEq, isFlat, dicF]
      rw [run_nx]
      rw [run_cons]
      simp [R.bind_ok, R.calm_ok, q_cst, q_var, q_varK, q_bin, q_binK, q_binK2, q_neg, q_negK, q_not, q_and, q_andK_t, q_andK_f, q_or, q_orK_t, q_orK_f, q_cmp, q_cmpK, q_cmpK2, q_cmp2, q_cmp2K, q_cmp2K2, q_cmp2K3_t, q_cmp2K3_f, q_ite, q_iteK_t, q_iteK_f, q_tup, q_lst, q_dic, q_sub, q_subK, q_subK2, q_slc, q_slcK, q_slcK2, q_slcK3, q_rev, q_call, q_callK, q_bf, q_bfK, q_mt, q_mtK, q_mtK2, q_mt_int, q_lc, q_lcF, q_bfc, q_cfK, q_idx, q_idxK, q_nil, q_cons, q_consK, q_consK2, q_of, q_srcK_tup, q_srcK_str, q_srcK_ref, q_rng1, q_rng1K, q_rng2, q_rng2K, q_zip, q_zipK_tup, q_zipK_ref, q_enum, q_enumK, q_nm, q_tp, q_tpK, q_tpK_ref, q_sb, q_sbK, q_sbK2, q_unK, q_snil, q_scons, q_stoK, q_tnil, q_tcons, q_evtK_t, q_evtK_f, q_mk, q_evcK, q_asg, q_asgK, q_nxK, q_aug, q_augK, q_augK2, q_augK3, q_ife, q_ifeK_t, q_ifeK_f, q_for, q_forG, q_ret, q_retK, q_retn, q_expr, q_dropK, q_pass, q_brk, q_cont, q_try, q_xnil, q_xcons, q_nx, q_rt, q_bk, q_ct, q_tst, q_tstK, q_fin_rt, q_fin_nx, q_t0, q_l0, q_t1, q_l1, q_t2, q_l2, q_t3, q_l3, q_t4, q_l4, q_t5, q_l5, q_t6, q_l6, q_t7, q_l7, q_t8, q_l8, q_t9, q_l9, q_t10, q_l10, q_t11, q_l11, q_t12, q_l12, q_t13, q_l13, q_t14, q_l14, q_t15, q_l15, q_t16, q_l16, q_t17, q_l17, q_t18, q_l18, q_t19, q_l19, q_notK, gets, sets, wipes, cmpop, ofB, isv, eqh_int, eqh_str, eqh_bl, bfn, bIsi, isT, isTs, tyN, tysOf, TN.is, bInt, bLen, bTup, items, add_int, sub_int, app_at, app_at0, app_put, app_put0, alloc_0, cturn, subv, atI, ixN]
      rw [run_nx]
      rw [run_cons]
      simp [R.bind_ok, R.calm_ok, q_cst, q_var, q_varK, q_bin, q_binK, q_binK2, q_neg, q_negK, q_not, q_and, q_andK_t, q_andK_f, q_or, q_orK_t, q_orK_f, q_cmp, q_cmpK, q_cmpK2, q_cmp2, q_cmp2K, q_cmp2K2, q_cmp2K3_t, q_cmp2K3_f, q_ite, q_iteK_t, q_iteK_f, q_tup, q_lst, q_dic, q_sub, q_subK, q_subK2, q_slc, q_slcK, q_slcK2, q_slcK3, q_rev, q_call, q_callK, q_bf, q_bfK, q_mt, q_mtK, q_mtK2, q_mt_int, q_lc, q_lcF, q_bfc, q_cfK, q_idx, q_idxK, q_nil, q_cons, q_consK, q_consK2, q_of, q_srcK_tup, q_srcK_str, q_srcK_ref, q_rng1, q_rng1K, q_rng2, q_rng2K, q_zip, q_zipK_tup, q_zipK_ref, q_enum, q_enumK, q_nm, q_tp, q_tpK, q_tpK_ref, q_sb, q_sbK, q_sbK2, q_unK, q_snil, q_scons, q_stoK, q_tnil, q_tcons, q_evtK_t, q_evtK_f, q_mk, q_evcK, q_asg, q_asgK, q_nxK, q_aug, q_augK, q_augK2, q_augK3, q_ife, q_ifeK_t, q_ifeK_f, q_for, q_forG, q_ret, q_retK, q_retn, q_expr, q_dropK, q_pass, q_brk, q_cont, q_try, q_xnil, q_xcons, q_nx, q_rt, q_bk, q_ct, q_tst, q_tstK, q_fin_rt, q_fin_nx, q_t0, q_l0, q_t1, q_l1, q_t2, q_l2, q_t3, q_l3, q_t4, q_l4, q_t5, q_l5, q_t6, q_l6, q_t7, q_l7, q_t8, q_l8, q_t9, q_l9, q_t10, q_l10, q_t11, q_l11, q_t12, q_l12, q_t13, q_l13, q_t14, q_l14, q_t15, q_l15, q_t16, q_l16, q_t17, q_l17, q_t18, q_l18, q_t19, q_l19, q_notK, gets, sets, wipes, cmpop, ofB, isv, eqh_int, eqh_str, eqh_bl, bfn, bIsi, isT, isTs, tyN, tysOf, TN.is, bInt, bLen, bTup, items, add_int, sub_int, app_at, app_at0, app_put, app_put0, alloc_0, cturn, f_nil0, f_cons0, t_nil0, t_cons0, f_nil, f_cons, f_K, f_nx, f_ct, f_bk, f_rt, f_held0, t_nil, t_cons, t_some, t_none, q_forK, subv, atI, ixN, binop, heldB, W.beqs, W.beq, putv, putK, srcOf, srcK]
      rw [run_nx]
      rw [run_cons]
      simp [R.bind_ok, R.calm_ok, q_cst, q_var, q_varK, q_bin, q_binK, q_binK2, q_neg, q_negK, q_not, q_and, q_andK_t, q_andK_f, q_or, q_orK_t, q_orK_f, q_cmp, q_cmpK, q_cmpK2, q_cmp2, q_cmp2K, q_cmp2K2, q_cmp2K3_t, q_cmp2K3_f, q_ite, q_iteK_t, q_iteK_f, q_tup, q_lst, q_dic, q_sub, q_subK, q_subK2, q_slc, q_slcK, q_slcK2, q_slcK3, q_rev, q_call, q_callK, q_bf, q_bfK, q_mt, q_mtK, q_mtK2, q_mt_int, q_lc, q_lcF, q_bfc, q_cfK, q_idx, q_idxK, q_nil, q_cons, q_consK, q_consK2, q_of, q_srcK_tup, q_srcK_str, q_srcK_ref, q_rng1, q_rng1K, q_rng2, q_rng2K, q_zip, q_zipK_tup, q_zipK_ref, q_enum, q_enumK, q_nm, q_tp, q_tpK, q_tpK_ref, q_sb, q_sbK, q_sbK2, q_unK, q_snil, q_scons, q_stoK, q_tnil, q_tcons, q_evtK_t, q_evtK_f, q_mk, q_evcK, q_asg, q_asgK, q_nxK, q_aug, q_augK, q_augK2, q_augK3, q_ife, q_ifeK_t, q_ifeK_f, q_for, q_forG, q_ret, q_retK, q_retn, q_expr, q_dropK, q_pass, q_brk, q_cont, q_try, q_xnil, q_xcons, q_nx, q_rt, q_bk, q_ct, q_tst, q_tstK, q_fin_rt, q_fin_nx, q_t0, q_l0, q_t1, q_l1, q_t2, q_l2, q_t3, q_l3, q_t4, q_l4, q_t5, q_l5, q_t6, q_l6, q_t7, q_l7, q_t8, q_l8, q_t9, q_l9, q_t10, q_l10, q_t11, q_l11, q_t12, q_l12, q_t13, q_l13, q_t14, q_l14, q_t15, q_l15, q_t16, q_l16, q_t17, q_l17, q_t18, q_l18, q_t19, q_l19, q_notK, gets, sets, wipes, cmpop, ofB, isv, eqh_int, eqh_str, eqh_bl, bfn, bIsi, isT, isTs, tyN, tysOf, TN.is, bInt, bLen, bTup, items, add_int, sub_int, app_at, app_at0, app_put, app_put0, alloc_0, cturn, run_rt, run_nx, run_nil]
      rfl
    · exact Ap.app
    · simp only [app_at0]
      rfl
    · decide
    · exact sz_same (by decide) (sz_tab _).2 (by decide)
theorem stepL_cnt {nat : Bool} {st st' : LS} {c : Nat} (e : stepL nat st c = some st') (hd : st.cnt.all isDig = true) : st'.cnt.length ≤ st.cnt.length + 1 ∧ st'.cnt.all isDig = true := by
  unfold stepL at e
  by_cases h1 : isDig c = true
  · rw [if_pos h1] at e
    cases e
    simp [hd, h1]
  · rw [if_neg h1] at e
    split at e
    · split at e
      · cases e; exact ⟨by omega, hd⟩
      · cases e
    · cases e; simp
theorem stepL_tot {nat : Bool} {st st' : LS} {c : Nat} {s : List Nat} (e : stepL nat st c = some st') : st'.acc.length + tot s st'.cnt ≤ st.acc.length + tot (c :: s) st.cnt := by
  unfold stepL at e
  by_cases h1 : isDig c = true
  · rw [if_pos h1] at e
    cases e
    simp only [tot, h1, if_true]
    omega
  · rw [if_neg h1] at e
    have ht : tot (c :: s) st.cnt = manyOf st.cnt + 1 + tot s [] := by simp only [tot]; rw [if_neg h1]
    rw [ht]
    split at e
    · split at e
      · rename_i hh
        cases e
        rw [hh.2]
        omega
      · cases e
    · cases e
      rename_i z _
      have := fieldT_len c z (manyOf st.cnt) (upTo nat st.place z)
      simp only [List.length_append]
      omega
/-- the walk over a layout -/
theorem vr_loop {C : Orc} {t o : List Nat} {nat gr : Bool} {p q : Nat} {tbl : List (List Nat × W)} (O : Ord o nat gr) (hp : p < H.length) (hpq : p ≠ q) (hq : H[q]? = some (.dic tbl)) (hok : okT tbl = true) (htb : ∀ c, szI tbl c = szOf nat c) (ht : t.length ≤ 640) :
    ∀ (s pre : List Nat) (st : LS) (x2 x7 x8 x9 : Option W), t = pre ++ s → st.cnt.length ≤ pre.length → st.cnt.all isDig = true → st.acc.length + tot s st.cnt ≤ 1000000 →
    ∃ y2 y7 y8 y9 xs', fors [] (forG C kd (.nm 2)) (exs C kd (loopB (nthS (c_law_v_read F_law_v_sizes).body 2))) (ranges (pre.length : Int) s.length) [some (.str t), some (.str o), x2, some (.ref q), some (.int (st.place : Int)), some (.ref p), some (.str st.cnt), x7, x8, x9] (H.set p (.lst (st.acc.map triW)))
      = match runL nat s st pre.length with
        | .inr st' => .ok (.nx [some (.str t), some (.str o), y2, some (.ref q), some (.int (st'.place : Int)), some (.ref p), some (.str st'.cnt), y7, y8, y9]) (H.set p (.lst (st'.acc.map triW)))
        | .inl e => .ok (.rt (.int (e : Int))) (H.set p (.lst xs')) := by
  intro s
  induction s with
  | nil =>
    intro pre st x2 x7 x8 x9 _ _ _ _
    exact ⟨x2, x7, x8, x9, [], by simp [ranges, f_nil0, f_cons0, t_nil0, t_cons0, f_nil, f_cons, f_K, f_nx, f_ct, f_bk, f_rt, f_held0, t_nil, t_cons, t_some, t_none, q_forK, runL]⟩
  | cons c s ih =>
    intro pre st x2 x7 x8 x9 e hl hd hb
    have hc : t[pre.length]? = some c := by rw [e]; exact pre_at
    have hlen : pre.length ≤ 640 := by rw [e] at ht; simp at ht; omega
    by_cases hdg : isDig c = true
    · have hm : manyOf st.cnt ≤ 1000000 ∨ True := .inr trivial
      obtain ⟨y7, y8, y9, e1⟩ : ∃ y7 y8 y9, exs C kd (loopB (nthS (c_law_v_read F_law_v_sizes).body 2)) [some (.str t), some (.str o), some (.int (pre.length : Int)), some (.ref q), some (.int (st.place : Int)), some (.ref p), some (.str st.cnt), x7, x8, x9] (H.set p (.lst (st.acc.map triW)))
          = .ok (.nx [some (.str t), some (.str o), some (.int (pre.length : Int)), some (.ref q), some (.int (st.place : Int)), some (.ref p), some (.str (st.cnt ++ [c])), y7, y8, y9]) (H.set p (.lst (st.acc.map triW))) := by
        refine ⟨some (.str [c]), x8, x9, ?_⟩
        have hL : t.length ≤ LINE := Nat.le_trans ht (by decide)
        have h2 : ∀ h, subv kd (.str t) (.int (pre.length : Int)) h = .ok (.str [c]) h := fun h => str_at hL hc
        have ad : ∀ h, binop .add (.str st.cnt) (.str [c]) h = .ok (.str (st.cnt ++ [c])) h := fun h => if_pos (Nat.le_trans (show st.cnt.length + 1 ≤ 641 by omega) (by decide))
        simp only [nthS, loopB, c_law_v_read]
        simp [R.bind_ok, R.calm_ok, q_cst, q_var, q_varK, q_bin, q_binK, q_binK2, q_neg, q_negK, q_not, q_and, q_andK_t, q_andK_f, q_or, q_orK_t, q_orK_f, q_cmp, q_cmpK, q_cmpK2, q_cmp2, q_cmp2K, q_cmp2K2, q_cmp2K3_t, q_cmp2K3_f, q_ite, q_iteK_t, q_iteK_f, q_tup, q_lst, q_dic, q_sub, q_subK, q_subK2, q_slc, q_slcK, q_slcK2, q_slcK3, q_rev, q_call, q_callK, q_bf, q_bfK, q_mt, q_mtK, q_mtK2, q_mt_int, q_lc, q_lcF, q_bfc, q_cfK, q_idx, q_idxK, q_nil, q_cons, q_consK, q_consK2, q_of, q_srcK_tup, q_srcK_str, q_srcK_ref, q_rng1, q_rng1K, q_rng2, q_rng2K, q_zip, q_zipK_tup, q_zipK_ref, q_enum, q_enumK, q_nm, q_tp, q_tpK, q_tpK_ref, q_sb, q_sbK, q_sbK2, q_unK, q_snil, q_scons, q_stoK, q_tnil, q_tcons, q_evtK_t, q_evtK_f, q_mk, q_evcK, q_asg, q_asgK, q_nxK, q_aug, q_augK, q_augK2, q_augK3, q_ife, q_ifeK_t, q_ifeK_f, q_for, q_forG, q_ret, q_retK, q_retn, q_expr, q_dropK, q_pass, q_brk, q_cont, q_try, q_xnil, q_xcons, q_nx, q_rt, q_bk, q_ct, q_tst, q_tstK, q_fin_rt, q_fin_nx, q_t0, q_l0, q_t1, q_l1, q_t2, q_l2, q_t3, q_l3, q_t4, q_l4, q_t5, q_l5, q_t6, q_l6, q_t7, q_l7, q_t8, q_l8, q_t9, q_l9, q_t10, q_l10, q_t11, q_l11, q_t12, q_l12, q_t13, q_l13, q_t14, q_l14, q_t15, q_l15, q_t16, q_l16, q_t17, q_l17, q_t18, q_l18, q_t19, q_l19, q_notK, gets, sets, wipes, cmpop, ofB, isv, eqh_int, eqh_str, eqh_bl, bfn, bIsi, isT, isTs, tyN, tysOf, TN.is, bInt, bLen, bTup, items, add_int, sub_int, app_at, app_at0, app_put, app_put0, alloc_0, cturn, h2, isIn_dig, hdg, ad]
      have hs : stepL nat st c = some ⟨st.cnt ++ [c], st.place, st.acc⟩ := by simp [stepL, hdg]
      obtain ⟨z2, z7, z8, z9, xs', e2⟩ := ih (pre ++ [c]) ⟨st.cnt ++ [c], st.place, st.acc⟩ (some (.int (pre.length : Int))) y7 y8 y9 (by simp [e]) (by simp; omega) (stepL_cnt hs hd).2 (by have := stepL_tot (s := s) hs; simp only at this ⊢; omega)
      refine ⟨z2, z7, z8, z9, xs', ?_⟩
      simp only [runL, hs]
      rw [List.length_append, List.length_singleton] at e2
      rw [← e2]
      have hr : ranges (pre.length : Int) (c :: s).length = .int (pre.length : Int) :: ranges ((pre.length + 1 : Nat) : Int) s.length := rfl
      rw [hr, f_cons0, q_forG, q_nm, R.calm_ok, R.bind_ok, f_K]
      simp only [sets]
      rw [e1, R.bind_ok, f_nx]
    · have ht' : tot (c :: s) st.cnt = manyOf st.cnt + 1 + tot s [] := by simp only [tot]; rw [if_neg hdg]
      obtain ⟨y7, y8, y9, e1⟩ := vr_step (C := C) (kd := kd) (H := H) (x7 := x7) (x8 := x8) (x9 := x9) (i := pre.length) (c := c) (st := st) O hp hpq hq hok htb ht hc (by omega) hd (by omega) (by omega)
      have hr : ranges (pre.length : Int) (c :: s).length = .int (pre.length : Int) :: ranges ((pre.length + 1 : Nat) : Int) s.length := rfl
      cases hs : stepL nat st c with
      | none =>
        refine ⟨none, none, none, none, st.acc.map triW, ?_⟩
        rw [hs] at e1
        simp only [runL, hs]
        rw [hr, f_cons0, q_forG, q_nm, R.calm_ok, R.bind_ok, f_K]
        simp only [sets]
        rw [e1, R.bind_ok, f_rt]
      | some st' =>
        rw [hs] at e1
        have hc' := stepL_cnt hs hd
        have hl' : st'.cnt.length ≤ pre.length + 1 := by omega
        obtain ⟨z2, z7, z8, z9, xs', e2⟩ := ih (pre ++ [c]) st' (some (.int (pre.length : Int))) y7 y8 y9 (by simp [e]) (by simp; omega) hc'.2 (by have := stepL_tot (s := s) hs; omega)
        refine ⟨z2, z7, z8, z9, xs', ?_⟩
        simp only [runL, hs]
        rw [List.length_append, List.length_singleton] at e2
        rw [← e2]
        rw [hr, f_cons0, q_forG, q_nm, R.calm_ok, R.bind_ok, f_K]
        simp only [sets]
        rw [e1, R.bind_ok, f_nx]
def lay0 : LS := ⟨[], 0, []⟩
/-- a text's order stands ahead of the rest -/
structure Lay (t o s : List Nat) (nat gr : Bool) : Prop where
  ord : Ord o nat gr
  eq : t = o ++ s
  no : o = [] → ∀ c r, s = c :: r → c ≠ 64 ∧ c ≠ 61 ∧ c ≠ 60 ∧ c ≠ 62 ∧ c ≠ 33
theorem cut_one {t : List Nat} : cut t .non (.int 1) = some (t.take 1) := by
  simp only [cut, sIx]
  simp
theorem Lay.isIn (L : Lay t o s nat gr) : isIn kd h (.str (t.take 1)) (.tup [.str [64], .str [61], .str [60], .str [62], .str [33]]) = some (!o.isEmpty) ∧ (o ≠ [] → t.take 1 = o) := by
  obtain ⟨O, rfl, no⟩ := L
  cases O
  case n =>
    refine ⟨?_, fun e => absurd rfl e⟩
    cases s with
    | nil => rfl
    | cons c r =>
      obtain ⟨h1, h2, h3, h4, h5⟩ := no rfl c r rfl
      show some (([64] == [c]) || (([61] == [c]) || (([60] == [c]) || (([62] == [c]) || (([33] == [c]) || false))))) = _
      simp [beq1, Ne.symm h1, Ne.symm h2, Ne.symm h3, Ne.symm h4, Ne.symm h5, h1, h2, h3, h4, h5]
  all_goals exact ⟨rfl, fun _ => rfl⟩
/-- what the law reads in a layout -/
theorem v_read_t {t o s : List Nat} {nat gr : Bool} (L : Lay t o s nat gr) (ht : t.length ≤ 640) (hb : tot s [] ≤ 1000000) :
    ∃ v h', call kd P (d + 2) F_law_v_read [.str t] h = .ok v h' ∧ Ap h h' ∧ match runL nat s lay0 o.length with
      | .inr st => if st.cnt = [] then ∃ p, v = .tup [.bl gr, .int (st.place : Int), .ref p] ∧ h.length ≤ p ∧ h'[p]? = some (.lst (st.acc.map triW)) else v = .int (t.length : Int)
      | .inl e => v = .int (e : Int) := by
  obtain ⟨i1, i2⟩ := L.isIn (kd := kd) (h := h)
  have OD := L.ord
  obtain ⟨tbl, hA, e1, a1, q1, ok1, tb1⟩ := v_sizes_all (kd := kd) (P := P) (d := d) (h := h) OD
  have hL : t.length ≤ LINE := Nat.le_trans ht (by decide)
  have hlA : h.length < hA.length := (List.getElem?_eq_some_iff.mp q1).1
  obtain ⟨y2, y7, y8, y9, xs', e2⟩ := vr_loop (C := call kd P (d + 1)) (kd := kd) (H := hA ++ [.lst []]) (t := t) (o := o) (p := hA.length) (q := h.length) OD (by simp) (by omega) (app_get q1) ok1 tb1 ht s o lay0 none none none none L.eq (by simp [lay0]) rfl (by simpa [lay0] using hb)
  have hset : (hA ++ [O.lst []]).set hA.length (.lst (lay0.acc.map triW)) = hA ++ [.lst []] := by simp [lay0]
  rw [hset] at e2
  have hap : ∀ o', Ap h ((hA ++ [O.lst []]).set hA.length o') := fun o' => by
    rw [show (hA ++ [O.lst []]).set hA.length o' = hA ++ [o'] by simp]
    exact a1.trans Ap.app
  have hat : ∀ o', ((hA ++ [O.lst []]).set hA.length o')[hA.length]? = some o' := fun o' => set_at (by simp)
  have rl : ∀ h, rng2K [.int (o.length : Int), .int (t.length : Int)] h = .ok ⟨ranges (o.length : Int) s.length, []⟩ h := fun h => by
    rw [q_rng2K (by omega) (by rw [L.eq] at ht; simp at ht; omega) (by omega) (by omega)]
    have : ((t.length : Int) - (o.length : Int)).toNat = s.length := by rw [L.eq, List.length_append]; omega
    rw [this]
  have oL : o.length ≤ LINE := by
    have : o.length ≤ t.length := by rw [L.eq]; simp
    omega
  have sl : ∀ h, slcv (.str t) .non (.int 1) h = .ok (.str (t.take 1)) h := fun h => by simp only [slcv, hL, if_true, cut_one]
  have head : ∀ (Q : R W → Prop), Q (fin (((fors [] (forG (call kd P (d + 1)) kd (.nm 2)) (exs (call kd P (d + 1)) kd (loopB (nthS (c_law_v_read F_law_v_sizes).body 2))) (ranges (o.length : Int) s.length) [some (.str t), some (.str o), none, some (.ref h.length), some (.int 0), some (.ref hA.length), some (.str []), none, none, none] (hA ++ [.lst []]))).bind (contX (call kd P (d + 1)) kd (.cons (nthS (c_law_v_read F_law_v_sizes).body 3) .nil)))) → Q (call kd P (d + 2) F_law_v_read [.str t] h) := fun Q hQ => by
    rw [call_run h_law_v_read rfl]
    show Q (fin (runs (call kd P (d + 1)) kd (c_law_v_read F_law_v_sizes).body [some (.str t), none, none, none, none, none, none, none, none, none] h))
    simp only [c_law_v_read, nthS, loopB] at hQ ⊢
    by_cases ho : o = []
    · subst ho
      rw [run_cons]
      simp [R.bind_ok, R.calm_ok, q_cst, q_var, q_varK, q_bin, q_binK, q_binK2, q_neg, q_negK, q_not, q_and, q_andK_t, q_andK_f, q_or, q_orK_t, q_orK_f, q_cmp, q_cmpK, q_cmpK2, q_cmp2, q_cmp2K, q_cmp2K2, q_cmp2K3_t, q_cmp2K3_f, q_ite, q_iteK_t, q_iteK_f, q_tup, q_lst, q_dic, q_sub, q_subK, q_subK2, q_slc, q_slcK, q_slcK2, q_slcK3, q_rev, q_call, q_callK, q_bf, q_bfK, q_mt, q_mtK, q_mtK2, q_mt_int, q_lc, q_lcF, q_bfc, q_cfK, q_idx, q_idxK, q_nil, q_cons, q_consK, q_consK2, q_of, q_srcK_tup, q_srcK_str, q_srcK_ref, q_rng1, q_rng1K, q_rng2, q_rng2K, q_zip, q_zipK_tup, q_zipK_ref, q_enum, q_enumK, q_nm, q_tp, q_tpK, q_tpK_ref, q_sb, q_sbK, q_sbK2, q_unK, q_snil, q_scons, q_stoK, q_tnil, q_tcons, q_evtK_t, q_evtK_f, q_mk, q_evcK, q_asg, q_asgK, q_nxK, q_aug, q_augK, q_augK2, q_augK3, q_ife, q_ifeK_t, q_ifeK_f, q_for, q_forG, q_ret, q_retK, q_retn, q_expr, q_dropK, q_pass, q_brk, q_cont, q_try, q_xnil, q_xcons, q_nx, q_rt, q_bk, q_ct, q_tst, q_tstK, q_fin_rt, q_fin_nx, q_t0, q_l0, q_t1, q_l1, q_t2, q_l2, q_t3, q_l3, q_t4, q_l4, q_t5, q_l5, q_t6, q_l6, q_t7, q_l7, q_t8, q_l8, q_t9, q_l9, q_t10, q_l10, q_t11, q_l11, q_t12, q_l12, q_t13, q_l13, q_t14, q_l14, q_t15, q_l15, q_t16, q_l16, q_t17, q_l17, q_t18, q_l18, q_t19, q_l19, q_notK, gets, sets, wipes, cmpop, ofB, isv, eqh_int, eqh_str, eqh_bl, bfn, bIsi, isT, isTs, tyN, tysOf, TN.is, bInt, bLen, bTup, items, add_int, sub_int, app_at, app_at0, app_put, app_put0, alloc_0, cturn, sl, i1]
      rw [run_nx]
      rw [run_cons]
      simp [R.bind_ok, R.calm_ok, q_cst, q_var, q_varK, q_bin, q_binK, q_binK2, q_neg, q_negK, q_not, q_and, q_andK_t, q_andK_f, q_or, q_orK_t, q_orK_f, q_cmp, q_cmpK, q_cmpK2, q_cmp2, q_cmp2K, q_cmp2K2, q_cmp2K3_t, q_cmp2K3_f, q_ite, q_iteK_t, q_iteK_f, q_tup, q_lst, q_dic, q_sub, q_subK, q_subK2, q_slc, q_slcK, q_slcK2, q_slcK3, q_rev, q_call, q_callK, q_bf, q_bfK, q_mt, q_mtK, q_mtK2, q_mt_int, q_lc, q_lcF, q_bfc, q_cfK, q_idx, q_idxK, q_nil, q_cons, q_consK, q_consK2, q_of, q_srcK_tup, q_srcK_str, q_srcK_ref, q_rng1, q_rng1K, q_rng2, q_rng2K, q_zip, q_zipK_tup, q_zipK_ref, q_enum, q_enumK, q_nm, q_tp, q_tpK, q_tpK_ref, q_sb, q_sbK, q_sbK2, q_unK, q_snil, q_scons, q_stoK, q_tnil, q_tcons, q_evtK_t, q_evtK_f, q_mk, q_evcK, q_asg, q_asgK, q_nxK, q_aug, q_augK, q_augK2, q_augK3, q_ife, q_ifeK_t, q_ifeK_f, q_for, q_forG, q_ret, q_retK, q_retn, q_expr, q_dropK, q_pass, q_brk, q_cont, q_try, q_xnil, q_xcons, q_nx, q_rt, q_bk, q_ct, q_tst, q_tstK, q_fin_rt, q_fin_nx, q_t0, q_l0, q_t1, q_l1, q_t2, q_l2, q_t3, q_l3, q_t4, q_l4, q_t5, q_l5, q_t6, q_l6, q_t7, q_l7, q_t8, q_l8, q_t9, q_l9, q_t10, q_l10, q_t11, q_l11, q_t12, q_l12, q_t13, q_l13, q_t14, q_l14, q_t15, q_l15, q_t16, q_l16, q_t17, q_l17, q_t18, q_l18, q_t19, q_l19, q_notK, gets, sets, wipes, cmpop, ofB, isv, eqh_int, eqh_str, eqh_bl, bfn, bIsi, isT, isTs, tyN, tysOf, TN.is, bInt, bLen, bTup, items, add_int, sub_int, app_at, app_at0, app_put, app_put0, alloc_0, cturn, e1]
      rw [run_nx]
      rw [run_cons]
      rw [show ((([] : List Nat).length : Nat) : Int) = 0 from rfl] at hQ rl
      simp [R.bind_ok, R.calm_ok, q_cst, q_var, q_varK, q_bin, q_binK, q_binK2, q_neg, q_negK, q_not, q_and, q_andK_t, q_andK_f, q_or, q_orK_t, q_orK_f, q_cmp, q_cmpK, q_cmpK2, q_cmp2, q_cmp2K, q_cmp2K2, q_cmp2K3_t, q_cmp2K3_f, q_ite, q_iteK_t, q_iteK_f, q_tup, q_lst, q_dic, q_sub, q_subK, q_subK2, q_slc, q_slcK, q_slcK2, q_slcK3, q_rev, q_call, q_callK, q_bf, q_bfK, q_mt, q_mtK, q_mtK2, q_mt_int, q_lc, q_lcF, q_bfc, q_cfK, q_idx, q_idxK, q_nil, q_cons, q_consK, q_consK2, q_of, q_srcK_tup, q_srcK_str, q_srcK_ref, q_rng1, q_rng1K, q_rng2, q_rng2K, q_zip, q_zipK_tup, q_zipK_ref, q_enum, q_enumK, q_nm, q_tp, q_tpK, q_tpK_ref, q_sb, q_sbK, q_sbK2, q_unK, q_snil, q_scons, q_stoK, q_tnil, q_tcons, q_evtK_t, q_evtK_f, q_mk, q_evcK, q_asg, q_asgK, q_nxK, q_aug, q_augK, q_augK2, q_augK3, q_ife, q_ifeK_t, q_ifeK_f, q_for, q_forG, q_ret, q_retK, q_retn, q_expr, q_dropK, q_pass, q_brk, q_cont, q_try, q_xnil, q_xcons, q_nx, q_rt, q_bk, q_ct, q_tst, q_tstK, q_fin_rt, q_fin_nx, q_t0, q_l0, q_t1, q_l1, q_t2, q_l2, q_t3, q_l3, q_t4, q_l4, q_t5, q_l5, q_t6, q_l6, q_t7, q_l7, q_t8, q_l8, q_t9, q_l9, q_t10, q_l10, q_t11, q_l11, q_t12, q_l12, q_t13, q_l13, q_t14, q_l14, q_t15, q_l15, q_t16, q_l16, q_t17, q_l17, q_t18, q_l18, q_t19, q_l19, q_notK, gets, sets, wipes, cmpop, ofB, isv, eqh_int, eqh_str, eqh_bl, bfn, bIsi, isT, isTs, tyN, tysOf, TN.is, bInt, bLen, bTup, items, add_int, sub_int, app_at, app_at0, app_put, app_put0, alloc_0, cturn, hL, rl, q_forK]
      exact hQ
    · have ie : o.isEmpty = false := by cases o with | nil => exact absurd rfl ho | cons _ _ => rfl
      have := i2 ho
      rw [ie] at i1
      rw [this] at i1 sl
      rw [run_cons]
      simp [R.bind_ok, R.calm_ok, q_cst, q_var, q_varK, q_bin, q_binK, q_binK2, q_neg, q_negK, q_not, q_and, q_andK_t, q_andK_f, q_or, q_orK_t, q_orK_f, q_cmp, q_cmpK, q_cmpK2, q_cmp2, q_cmp2K, q_cmp2K2, q_cmp2K3_t, q_cmp2K3_f, q_ite, q_iteK_t, q_iteK_f, q_tup, q_lst, q_dic, q_sub, q_subK, q_subK2, q_slc, q_slcK, q_slcK2, q_slcK3, q_rev, q_call, q_callK, q_bf, q_bfK, q_mt, q_mtK, q_mtK2, q_mt_int, q_lc, q_lcF, q_bfc, q_cfK, q_idx, q_idxK, q_nil, q_cons, q_consK, q_consK2, q_of, q_srcK_tup, q_srcK_str, q_srcK_ref, q_rng1, q_rng1K, q_rng2, q_rng2K, q_zip, q_zipK_tup, q_zipK_ref, q_enum, q_enumK, q_nm, q_tp, q_tpK, q_tpK_ref, q_sb, q_sbK, q_sbK2, q_unK, q_snil, q_scons, q_stoK, q_tnil, q_tcons, q_evtK_t, q_evtK_f, q_mk, q_evcK, q_asg, q_asgK, q_nxK, q_aug, q_augK, q_augK2, q_augK3, q_ife, q_ifeK_t, q_ifeK_f, q_for, q_forG, q_ret, q_retK, q_retn, q_expr, q_dropK, q_pass, q_brk, q_cont, q_try, q_xnil, q_xcons, q_nx, q_rt, q_bk, q_ct, q_tst, q_tstK, q_fin_rt, q_fin_nx, q_t0, q_l0, q_t1, q_l1, q_t2, q_l2, q_t3, q_l3, q_t4, q_l4, q_t5, q_l5, q_t6, q_l6, q_t7, q_l7, q_t8, q_l8, q_t9, q_l9, q_t10, q_l10, q_t11, q_l11, q_t12, q_l12, q_t13, q_l13, q_t14, q_l14, q_t15, q_l15, q_t16, q_l16, q_t17, q_l17, q_t18, q_l18, q_t19, q_l19, q_notK, gets, sets, wipes, cmpop, ofB, isv, eqh_int, eqh_str, eqh_bl, bfn, bIsi, isT, isTs, tyN, tysOf, TN.is, bInt, bLen, bTup, items, add_int, sub_int, app_at, app_at0, app_put, app_put0, alloc_0, cturn, sl, i1]
      rw [run_nx]
      rw [run_cons]
      simp [R.bind_ok, R.calm_ok, q_cst, q_var, q_varK, q_bin, q_binK, q_binK2, q_neg, q_negK, q_not, q_and, q_andK_t, q_andK_f, q_or, q_orK_t, q_orK_f, q_cmp, q_cmpK, q_cmpK2, q_cmp2, q_cmp2K, q_cmp2K2, q_cmp2K3_t, q_cmp2K3_f, q_ite, q_iteK_t, q_iteK_f, q_tup, q_lst, q_dic, q_sub, q_subK, q_subK2, q_slc, q_slcK, q_slcK2, q_slcK3, q_rev, q_call, q_callK, q_bf, q_bfK, q_mt, q_mtK, q_mtK2, q_mt_int, q_lc, q_lcF, q_bfc, q_cfK, q_idx, q_idxK, q_nil, q_cons, q_consK, q_consK2, q_of, q_srcK_tup, q_srcK_str, q_srcK_ref, q_rng1, q_rng1K, q_rng2, q_rng2K, q_zip, q_zipK_tup, q_zipK_ref, q_enum, q_enumK, q_nm, q_tp, q_tpK, q_tpK_ref, q_sb, q_sbK, q_sbK2, q_unK, q_snil, q_scons, q_stoK, q_tnil, q_tcons, q_evtK_t, q_evtK_f, q_mk, q_evcK, q_asg, q_asgK, q_nxK, q_aug, q_augK, q_augK2, q_augK3, q_ife, q_ifeK_t, q_ifeK_f, q_for, q_forG, q_ret, q_retK, q_retn, q_expr, q_dropK, q_pass, q_brk, q_cont, q_try, q_xnil, q_xcons, q_nx, q_rt, q_bk, q_ct, q_tst, q_tstK, q_fin_rt, q_fin_nx, q_t0, q_l0, q_t1, q_l1, q_t2, q_l2, q_t3, q_l3, q_t4, q_l4, q_t5, q_l5, q_t6, q_l6, q_t7, q_l7, q_t8, q_l8, q_t9, q_l9, q_t10, q_l10, q_t11, q_l11, q_t12, q_l12, q_t13, q_l13, q_t14, q_l14, q_t15, q_l15, q_t16, q_l16, q_t17, q_l17, q_t18, q_l18, q_t19, q_l19, q_notK, gets, sets, wipes, cmpop, ofB, isv, eqh_int, eqh_str, eqh_bl, bfn, bIsi, isT, isTs, tyN, tysOf, TN.is, bInt, bLen, bTup, items, add_int, sub_int, app_at, app_at0, app_put, app_put0, alloc_0, cturn, e1]
      rw [run_nx]
      rw [run_cons]
      simp [R.bind_ok, R.calm_ok, q_cst, q_var, q_varK, q_bin, q_binK, q_binK2, q_neg, q_negK, q_not, q_and, q_andK_t, q_andK_f, q_or, q_orK_t, q_orK_f, q_cmp, q_cmpK, q_cmpK2, q_cmp2, q_cmp2K, q_cmp2K2, q_cmp2K3_t, q_cmp2K3_f, q_ite, q_iteK_t, q_iteK_f, q_tup, q_lst, q_dic, q_sub, q_subK, q_subK2, q_slc, q_slcK, q_slcK2, q_slcK3, q_rev, q_call, q_callK, q_bf, q_bfK, q_mt, q_mtK, q_mtK2, q_mt_int, q_lc, q_lcF, q_bfc, q_cfK, q_idx, q_idxK, q_nil, q_cons, q_consK, q_consK2, q_of, q_srcK_tup, q_srcK_str, q_srcK_ref, q_rng1, q_rng1K, q_rng2, q_rng2K, q_zip, q_zipK_tup, q_zipK_ref, q_enum, q_enumK, q_nm, q_tp, q_tpK, q_tpK_ref, q_sb, q_sbK, q_sbK2, q_unK, q_snil, q_scons, q_stoK, q_tnil, q_tcons, q_evtK_t, q_evtK_f, q_mk, q_evcK, q_asg, q_asgK, q_nxK, q_aug, q_augK, q_augK2, q_augK3, q_ife, q_ifeK_t, q_ifeK_f, q_for, q_forG, q_ret, q_retK, q_retn, q_expr, q_dropK, q_pass, q_brk, q_cont, q_try, q_xnil, q_xcons, q_nx, q_rt, q_bk, q_ct, q_tst, q_tstK, q_fin_rt, q_fin_nx, q_t0, q_l0, q_t1, q_l1, q_t2, q_l2, q_t3, q_l3, q_t4, q_l4, q_t5, q_l5, q_t6, q_l6, q_t7, q_l7, q_t8, q_l8, q_t9, q_l9, q_t10, q_l10, q_t11, q_l11, q_t12, q_l12, q_t13, q_l13, q_t14, q_l14, q_t15, q_l15, q_t16, q_l16, q_t17, q_l17, q_t18, q_l18, q_t19, q_l19, q_notK, gets, sets, wipes, cmpop, ofB, isv, eqh_int, eqh_str, eqh_bl, bfn, bIsi, isT, isTs, tyN, tysOf, TN.is, bInt, bLen, bTup, items, add_int, sub_int, app_at, app_at0, app_put, app_put0, alloc_0, cturn, hL, oL, rl, q_forK]
      exact hQ
  have i3 : ∀ h, isIn kd h (.str o) (.tup [.str [62], .str [33]]) = some gr := fun h => by cases OD <;> rfl
  simp only [lay0] at e2
  cases hr : runL nat s lay0 o.length with
  | inl e =>
    simp only [lay0] at hr
    rw [hr] at e2
    refine ⟨.int (e : Int), _, head (· = _) ?_, hap (.lst xs'), rfl⟩
    rw [show ((0 : Nat) : Int) = 0 from rfl] at e2
    rw [e2]
    rfl
  | inr st =>
    simp only [lay0] at hr
    rw [hr] at e2
    rw [show ((0 : Nat) : Int) = 0 from rfl] at e2
    by_cases hcn : st.cnt = []
    · have b1 : (st.cnt == []) = true := by rw [hcn]; rfl
      refine ⟨.tup [.bl gr, .int (st.place : Int), .ref hA.length], _, head (· = _) ?_, hap (.lst (st.acc.map triW)), ?_⟩
      · rw [e2]
        simp only [c_law_v_read, nthS]
        simp [R.bind_ok, R.calm_ok, q_cst, q_var, q_varK, q_bin, q_binK, q_binK2, q_neg, q_negK, q_not, q_and, q_andK_t, q_andK_f, q_or, q_orK_t, q_orK_f, q_cmp, q_cmpK, q_cmpK2, q_cmp2, q_cmp2K, q_cmp2K2, q_cmp2K3_t, q_cmp2K3_f, q_ite, q_iteK_t, q_iteK_f, q_tup, q_lst, q_dic, q_sub, q_subK, q_subK2, q_slc, q_slcK, q_slcK2, q_slcK3, q_rev, q_call, q_callK, q_bf, q_bfK, q_mt, q_mtK, q_mtK2, q_mt_int, q_lc, q_lcF, q_bfc, q_cfK, q_idx, q_idxK, q_nil, q_cons, q_consK, q_consK2, q_of, q_srcK_tup, q_srcK_str, q_srcK_ref, q_rng1, q_rng1K, q_rng2, q_rng2K, q_zip, q_zipK_tup, q_zipK_ref, q_enum, q_enumK, q_nm, q_tp, q_tpK, q_tpK_ref, q_sb, q_sbK, q_sbK2, q_unK, q_snil, q_scons, q_stoK, q_tnil, q_tcons, q_evtK_t, q_evtK_f, q_mk, q_evcK, q_asg, q_asgK, q_nxK, q_aug, q_augK, q_augK2, q_augK3, q_ife, q_ifeK_t, q_ifeK_f, q_for, q_forG, q_ret, q_retK, q_retn, q_expr, q_dropK, q_pass, q_brk, q_cont, q_try, q_xnil, q_xcons, q_nx, q_rt, q_bk, q_ct, q_tst, q_tstK, q_fin_rt, q_fin_nx, q_t0, q_l0, q_t1, q_l1, q_t2, q_l2, q_t3, q_l3, q_t4, q_l4, q_t5, q_l5, q_t6, q_l6, q_t7, q_l7, q_t8, q_l8, q_t9, q_l9, q_t10, q_l10, q_t11, q_l11, q_t12, q_l12, q_t13, q_l13, q_t14, q_l14, q_t15, q_l15, q_t16, q_l16, q_t17, q_l17, q_t18, q_l18, q_t19, q_l19, q_notK, gets, sets, wipes, cmpop, ofB, isv, eqh_int, eqh_str, eqh_bl, bfn, bIsi, isT, isTs, tyN, tysOf, TN.is, bInt, bLen, bTup, items, add_int, sub_int, app_at, app_at0, app_put, app_put0, alloc_0, cturn, run_nx, run_cons, run_rt, b1, i3]
      · simp only [hcn, if_true]
        exact ⟨_, rfl, by omega, hat _⟩
    · have b1 : (st.cnt == []) = false := by rw [beq_eq_false_iff_ne]; exact hcn
      refine ⟨.int (t.length : Int), _, head (· = _) ?_, hap (.lst (st.acc.map triW)), ?_⟩
      · rw [e2]
        simp only [c_law_v_read, nthS]
        simp [R.bind_ok, R.calm_ok, q_cst, q_var, q_varK, q_bin, q_binK, q_binK2, q_neg, q_negK, q_not, q_and, q_andK_t, q_andK_f, q_or, q_orK_t, q_orK_f, q_cmp, q_cmpK, q_cmpK2, q_cmp2, q_cmp2K, q_cmp2K2, q_cmp2K3_t, q_cmp2K3_f, q_ite, q_iteK_t, q_iteK_f, q_tup, q_lst, q_dic, q_sub, q_subK, q_subK2, q_slc, q_slcK, q_slcK2, q_slcK3, q_rev, q_call, q_callK, q_bf, q_bfK, q_mt, q_mtK, q_mtK2, q_mt_int, q_lc, q_lcF, q_bfc, q_cfK, q_idx, q_idxK, q_nil, q_cons, q_consK, q_consK2, q_of, q_srcK_tup, q_srcK_str, q_srcK_ref, q_rng1, q_rng1K, q_rng2, q_rng2K, q_zip, q_zipK_tup, q_zipK_ref, q_enum, q_enumK, q_nm, q_tp, q_tpK, q_tpK_ref, q_sb, q_sbK, q_sbK2, q_unK, q_snil, q_scons, q_stoK, q_tnil, q_tcons, q_evtK_t, q_evtK_f, q_mk, q_evcK, q_asg, q_asgK, q_nxK, q_aug, q_augK, q_augK2, q_augK3, q_ife, q_ifeK_t, q_ifeK_f, q_for, q_forG, q_ret, q_retK, q_retn, q_expr, q_dropK, q_pass, q_brk, q_cont, q_try, q_xnil, q_xcons, q_nx, q_rt, q_bk, q_ct, q_tst, q_tstK, q_fin_rt, q_fin_nx, q_t0, q_l0, q_t1, q_l1, q_t2, q_l2, q_t3, q_l3, q_t4, q_l4, q_t5, q_l5, q_t6, q_l6, q_t7, q_l7, q_t8, q_l8, q_t9, q_l9, q_t10, q_l10, q_t11, q_l11, q_t12, q_l12, q_t13, q_l13, q_t14, q_l14, q_t15, q_l15, q_t16, q_l16, q_t17, q_l17, q_t18, q_l18, q_t19, q_l19, q_notK, gets, sets, wipes, cmpop, ofB, isv, eqh_int, eqh_str, eqh_bl, bfn, bIsi, isT, isTs, tyN, tysOf, TN.is, bInt, bLen, bTup, items, add_int, sub_int, app_at, app_at0, app_put, app_put0, alloc_0, cturn, run_nx, run_cons, run_rt, b1, i3, hL]
      · simp only [hcn, if_false]
end
end Vl
set_option maxRecDepth 100000
set_option maxHeartbeats 4000000
namespace Vl
theorem Ap.set {h h' : L} {p : Nat} {o : O} (a : Ap h h') (hp : h.length ≤ p) : Ap h (h'.set p o) := by
  obtain ⟨t, rfl⟩ := a.ex
  exact ⟨t.set (p - h.length) o, by rw [List.set_append_right _ _ hp]⟩
theorem Ap.len {h h' : L} (a : Ap h h') : h.length ≤ h'.length := by
  obtain ⟨t, rfl⟩ := a.ex
  simp
theorem extend_ok {h : L} {p q : Nat} {xs ys : List W} (h1 : h[p]? = some (.lst xs)) (h2 : h[q]? = some (.lst ys)) (hl : xs.length + ys.length ≤ LINE) : mExtend p q h = .ok .non (h.set p (.lst (xs ++ ys))) := by
  simp only [mExtend, h1, h2]
  exact if_pos hl
theorem runL_digits {nat : Bool} : ∀ (ds : List Nat), ds.all isDig = true → ∀ (r cnt : List Nat) (pl : Nat) (acc : List (Nat × Nat × Nat)) (i : Nat), runL nat (ds ++ r) ⟨cnt, pl, acc⟩ i = runL nat r ⟨cnt ++ ds, pl, acc⟩ (i + ds.length)
  | [], _, r, cnt, pl, acc, i => by simp
  | c :: ds, hd, r, cnt, pl, acc, i => by
    simp only [List.all_cons, Bool.and_eq_true] at hd
    have hs : stepL nat ⟨cnt, pl, acc⟩ c = some ⟨cnt ++ [c], pl, acc⟩ := by simp [stepL, hd.1]
    rw [List.cons_append]
    simp only [runL, hs]
    rw [runL_digits ds hd.2]
    simp [Nat.add_assoc, Nat.add_comm 1]
theorem tot_digits : ∀ (ds : List Nat), ds.all isDig = true → ∀ (r cnt : List Nat), tot (ds ++ r) cnt = tot r (cnt ++ ds)
  | [], _, r, cnt => by simp
  | c :: ds, hd, r, cnt => by
    simp only [List.all_cons, Bool.and_eq_true] at hd
    rw [List.cons_append]
    simp only [tot, hd.1, if_true]
    rw [tot_digits ds hd.2]
    simp
theorem digits_split (r : List Nat) : ∃ ds rest, r = ds ++ rest ∧ ds.all isDig = true ∧ ∀ c r', rest = c :: r' → isDig c = false := by
  refine ⟨r.takeWhile isDig, r.dropWhile isDig, (List.takeWhile_append_dropWhile).symm, ?_, ?_⟩
  · exact List.all_takeWhile
  · intro c r' e
    have := List.head?_dropWhile_not isDig r
    rw [e] at this
    simpa using this
theorem neg_mod {a z : Nat} (h : 0 < z ∧ z ≤ 8) : (-(a : Int)) % (z : Int) = (((z - a % z) % z : Nat) : Int) := by
  obtain ⟨h1, h2⟩ := h
  have : z = 1 ∨ z = 2 ∨ z = 3 ∨ z = 4 ∨ z = 5 ∨ z = 6 ∨ z = 7 ∨ z = 8 := by omega
  rcases this with rfl | rfl | rfl | rfl | rfl | rfl | rfl | rfl <;> omega
section
variable {kd : Kd} {P : List Fn} [Tab P] [KTab kd] {d : Nat} {h H : L}
def rlB : Ss := loopB (nthS (c_read_layout F_count_from F_field_of K_NATIVE K_STANDARD).body 4)
/-- what the order is to the program -/
def ordP (o : List Nat) : List Nat := if o = [] then [64] else o
theorem rl_turn {t o pre r : List Nat} {nat gr : Bool} {p q i : Nat} {tbl : List (List Nat × W)} {pl : Nat} {acc : List (Nat × Nat × Nat)} {stF : LS} {x6 x7 x8 : Option W} {h' : L} (OD : Ord o nat gr) (hp : h.length ≤ p) (hpq : p ≠ q) (ap : Ap h h') (e1 : h'[p]? = some (.lst (acc.map triW))) (e2 : h'[q]? = some (.dic tbl)) (hok : okT tbl = true) (htb : ∀ c, szI tbl c = szOf nat c)
    (ht : t.length ≤ 640) (et : t = pre ++ r) (hr : r ≠ []) (hb : acc.length + tot r [] ≤ 1000000) (hrun : runL nat r ⟨[], pl, acc⟩ i = .inr stF) (hF : stF.cnt = []) :
    ∃ pre' r' i' pl' acc' y6 y7 y8 h'', t = pre' ++ r' ∧ r'.length < r.length ∧ runL nat r' ⟨[], pl', acc'⟩ i' = .inr stF ∧ Ap h h'' ∧ h''[p]? = some (.lst (acc'.map triW)) ∧ h''[q]? = some (.dic tbl) ∧ acc'.length + tot r' [] ≤ 1000000 ∧
      (exs (call kd P (d + 1)) kd rlB [some (.str t), some (.str (ordP o)), some (.ref q), some (.int (pre.length : Int)), some (.int (pl : Int)), some (.ref p), x6, x7, x8] h' = .ok (.nx [some (.str t), some (.str (ordP o)), some (.ref q), some (.int (pre'.length : Int)), some (.int (pl' : Int)), some (.ref p), y6, y7, y8]) h'' ∨
       exs (call kd P (d + 1)) kd rlB [some (.str t), some (.str (ordP o)), some (.ref q), some (.int (pre.length : Int)), some (.int (pl : Int)), some (.ref p), x6, x7, x8] h' = .ok (.ct [some (.str t), some (.str (ordP o)), some (.ref q), some (.int (pre'.length : Int)), some (.int (pl' : Int)), some (.ref p), y6, y7, y8]) h'') := by
  have hL : t.length ≤ LINE := Nat.le_trans ht (by decide)
  cases r with
  | nil => exact absurd rfl hr
  | cons c r0 =>
  by_cases h32 : c = 32
  · subst h32
    have hs : stepL nat ⟨[], pl, acc⟩ 32 = some ⟨[], pl, acc⟩ := by
      have : szOf nat 32 = none := by cases nat <;> rfl
      simp [stepL, this, isDig]
    simp only [runL, hs] at hrun
    refine ⟨pre ++ [32], r0, i + 1, pl, acc, x6, x7, x8, h', by simp [et], by simp, hrun, ap, e1, e2, by have := stepL_tot (s := r0) hs; simp only at this; omega, .inr ?_⟩
    have h2 := str_at (kd := kd) (h := h') hL (show t[pre.length]? = some 32 by rw [et]; exact pre_at)
    rw [List.length_append, List.length_singleton, Int.natCast_add]
    simp only [rlB, loopB, nthS, c_read_layout]
    simp [R.bind_ok, R.calm_ok, q_cst, q_var, q_varK, q_bin, q_binK, q_binK2, q_neg, q_negK, q_not, q_and, q_andK_t, q_andK_f, q_or, q_orK_t, q_orK_f, q_cmp, q_cmpK, q_cmpK2, q_cmp2, q_cmp2K, q_cmp2K2, q_cmp2K3_t, q_cmp2K3_f, q_ite, q_iteK_t, q_iteK_f, q_tup, q_lst, q_dic, q_sub, q_subK, q_subK2, q_slc, q_slcK, q_slcK2, q_slcK3, q_rev, q_call, q_callK, q_bf, q_bfK, q_mt, q_mtK, q_mtK2, q_mt_int, q_lc, q_lcF, q_bfc, q_cfK, q_idx, q_idxK, q_nil, q_cons, q_consK, q_consK2, q_of, q_srcK_tup, q_srcK_str, q_srcK_ref, q_rng1, q_rng1K, q_rng2, q_rng2K, q_zip, q_zipK_tup, q_zipK_ref, q_enum, q_enumK, q_nm, q_tp, q_tpK, q_tpK_ref, q_sb, q_sbK, q_sbK2, q_unK, q_snil, q_scons, q_stoK, q_tnil, q_tcons, q_evtK_t, q_evtK_f, q_mk, q_evcK, q_asg, q_asgK, q_nxK, q_aug, q_augK, q_augK2, q_augK3, q_ife, q_ifeK_t, q_ifeK_f, q_for, q_forG, q_ret, q_retK, q_retn, q_expr, q_dropK, q_pass, q_brk, q_cont, q_try, q_xnil, q_xcons, q_nx, q_rt, q_bk, q_ct, q_tst, q_tstK, q_fin_rt, q_fin_nx, q_t0, q_l0, q_t1, q_l1, q_t2, q_l2, q_t3, q_l3, q_t4, q_l4, q_t5, q_l5, q_t6, q_l6, q_t7, q_l7, q_t8, q_l8, q_t9, q_l9, q_t10, q_l10, q_t11, q_l11, q_t12, q_l12, q_t13, q_l13, q_t14, q_l14, q_t15, q_l15, q_t16, q_l16, q_t17, q_l17, q_t18, q_l18, q_t19, q_l19, q_notK, gets, sets, wipes, cmpop, ofB, isv, eqh_int, eqh_str, eqh_bl, bfn, bIsi, isT, isTs, tyN, tysOf, TN.is, bInt, bLen, bTup, items, add_int, sub_int, app_at, app_at0, app_put, app_put0, alloc_0, cturn, h2, augop]
  · obtain ⟨ds, rest, er, hd, hn⟩ := digits_split (c :: r0)
    rw [er] at et hrun hb
    rw [runL_digits ds hd, List.nil_append] at hrun
    rw [tot_digits ds hd, List.nil_append] at hb
    cases rest with
    | nil =>
      simp only [runL] at hrun
      cases hrun
      simp only at hF
      subst hF
      simp at er
    | cons c' r2 =>
    have hdg := hn c' r2 rfl
    have hc32 : c' ≠ 32 ∨ ds ≠ [] := by
      by_cases hds : ds = []
      · subst hds
        simp at er
        exact .inl (by rw [← er.1]; exact h32)
      · exact .inr hds
    cases hz : szOf nat c' with
    | none =>
      have hs : stepL nat ⟨ds, pl, acc⟩ c' = none := by
        unfold stepL
        rw [if_neg (by rw [hdg]; decide), hz]
        exact if_neg (fun ⟨a, b⟩ => hc32.elim (fun z => z a) (fun z => z b))
      simp only [runL, hs] at hrun
      cases hrun
    | some z =>
    obtain ⟨z1, z2, _, z4, z5⟩ := szOf_facts hz
    have hs : stepL nat ⟨ds, pl, acc⟩ c' = some ⟨[], upTo nat pl z + manyOf ds * z, acc ++ fieldT c' z (manyOf ds) (upTo nat pl z)⟩ := by simp [stepL, hdg, hz]
    simp only [runL, hs] at hrun
    have htt : tot (c' :: r2) ds = manyOf ds + 1 + tot r2 [] := by simp only [tot]; rw [if_neg (by rw [hdg]; decide)]
    have fl := fieldT_len c' z (manyOf ds) (upTo nat pl z)
    obtain ⟨p8, hA, f1, a1, g1, g2⟩ := field_of_t (kd := kd) (P := P) (d := d) (h := h') (c := c') (z := z) (many := manyOf ds) (place := upTo nat pl z) ⟨z1, z2⟩ z5 (by omega)
    have hlen : pre.length + ds.length + 1 ≤ 640 := by rw [et] at ht; simp at ht; omega
    have cf := count_from_t (kd := kd) (P := P) (d := d) (h := h') (pre := pre) (ds := ds) (rest := c' :: r2) hd (fun c r' e => hn c r' e) (by rw [List.append_assoc, ← et]; omega) (by omega)
    rw [List.append_assoc, ← et] at cf
    have hp8 : p ≠ p8 := by
      have := (List.getElem?_eq_some_iff.mp e1).1
      omega
    have hx := extend_ok (a1.at e1) g2 (by have : (1000000 : Nat) ≤ LINE := by decide
                                           simp; omega)
    have at1 : t[pre.length]? = some c := by
      rw [et, ← er]
      exact pre_at
    have at2 : t[pre.length + ds.length]? = some c' := by
      rw [et, ← List.append_assoc, ← List.length_append]
      exact pre_at
    have s1 := fun h => str_at (kd := kd) (h := h) hL at1
    have s2 := fun h => str_at (kd := kd) (h := h) hL at2
    have b1 : ([c] == [32]) = false := by rw [beq1]; exact decide_eq_false (fun e => h32 e.symm)
    have lk : lookK tbl [c'] = some (.int (z : Int)) := by rw [szI_look hok, htb, hz]; rfl
    have ii := isIn_dic (kd := kd) (k := [c']) e2
    rw [lk] at ii
    have sd := sub_dic (kd := kd) e2 lk
    have hat : ((pre.length + ds.length : Nat) : Int) ≠ (t.length : Int) := by rw [et]; simp; omega
    have hat' : (((pre.length + ds.length : Nat) : Int) == (t.length : Int)) = false := beq_eq_false_iff_ne.mpr hat
    have mo : mtOk .extend (.ref p) hA = true := by
      show isLst hA p = true
      unfold isLst
      rw [a1.at e1]
    have hmany : (if ds = [] then (1 : Int) else (decV ds : Int)) = (manyOf ds : Int) := by unfold manyOf; split <;> rfl
    rw [hmany] at cf
    refine ⟨pre ++ ds ++ [c'], r2, i + ds.length + 1, upTo nat pl z + manyOf ds * z, acc ++ fieldT c' z (manyOf ds) (upTo nat pl z), some (.int (z : Int)), some (.int (manyOf ds : Int)), some (.ref p8), hA.set p (.lst (acc.map triW ++ (fieldT c' z (manyOf ds) (upTo nat pl z)).map triW)), by simp [et], by rw [er]; simp; omega, hrun, (ap.trans a1).set hp, ?_, set_at_ne (a1.at e2) hpq, ?_, .inl ?_⟩
    · rw [set_at (by have := (List.getElem?_eq_some_iff.mp (a1.at e1)).1; exact this), List.map_append]
    · rw [List.length_append]
      omega
    · have up : ex (call kd P (d + 1)) kd (.ife (.cmp .eq (.var 1) (.cst (.str [64]))) (.cons (.aug 4 .add (.bin .mod (.neg (.var 4)) (.var 6))) .nil) .nil) [some (.str t), some (.str (ordP o)), some (.ref q), some (.int ((pre.length + ds.length : Nat) : Int)), some (.int (pl : Int)), some (.ref p), some (.int (z : Int)), some (.int (manyOf ds : Int)), x8] h'
          = .ok (.nx [some (.str t), some (.str (ordP o)), some (.ref q), some (.int ((pre.length + ds.length : Nat) : Int)), some (.int ((upTo nat pl z : Nat) : Int)), some (.ref p), some (.int (z : Int)), some (.int (manyOf ds : Int)), x8]) h' := by
        have md : binop .mod (.int (-(pl : Int))) (.int (z : Int)) h' = .ok (.int (((z - pl % z) % z : Nat) : Int)) h' := by
          rw [← neg_mod ⟨z1, z2⟩]
          exact mod_ok (by omega)
        have ho : ([64] == ordP o) = nat ∧ (ordP o == [64]) = nat := by cases OD <;> exact ⟨rfl, rfl⟩
        cases nat with
        | true =>
          have eu : ((upTo true pl z : Nat) : Int) = (pl : Int) + (((z - pl % z) % z : Nat) : Int) := by simp only [upTo, if_true]; rw [Int.natCast_add]
          rw [eu]
          generalize (((z - pl % z) % z : Nat) : Int) = mm at *
          simp [R.bind_ok, R.calm_ok, q_cst, q_var, q_varK, q_bin, q_binK, q_binK2, q_neg, q_negK, q_not, q_and, q_andK_t, q_andK_f, q_or, q_orK_t, q_orK_f, q_cmp, q_cmpK, q_cmpK2, q_cmp2, q_cmp2K, q_cmp2K2, q_cmp2K3_t, q_cmp2K3_f, q_ite, q_iteK_t, q_iteK_f, q_tup, q_lst, q_dic, q_sub, q_subK, q_subK2, q_slc, q_slcK, q_slcK2, q_slcK3, q_rev, q_call, q_callK, q_bf, q_bfK, q_mt, q_mtK, q_mtK2, q_mt_int, q_lc, q_lcF, q_bfc, q_cfK, q_idx, q_idxK, q_nil, q_cons, q_consK, q_consK2, q_of, q_srcK_tup, q_srcK_str, q_srcK_ref, q_rng1, q_rng1K, q_rng2, q_rng2K, q_zip, q_zipK_tup, q_zipK_ref, q_enum, q_enumK, q_nm, q_tp, q_tpK, q_tpK_ref, q_sb, q_sbK, q_sbK2, q_unK, q_snil, q_scons, q_stoK, q_tnil, q_tcons, q_evtK_t, q_evtK_f, q_mk, q_evcK, q_asg, q_asgK, q_nxK, q_aug, q_augK, q_augK2, q_augK3, q_ife, q_ifeK_t, q_ifeK_f, q_for, q_forG, q_ret, q_retK, q_retn, q_expr, q_dropK, q_pass, q_brk, q_cont, q_try, q_xnil, q_xcons, q_nx, q_rt, q_bk, q_ct, q_tst, q_tstK, q_fin_rt, q_fin_nx, q_t0, q_l0, q_t1, q_l1, q_t2, q_l2, q_t3, q_l3, q_t4, q_l4, q_t5, q_l5, q_t6, q_l6, q_t7, q_l7, q_t8, q_l8, q_t9, q_l9, q_t10, q_l10, q_t11, q_l11, q_t12, q_l12, q_t13, q_l13, q_t14, q_l14, q_t15, q_l15, q_t16, q_l16, q_t17, q_l17, q_t18, q_l18, q_t19, q_l19, q_notK, gets, sets, wipes, cmpop, ofB, isv, eqh_int, eqh_str, eqh_bl, bfn, bIsi, isT, isTs, tyN, tysOf, TN.is, bInt, bLen, bTup, items, add_int, sub_int, app_at, app_at0, app_put, app_put0, alloc_0, cturn, ho.2, md, augop]
        | false =>
          have eu : upTo false pl z = pl := rfl
          rw [eu]
          simp [R.bind_ok, R.calm_ok, q_cst, q_var, q_varK, q_bin, q_binK, q_binK2, q_neg, q_negK, q_not, q_and, q_andK_t, q_andK_f, q_or, q_orK_t, q_orK_f, q_cmp, q_cmpK, q_cmpK2, q_cmp2, q_cmp2K, q_cmp2K2, q_cmp2K3_t, q_cmp2K3_f, q_ite, q_iteK_t, q_iteK_f, q_tup, q_lst, q_dic, q_sub, q_subK, q_subK2, q_slc, q_slcK, q_slcK2, q_slcK3, q_rev, q_call, q_callK, q_bf, q_bfK, q_mt, q_mtK, q_mtK2, q_mt_int, q_lc, q_lcF, q_bfc, q_cfK, q_idx, q_idxK, q_nil, q_cons, q_consK, q_consK2, q_of, q_srcK_tup, q_srcK_str, q_srcK_ref, q_rng1, q_rng1K, q_rng2, q_rng2K, q_zip, q_zipK_tup, q_zipK_ref, q_enum, q_enumK, q_nm, q_tp, q_tpK, q_tpK_ref, q_sb, q_sbK, q_sbK2, q_unK, q_snil, q_scons, q_stoK, q_tnil, q_tcons, q_evtK_t, q_evtK_f, q_mk, q_evcK, q_asg, q_asgK, q_nxK, q_aug, q_augK, q_augK2, q_augK3, q_ife, q_ifeK_t, q_ifeK_f, q_for, q_forG, q_ret, q_retK, q_retn, q_expr, q_dropK, q_pass, q_brk, q_cont, q_try, q_xnil, q_xcons, q_nx, q_rt, q_bk, q_ct, q_tst, q_tstK, q_fin_rt, q_fin_nx, q_t0, q_l0, q_t1, q_l1, q_t2, q_l2, q_t3, q_l3, q_t4, q_l4, q_t5, q_l5, q_t6, q_l6, q_t7, q_l7, q_t8, q_l8, q_t9, q_l9, q_t10, q_l10, q_t11, q_l11, q_t12, q_l12, q_t13, q_l13, q_t14, q_l14, q_t15, q_l15, q_t16, q_l16, q_t17, q_l17, q_t18, q_l18, q_t19, q_l19, q_notK, gets, sets, wipes, cmpop, ofB, isv, eqh_int, eqh_str, eqh_bl, bfn, bIsi, isT, isTs, tyN, tysOf, TN.is, bInt, bLen, bTup, items, add_int, sub_int, app_at, app_at0, app_put, app_put0, alloc_0, cturn, ho.2]
      generalize ((upTo nat pl z + manyOf ds * z : Nat) : Int) = plN at *
      generalize ((upTo nat pl z : Nat) : Int) = plU at *
      have epos : ((pre ++ ds ++ [c']).length : Int) = ((pre.length + ds.length : Nat) : Int) + 1 := by simp; omega
      rw [epos]
      generalize ((pre.length + ds.length : Nat) : Int) = pos at *
      show runs (call kd P (d + 1)) kd rlB _ _ = _
      simp only [rlB, loopB, nthS, c_read_layout]
      rw [run_cons]
      simp [R.bind_ok, R.calm_ok, q_cst, q_var, q_varK, q_bin, q_binK, q_binK2, q_neg, q_negK, q_not, q_and, q_andK_t, q_andK_f, q_or, q_orK_t, q_orK_f, q_cmp, q_cmpK, q_cmpK2, q_cmp2, q_cmp2K, q_cmp2K2, q_cmp2K3_t, q_cmp2K3_f, q_ite, q_iteK_t, q_iteK_f, q_tup, q_lst, q_dic, q_sub, q_subK, q_subK2, q_slc, q_slcK, q_slcK2, q_slcK3, q_rev, q_call, q_callK, q_bf, q_bfK, q_mt, q_mtK, q_mtK2, q_mt_int, q_lc, q_lcF, q_bfc, q_cfK, q_idx, q_idxK, q_nil, q_cons, q_consK, q_consK2, q_of, q_srcK_tup, q_srcK_str, q_srcK_ref, q_rng1, q_rng1K, q_rng2, q_rng2K, q_zip, q_zipK_tup, q_zipK_ref, q_enum, q_enumK, q_nm, q_tp, q_tpK, q_tpK_ref, q_sb, q_sbK, q_sbK2, q_unK, q_snil, q_scons, q_stoK, q_tnil, q_tcons, q_evtK_t, q_evtK_f, q_mk, q_evcK, q_asg, q_asgK, q_nxK, q_aug, q_augK, q_augK2, q_augK3, q_ife, q_ifeK_t, q_ifeK_f, q_for, q_forG, q_ret, q_retK, q_retn, q_expr, q_dropK, q_pass, q_brk, q_cont, q_try, q_xnil, q_xcons, q_nx, q_rt, q_bk, q_ct, q_tst, q_tstK, q_fin_rt, q_fin_nx, q_t0, q_l0, q_t1, q_l1, q_t2, q_l2, q_t3, q_l3, q_t4, q_l4, q_t5, q_l5, q_t6, q_l6, q_t7, q_l7, q_t8, q_l8, q_t9, q_l9, q_t10, q_l10, q_t11, q_l11, q_t12, q_l12, q_t13, q_l13, q_t14, q_l14, q_t15, q_l15, q_t16, q_l16, q_t17, q_l17, q_t18, q_l18, q_t19, q_l19, q_notK, gets, sets, wipes, cmpop, ofB, isv, eqh_int, eqh_str, eqh_bl, bfn, bIsi, isT, isTs, tyN, tysOf, TN.is, bInt, bLen, bTup, items, add_int, sub_int, app_at, app_at0, app_put, app_put0, alloc_0, cturn, s1, b1]
      rw [run_nx]
      rw [run_cons]
      simp [R.bind_ok, R.calm_ok, q_cst, q_var, q_varK, q_bin, q_binK, q_binK2, q_neg, q_negK, q_not, q_and, q_andK_t, q_andK_f, q_or, q_orK_t, q_orK_f, q_cmp, q_cmpK, q_cmpK2, q_cmp2, q_cmp2K, q_cmp2K2, q_cmp2K3_t, q_cmp2K3_f, q_ite, q_iteK_t, q_iteK_f, q_tup, q_lst, q_dic, q_sub, q_subK, q_subK2, q_slc, q_slcK, q_slcK2, q_slcK3, q_rev, q_call, q_callK, q_bf, q_bfK, q_mt, q_mtK, q_mtK2, q_mt_int, q_lc, q_lcF, q_bfc, q_cfK, q_idx, q_idxK, q_nil, q_cons, q_consK, q_consK2, q_of, q_srcK_tup, q_srcK_str, q_srcK_ref, q_rng1, q_rng1K, q_rng2, q_rng2K, q_zip, q_zipK_tup, q_zipK_ref, q_enum, q_enumK, q_nm, q_tp, q_tpK, q_tpK_ref, q_sb, q_sbK, q_sbK2, q_unK, q_snil, q_scons, q_stoK, q_tnil, q_tcons, q_evtK_t, q_evtK_f, q_mk, q_evcK, q_asg, q_asgK, q_nxK, q_aug, q_augK, q_augK2, q_augK3, q_ife, q_ifeK_t, q_ifeK_f, q_for, q_forG, q_ret, q_retK, q_retn, q_expr, q_dropK, q_pass, q_brk, q_cont, q_try, q_xnil, q_xcons, q_nx, q_rt, q_bk, q_ct, q_tst, q_tstK, q_fin_rt, q_fin_nx, q_t0, q_l0, q_t1, q_l1, q_t2, q_l2, q_t3, q_l3, q_t4, q_l4, q_t5, q_l5, q_t6, q_l6, q_t7, q_l7, q_t8, q_l8, q_t9, q_l9, q_t10, q_l10, q_t11, q_l11, q_t12, q_l12, q_t13, q_l13, q_t14, q_l14, q_t15, q_l15, q_t16, q_l16, q_t17, q_l17, q_t18, q_l18, q_t19, q_l19, q_notK, gets, sets, wipes, cmpop, ofB, isv, eqh_int, eqh_str, eqh_bl, bfn, bIsi, isT, isTs, tyN, tysOf, TN.is, bInt, bLen, bTup, items, add_int, sub_int, app_at, app_at0, app_put, app_put0, alloc_0, cturn, cf]
      rw [run_nx]
      rw [run_cons]
      simp [R.bind_ok, R.calm_ok, q_cst, q_var, q_varK, q_bin, q_binK, q_binK2, q_neg, q_negK, q_not, q_and, q_andK_t, q_andK_f, q_or, q_orK_t, q_orK_f, q_cmp, q_cmpK, q_cmpK2, q_cmp2, q_cmp2K, q_cmp2K2, q_cmp2K3_t, q_cmp2K3_f, q_ite, q_iteK_t, q_iteK_f, q_tup, q_lst, q_dic, q_sub, q_subK, q_subK2, q_slc, q_slcK, q_slcK2, q_slcK3, q_rev, q_call, q_callK, q_bf, q_bfK, q_mt, q_mtK, q_mtK2, q_mt_int, q_lc, q_lcF, q_bfc, q_cfK, q_idx, q_idxK, q_nil, q_cons, q_consK, q_consK2, q_of, q_srcK_tup, q_srcK_str, q_srcK_ref, q_rng1, q_rng1K, q_rng2, q_rng2K, q_zip, q_zipK_tup, q_zipK_ref, q_enum, q_enumK, q_nm, q_tp, q_tpK, q_tpK_ref, q_sb, q_sbK, q_sbK2, q_unK, q_snil, q_scons, q_stoK, q_tnil, q_tcons, q_evtK_t, q_evtK_f, q_mk, q_evcK, q_asg, q_asgK, q_nxK, q_aug, q_augK, q_augK2, q_augK3, q_ife, q_ifeK_t, q_ifeK_f, q_for, q_forG, q_ret, q_retK, q_retn, q_expr, q_dropK, q_pass, q_brk, q_cont, q_try, q_xnil, q_xcons, q_nx, q_rt, q_bk, q_ct, q_tst, q_tstK, q_fin_rt, q_fin_nx, q_t0, q_l0, q_t1, q_l1, q_t2, q_l2, q_t3, q_l3, q_t4, q_l4, q_t5, q_l5, q_t6, q_l6, q_t7, q_l7, q_t8, q_l8, q_t9, q_l9, q_t10, q_l10, q_t11, q_l11, q_t12, q_l12, q_t13, q_l13, q_t14, q_l14, q_t15, q_l15, q_t16, q_l16, q_t17, q_l17, q_t18, q_l18, q_t19, q_l19, q_notK, gets, sets, wipes, cmpop, ofB, isv, eqh_int, eqh_str, eqh_bl, bfn, bIsi, isT, isTs, tyN, tysOf, TN.is, bInt, bLen, bTup, items, add_int, sub_int, app_at, app_at0, app_put, app_put0, alloc_0, cturn, hL, hat', s2, ii]
      rw [run_nx]
      rw [run_cons]
      simp [R.bind_ok, R.calm_ok, q_cst, q_var, q_varK, q_bin, q_binK, q_binK2, q_neg, q_negK, q_not, q_and, q_andK_t, q_andK_f, q_or, q_orK_t, q_orK_f, q_cmp, q_cmpK, q_cmpK2, q_cmp2, q_cmp2K, q_cmp2K2, q_cmp2K3_t, q_cmp2K3_f, q_ite, q_iteK_t, q_iteK_f, q_tup, q_lst, q_dic, q_sub, q_subK, q_subK2, q_slc, q_slcK, q_slcK2, q_slcK3, q_rev, q_call, q_callK, q_bf, q_bfK, q_mt, q_mtK, q_mtK2, q_mt_int, q_lc, q_lcF, q_bfc, q_cfK, q_idx, q_idxK, q_nil, q_cons, q_consK, q_consK2, q_of, q_srcK_tup, q_srcK_str, q_srcK_ref, q_rng1, q_rng1K, q_rng2, q_rng2K, q_zip, q_zipK_tup, q_zipK_ref, q_enum, q_enumK, q_nm, q_tp, q_tpK, q_tpK_ref, q_sb, q_sbK, q_sbK2, q_unK, q_snil, q_scons, q_stoK, q_tnil, q_tcons, q_evtK_t, q_evtK_f, q_mk, q_evcK, q_asg, q_asgK, q_nxK, q_aug, q_augK, q_augK2, q_augK3, q_ife, q_ifeK_t, q_ifeK_f, q_for, q_forG, q_ret, q_retK, q_retn, q_expr, q_dropK, q_pass, q_brk, q_cont, q_try, q_xnil, q_xcons, q_nx, q_rt, q_bk, q_ct, q_tst, q_tstK, q_fin_rt, q_fin_nx, q_t0, q_l0, q_t1, q_l1, q_t2, q_l2, q_t3, q_l3, q_t4, q_l4, q_t5, q_l5, q_t6, q_l6, q_t7, q_l7, q_t8, q_l8, q_t9, q_l9, q_t10, q_l10, q_t11, q_l11, q_t12, q_l12, q_t13, q_l13, q_t14, q_l14, q_t15, q_l15, q_t16, q_l16, q_t17, q_l17, q_t18, q_l18, q_t19, q_l19, q_notK, gets, sets, wipes, cmpop, ofB, isv, eqh_int, eqh_str, eqh_bl, bfn, bIsi, isT, isTs, tyN, tysOf, TN.is, bInt, bLen, bTup, items, add_int, sub_int, app_at, app_at0, app_put, app_put0, alloc_0, cturn, s2, sd]
      rw [run_nx]
      rw [run_cons, up, R.bind_ok, run_nx]
      rw [run_cons]
      simp [R.bind_ok, R.calm_ok, q_cst, q_var, q_varK, q_bin, q_binK, q_binK2, q_neg, q_negK, q_not, q_and, q_andK_t, q_andK_f, q_or, q_orK_t, q_orK_f, q_cmp, q_cmpK, q_cmpK2, q_cmp2, q_cmp2K, q_cmp2K2, q_cmp2K3_t, q_cmp2K3_f, q_ite, q_iteK_t, q_iteK_f, q_tup, q_lst, q_dic, q_sub, q_subK, q_subK2, q_slc, q_slcK, q_slcK2, q_slcK3, q_rev, q_call, q_callK, q_bf, q_bfK, q_mt, q_mtK, q_mtK2, q_mt_int, q_lc, q_lcF, q_bfc, q_cfK, q_idx, q_idxK, q_nil, q_cons, q_consK, q_consK2, q_of, q_srcK_tup, q_srcK_str, q_srcK_ref, q_rng1, q_rng1K, q_rng2, q_rng2K, q_zip, q_zipK_tup, q_zipK_ref, q_enum, q_enumK, q_nm, q_tp, q_tpK, q_tpK_ref, q_sb, q_sbK, q_sbK2, q_unK, q_snil, q_scons, q_stoK, q_tnil, q_tcons, q_evtK_t, q_evtK_f, q_mk, q_evcK, q_asg, q_asgK, q_nxK, q_aug, q_augK, q_augK2, q_augK3, q_ife, q_ifeK_t, q_ifeK_f, q_for, q_forG, q_ret, q_retK, q_retn, q_expr, q_dropK, q_pass, q_brk, q_cont, q_try, q_xnil, q_xcons, q_nx, q_rt, q_bk, q_ct, q_tst, q_tstK, q_fin_rt, q_fin_nx, q_t0, q_l0, q_t1, q_l1, q_t2, q_l2, q_t3, q_l3, q_t4, q_l4, q_t5, q_l5, q_t6, q_l6, q_t7, q_l7, q_t8, q_l8, q_t9, q_l9, q_t10, q_l10, q_t11, q_l11, q_t12, q_l12, q_t13, q_l13, q_t14, q_l14, q_t15, q_l15, q_t16, q_l16, q_t17, q_l17, q_t18, q_l18, q_t19, q_l19, q_notK, gets, sets, wipes, cmpop, ofB, isv, eqh_int, eqh_str, eqh_bl, bfn, bIsi, isT, isTs, tyN, tysOf, TN.is, bInt, bLen, bTup, items, add_int, sub_int, app_at, app_at0, app_put, app_put0, alloc_0, cturn, s2, f1]
      rw [run_nx]
      rw [run_cons]
      simp [R.bind_ok, R.calm_ok, q_cst, q_var, q_varK, q_bin, q_binK, q_binK2, q_neg, q_negK, q_not, q_and, q_andK_t, q_andK_f, q_or, q_orK_t, q_orK_f, q_cmp, q_cmpK, q_cmpK2, q_cmp2, q_cmp2K, q_cmp2K2, q_cmp2K3_t, q_cmp2K3_f, q_ite, q_iteK_t, q_iteK_f, q_tup, q_lst, q_dic, q_sub, q_subK, q_subK2, q_slc, q_slcK, q_slcK2, q_slcK3, q_rev, q_call, q_callK, q_bf, q_bfK, q_mt, q_mtK, q_mtK2, q_mt_int, q_lc, q_lcF, q_bfc, q_cfK, q_idx, q_idxK, q_nil, q_cons, q_consK, q_consK2, q_of, q_srcK_tup, q_srcK_str, q_srcK_ref, q_rng1, q_rng1K, q_rng2, q_rng2K, q_zip, q_zipK_tup, q_zipK_ref, q_enum, q_enumK, q_nm, q_tp, q_tpK, q_tpK_ref, q_sb, q_sbK, q_sbK2, q_unK, q_snil, q_scons, q_stoK, q_tnil, q_tcons, q_evtK_t, q_evtK_f, q_mk, q_evcK, q_asg, q_asgK, q_nxK, q_aug, q_augK, q_augK2, q_augK3, q_ife, q_ifeK_t, q_ifeK_f, q_for, q_forG, q_ret, q_retK, q_retn, q_expr, q_dropK, q_pass, q_brk, q_cont, q_try, q_xnil, q_xcons, q_nx, q_rt, q_bk, q_ct, q_tst, q_tstK, q_fin_rt, q_fin_nx, q_t0, q_l0, q_t1, q_l1, q_t2, q_l2, q_t3, q_l3, q_t4, q_l4, q_t5, q_l5, q_t6, q_l6, q_t7, q_l7, q_t8, q_l8, q_t9, q_l9, q_t10, q_l10, q_t11, q_l11, q_t12, q_l12, q_t13, q_l13, q_t14, q_l14, q_t15, q_l15, q_t16, q_l16, q_t17, q_l17, q_t18, q_l18, q_t19, q_l19, q_notK, gets, sets, wipes, cmpop, ofB, isv, eqh_int, eqh_str, eqh_bl, bfn, bIsi, isT, isTs, tyN, tysOf, TN.is, bInt, bLen, bTup, items, add_int, sub_int, app_at, app_at0, app_put, app_put0, alloc_0, cturn, q_mtK mo, bmt, hx]
      rw [run_nx]
      rw [run_cons]
      simp [R.bind_ok, R.calm_ok, q_cst, q_var, q_varK, q_bin, q_binK, q_binK2, q_neg, q_negK, q_not, q_and, q_andK_t, q_andK_f, q_or, q_orK_t, q_orK_f, q_cmp, q_cmpK, q_cmpK2, q_cmp2, q_cmp2K, q_cmp2K2, q_cmp2K3_t, q_cmp2K3_f, q_ite, q_iteK_t, q_iteK_f, q_tup, q_lst, q_dic, q_sub, q_subK, q_subK2, q_slc, q_slcK, q_slcK2, q_slcK3, q_rev, q_call, q_callK, q_bf, q_bfK, q_mt, q_mtK, q_mtK2, q_mt_int, q_lc, q_lcF, q_bfc, q_cfK, q_idx, q_idxK, q_nil, q_cons, q_consK, q_consK2, q_of, q_srcK_tup, q_srcK_str, q_srcK_ref, q_rng1, q_rng1K, q_rng2, q_rng2K, q_zip, q_zipK_tup, q_zipK_ref, q_enum, q_enumK, q_nm, q_tp, q_tpK, q_tpK_ref, q_sb, q_sbK, q_sbK2, q_unK, q_snil, q_scons, q_stoK, q_tnil, q_tcons, q_evtK_t, q_evtK_f, q_mk, q_evcK, q_asg, q_asgK, q_nxK, q_aug, q_augK, q_augK2, q_augK3, q_ife, q_ifeK_t, q_ifeK_f, q_for, q_forG, q_ret, q_retK, q_retn, q_expr, q_dropK, q_pass, q_brk, q_cont, q_try, q_xnil, q_xcons, q_nx, q_rt, q_bk, q_ct, q_tst, q_tstK, q_fin_rt, q_fin_nx, q_t0, q_l0, q_t1, q_l1, q_t2, q_l2, q_t3, q_l3, q_t4, q_l4, q_t5, q_l5, q_t6, q_l6, q_t7, q_l7, q_t8, q_l8, q_t9, q_l9, q_t10, q_l10, q_t11, q_l11, q_t12, q_l12, q_t13, q_l13, q_t14, q_l14, q_t15, q_l15, q_t16, q_l16, q_t17, q_l17, q_t18, q_l18, q_t19, q_l19, q_notK, gets, sets, wipes, cmpop, ofB, isv, eqh_int, eqh_str, eqh_bl, bfn, bIsi, isT, isTs, tyN, tysOf, TN.is, bInt, bLen, bTup, items, add_int, sub_int, app_at, app_at0, app_put, app_put0, alloc_0, cturn, augop]
      rw [run_nx]
      rw [run_nil]
theorem look_self {kvs : List (List Nat × W)} {nat : Bool} (e : kvs = if nat then t_NATIVE else t_STANDARD) : okT kvs = true ∧ ∀ c, szI kvs c = szOf nat c := by
  subst e
  exact ⟨(sz_tab nat).1, fun c => rfl⟩
/-- a layout that is right is read -/
theorem read_layout_t {t o s : List Nat} {nat gr : Bool} (L : Lay t o s nat gr) (ht : t.length ≤ 640) (hb : tot s [] ≤ 1000000) {st : LS} (hrun : runL nat s lay0 o.length = .inr st) (hc : st.cnt = []) :
    ∃ p h', call kd P (d + 2) F_read_layout [.str t] h = .ok (.tup [.bl gr, .int (st.place : Int), .ref p]) h' ∧ Ap h h' ∧ h.length ≤ p ∧ h'[p]? = some (.lst (st.acc.map triW)) := by
  have i1' := fun h => (L.isIn (kd := kd) (h := h)).1
  have i2 := (L.isIn (kd := kd) (h := h)).2
  have OD := L.ord
  have hL : t.length ≤ LINE := Nat.le_trans ht (by decide)
  have sl : ∀ h, slcv (.str t) .non (.int 1) h = .ok (.str (t.take 1)) h := fun h => by simp only [slcv, hL, if_true, cut_one]
  obtain ⟨tbl, htbl⟩ : ∃ tbl, tbl = if nat then t_NATIVE else t_STANDARD := ⟨_, rfl⟩
  obtain ⟨ok1, tb1⟩ := look_self htbl
  obtain ⟨σ', h', e, q6, q7, q8, st', rfl, a', g'⟩ := whiles_dec (t := tstE (call kd P (d + 1)) kd (loopT (nthS (c_read_layout F_count_from F_field_of K_NATIVE K_STANDARD).body 4))) (b := exs (call kd P (d + 1)) kd rlB)
    (fun m σ h' => ∃ (pre r : List Nat) (i pl : Nat) (acc : List (Nat × Nat × Nat)) (x6 x7 x8 : Option W), m = r.length ∧ t = pre ++ r ∧ σ = [some (.str t), some (.str (ordP o)), some (.ref h.length), some (.int (pre.length : Int)), some (.int (pl : Int)), some (.ref (h.length + 1)), x6, x7, x8] ∧ runL nat r ⟨[], pl, acc⟩ i = .inr st ∧ Ap h h' ∧ h'[h.length + 1]? = some (.lst (acc.map triW)) ∧ h'[h.length]? = some (.dic tbl) ∧ acc.length + tot r [] ≤ 1000000)
    (fun σ h' => ∃ (x6 x7 x8 : Option W) (st' : LS), σ = [some (.str t), some (.str (ordP o)), some (.ref h.length), some (.int (t.length : Int)), some (.int (st.place : Int)), some (.ref (h.length + 1)), x6, x7, x8] ∧ Ap h h' ∧ h'[h.length + 1]? = some (.lst (st.acc.map triW)) ∧ st' = st)
    (by
      rintro m σ h' ⟨pre, r, i, pl, acc, x6, x7, x8, hm, et, rfl, hr, a, e1, e2, hb⟩
      by_cases hr0 : r = []
      · subst hr0
        simp only [runL] at hr
        cases hr
        refine .inl ⟨?_, x6, x7, x8, _, ?_, a, e1, rfl⟩
        · have : ¬ ((pre.length : Int) < (t.length : Int)) := by rw [et]; simp
          simp only [loopT, nthS, c_read_layout]
          simp [R.bind_ok, R.calm_ok, q_cst, q_var, q_varK, q_bin, q_binK, q_binK2, q_neg, q_negK, q_not, q_and, q_andK_t, q_andK_f, q_or, q_orK_t, q_orK_f, q_cmp, q_cmpK, q_cmpK2, q_cmp2, q_cmp2K, q_cmp2K2, q_cmp2K3_t, q_cmp2K3_f, q_ite, q_iteK_t, q_iteK_f, q_tup, q_lst, q_dic, q_sub, q_subK, q_subK2, q_slc, q_slcK, q_slcK2, q_slcK3, q_rev, q_call, q_callK, q_bf, q_bfK, q_mt, q_mtK, q_mtK2, q_mt_int, q_lc, q_lcF, q_bfc, q_cfK, q_idx, q_idxK, q_nil, q_cons, q_consK, q_consK2, q_of, q_srcK_tup, q_srcK_str, q_srcK_ref, q_rng1, q_rng1K, q_rng2, q_rng2K, q_zip, q_zipK_tup, q_zipK_ref, q_enum, q_enumK, q_nm, q_tp, q_tpK, q_tpK_ref, q_sb, q_sbK, q_sbK2, q_unK, q_snil, q_scons, q_stoK, q_tnil, q_tcons, q_evtK_t, q_evtK_f, q_mk, q_evcK, q_asg, q_asgK, q_nxK, q_aug, q_augK, q_augK2, q_augK3, q_ife, q_ifeK_t, q_ifeK_f, q_for, q_forG, q_ret, q_retK, q_retn, q_expr, q_dropK, q_pass, q_brk, q_cont, q_try, q_xnil, q_xcons, q_nx, q_rt, q_bk, q_ct, q_tst, q_tstK, q_fin_rt, q_fin_nx, q_t0, q_l0, q_t1, q_l1, q_t2, q_l2, q_t3, q_l3, q_t4, q_l4, q_t5, q_l5, q_t6, q_l6, q_t7, q_l7, q_t8, q_l8, q_t9, q_l9, q_t10, q_l10, q_t11, q_l11, q_t12, q_l12, q_t13, q_l13, q_t14, q_l14, q_t15, q_l15, q_t16, q_l16, q_t17, q_l17, q_t18, q_l18, q_t19, q_l19, q_notK, gets, sets, wipes, cmpop, ofB, isv, eqh_int, eqh_str, eqh_bl, bfn, bIsi, isT, isTs, tyN, tysOf, TN.is, bInt, bLen, bTup, items, add_int, sub_int, app_at, app_at0, app_put, app_put0, alloc_0, cturn, hL, this]
        · rw [et, List.append_nil]
      · obtain ⟨pre', r', i', pl', acc', y6, y7, y8, h'', et', hl, hr', a', e1', e2', hb', e⟩ := rl_turn (kd := kd) (P := P) (d := d) (h := h) (p := h.length + 1) (q := h.length) (x6 := x6) (x7 := x7) (x8 := x8) OD (by omega) (by omega) a e1 e2 ok1 tb1 ht et hr0 hb hr hc
        refine .inr ⟨?_, _, h'', r'.length, e, by omega, pre', r', i', pl', acc', y6, y7, y8, rfl, et', rfl, hr', a', e1', e2', hb'⟩
        have : ((pre.length : Int) < (t.length : Int)) := by
          have := List.length_pos_iff.mpr hr0
          rw [et]
          simp
          omega
        simp only [loopT, nthS, c_read_layout]
        simp [R.bind_ok, R.calm_ok, q_cst, q_var, q_varK, q_bin, q_binK, q_binK2, q_neg, q_negK, q_not, q_and, q_andK_t, q_andK_f, q_or, q_orK_t, q_orK_f, q_cmp, q_cmpK, q_cmpK2, q_cmp2, q_cmp2K, q_cmp2K2, q_cmp2K3_t, q_cmp2K3_f, q_ite, q_iteK_t, q_iteK_f, q_tup, q_lst, q_dic, q_sub, q_subK, q_subK2, q_slc, q_slcK, q_slcK2, q_slcK3, q_rev, q_call, q_callK, q_bf, q_bfK, q_mt, q_mtK, q_mtK2, q_mt_int, q_lc, q_lcF, q_bfc, q_cfK, q_idx, q_idxK, q_nil, q_cons, q_consK, q_consK2, q_of, q_srcK_tup, q_srcK_str, q_srcK_ref, q_rng1, q_rng1K, q_rng2, q_rng2K, q_zip, q_zipK_tup, q_zipK_ref, q_enum, q_enumK, q_nm, q_tp, q_tpK, q_tpK_ref, q_sb, q_sbK, q_sbK2, q_unK, q_snil, q_scons, q_stoK, q_tnil, q_tcons, q_evtK_t, q_evtK_f, q_mk, q_evcK, q_asg, q_asgK, q_nxK, q_aug, q_augK, q_augK2, q_augK3, q_ife, q_ifeK_t, q_ifeK_f, q_for, q_forG, q_ret, q_retK, q_retn, q_expr, q_dropK, q_pass, q_brk, q_cont, q_try, q_xnil, q_xcons, q_nx, q_rt, q_bk, q_ct, q_tst, q_tstK, q_fin_rt, q_fin_nx, q_t0, q_l0, q_t1, q_l1, q_t2, q_l2, q_t3, q_l3, q_t4, q_l4, q_t5, q_l5, q_t6, q_l6, q_t7, q_l7, q_t8, q_l8, q_t9, q_l9, q_t10, q_l10, q_t11, q_l11, q_t12, q_l12, q_t13, q_l13, q_t14, q_l14, q_t15, q_l15, q_t16, q_l16, q_t17, q_l17, q_t18, q_l18, q_t19, q_l19, q_notK, gets, sets, wipes, cmpop, ofB, isv, eqh_int, eqh_str, eqh_bl, bfn, bIsi, isT, isTs, tyN, tysOf, TN.is, bInt, bLen, bTup, items, add_int, sub_int, app_at, app_at0, app_put, app_put0, alloc_0, cturn, hL, this])
    s.length FUEL [some (.str t), some (.str (ordP o)), some (.ref h.length), some (.int (o.length : Int)), some (.int 0), some (.ref (h.length + 1)), none, none, none] (h ++ [.dic tbl, .lst []])
    (by have : s.length ≤ t.length := by rw [L.eq]; simp
        unfold FUEL; omega)
    ⟨o, s, o.length, 0, [], none, none, none, rfl, L.eq, rfl, hrun, Ap.app, by simp [app_at], by simp [app_at0], by simpa using hb⟩
  refine ⟨h.length + 1, h', ?_, a', by omega, g'.1⟩
  have i3 : ∀ h, isIn kd h (.str (ordP o)) (.tup [.str [62], .str [33]]) = some gr := fun h => by cases OD <;> rfl
  have ktn : kd[K_NATIVE]? = some t_NATIVE := hk_NATIVE
  have kts : kd[K_STANDARD]? = some t_STANDARD := hk_STANDARD
  have ln : t_NATIVE.length ≤ 1000 := by decide
  have ls : t_STANDARD.length ≤ 1000 := by decide
  rw [call_run h_read_layout rfl]
  show fin (runs (call kd P (d + 1)) kd (c_read_layout F_count_from F_field_of K_NATIVE K_STANDARD).body [some (.str t), none, none, none, none, none, none, none, none] h) = _
  simp only [rlB, nthS, loopB, loopT, c_read_layout] at e ⊢
  rw [run_cons]
  simp [R.bind_ok, R.calm_ok, q_cst, q_var, q_varK, q_bin, q_binK, q_binK2, q_neg, q_negK, q_not, q_and, q_andK_t, q_andK_f, q_or, q_orK_t, q_orK_f, q_cmp, q_cmpK, q_cmpK2, q_cmp2, q_cmp2K, q_cmp2K2, q_cmp2K3_t, q_cmp2K3_f, q_ite, q_iteK_t, q_iteK_f, q_tup, q_lst, q_dic, q_sub, q_subK, q_subK2, q_slc, q_slcK, q_slcK2, q_slcK3, q_rev, q_call, q_callK, q_bf, q_bfK, q_mt, q_mtK, q_mtK2, q_mt_int, q_lc, q_lcF, q_bfc, q_cfK, q_idx, q_idxK, q_nil, q_cons, q_consK, q_consK2, q_of, q_srcK_tup, q_srcK_str, q_srcK_ref, q_rng1, q_rng1K, q_rng2, q_rng2K, q_zip, q_zipK_tup, q_zipK_ref, q_enum, q_enumK, q_nm, q_tp, q_tpK, q_tpK_ref, q_sb, q_sbK, q_sbK2, q_unK, q_snil, q_scons, q_stoK, q_tnil, q_tcons, q_evtK_t, q_evtK_f, q_mk, q_evcK, q_asg, q_asgK, q_nxK, q_aug, q_augK, q_augK2, q_augK3, q_ife, q_ifeK_t, q_ifeK_f, q_for, q_forG, q_ret, q_retK, q_retn, q_expr, q_dropK, q_pass, q_brk, q_cont, q_try, q_xnil, q_xcons, q_nx, q_rt, q_bk, q_ct, q_tst, q_tstK, q_fin_rt, q_fin_nx, q_t0, q_l0, q_t1, q_l1, q_t2, q_l2, q_t3, q_l3, q_t4, q_l4, q_t5, q_l5, q_t6, q_l6, q_t7, q_l7, q_t8, q_l8, q_t9, q_l9, q_t10, q_l10, q_t11, q_l11, q_t12, q_l12, q_t13, q_l13, q_t14, q_l14, q_t15, q_l15, q_t16, q_l16, q_t17, q_l17, q_t18, q_l18, q_t19, q_l19, q_notK, gets, sets, wipes, cmpop, ofB, isv, eqh_int, eqh_str, eqh_bl, bfn, bIsi, isT, isTs, tyN, tysOf, TN.is, bInt, bLen, bTup, items, add_int, sub_int, app_at, app_at0, app_put, app_put0, alloc_0, cturn]
  rw [run_nx]
  have st2 : ∀ (Q : R W → Prop) (rest : Ss), Q (fin (runs (call kd P (d + 1)) kd rest [some (.str t), some (.str (ordP o)), some (.ref h.length), some (.int (o.length : Int)), some (.int 0), some (.ref (h.length + 1)), none, none, none] (h ++ [.dic tbl, .lst []]))) →
      Q (fin (runs (call kd P (d + 1)) kd (.cons (nthS (c_read_layout F_count_from F_field_of K_NATIVE K_STANDARD).body 1) (.cons (nthS (c_read_layout F_count_from F_field_of K_NATIVE K_STANDARD).body 2) (.cons (nthS (c_read_layout F_count_from F_field_of K_NATIVE K_STANDARD).body 3) rest))) [some (.str t), none, none, none, none, none, none, none, none] h)) := fun Q rest hQ => by
    subst htbl
    simp only [nthS, c_read_layout]
    by_cases ho : o = []
    · subst ho
      cases OD
      rw [run_cons]
      simp [R.bind_ok, R.calm_ok, q_cst, q_var, q_varK, q_bin, q_binK, q_binK2, q_neg, q_negK, q_not, q_and, q_andK_t, q_andK_f, q_or, q_orK_t, q_orK_f, q_cmp, q_cmpK, q_cmpK2, q_cmp2, q_cmp2K, q_cmp2K2, q_cmp2K3_t, q_cmp2K3_f, q_ite, q_iteK_t, q_iteK_f, q_tup, q_lst, q_dic, q_sub, q_subK, q_subK2, q_slc, q_slcK, q_slcK2, q_slcK3, q_rev, q_call, q_callK, q_bf, q_bfK, q_mt, q_mtK, q_mtK2, q_mt_int, q_lc, q_lcF, q_bfc, q_cfK, q_idx, q_idxK, q_nil, q_cons, q_consK, q_consK2, q_of, q_srcK_tup, q_srcK_str, q_srcK_ref, q_rng1, q_rng1K, q_rng2, q_rng2K, q_zip, q_zipK_tup, q_zipK_ref, q_enum, q_enumK, q_nm, q_tp, q_tpK, q_tpK_ref, q_sb, q_sbK, q_sbK2, q_unK, q_snil, q_scons, q_stoK, q_tnil, q_tcons, q_evtK_t, q_evtK_f, q_mk, q_evcK, q_asg, q_asgK, q_nxK, q_aug, q_augK, q_augK2, q_augK3, q_ife, q_ifeK_t, q_ifeK_f, q_for, q_forG, q_ret, q_retK, q_retn, q_expr, q_dropK, q_pass, q_brk, q_cont, q_try, q_xnil, q_xcons, q_nx, q_rt, q_bk, q_ct, q_tst, q_tstK, q_fin_rt, q_fin_nx, q_t0, q_l0, q_t1, q_l1, q_t2, q_l2, q_t3, q_l3, q_t4, q_l4, q_t5, q_l5, q_t6, q_l6, q_t7, q_l7, q_t8, q_l8, q_t9, q_l9, q_t10, q_l10, q_t11, q_l11, q_t12, q_l12, q_t13, q_l13, q_t14, q_l14, q_t15, q_l15, q_t16, q_l16, q_t17, q_l17, q_t18, q_l18, q_t19, q_l19, q_notK, gets, sets, wipes, cmpop, ofB, isv, eqh_int, eqh_str, eqh_bl, bfn, bIsi, isT, isTs, tyN, tysOf, TN.is, bInt, bLen, bTup, items, add_int, sub_int, app_at, app_at0, app_put, app_put0, alloc_0, cturn, sl, i1']
      rw [run_nx]
      rw [run_cons]
      simp [R.bind_ok, R.calm_ok, q_cst, q_var, q_varK, q_bin, q_binK, q_binK2, q_neg, q_negK, q_not, q_and, q_andK_t, q_andK_f, q_or, q_orK_t, q_orK_f, q_cmp, q_cmpK, q_cmpK2, q_cmp2, q_cmp2K, q_cmp2K2, q_cmp2K3_t, q_cmp2K3_f, q_ite, q_iteK_t, q_iteK_f, q_tup, q_lst, q_dic, q_sub, q_subK, q_subK2, q_slc, q_slcK, q_slcK2, q_slcK3, q_rev, q_call, q_callK, q_bf, q_bfK, q_mt, q_mtK, q_mtK2, q_mt_int, q_lc, q_lcF, q_bfc, q_cfK, q_idx, q_idxK, q_nil, q_cons, q_consK, q_consK2, q_of, q_srcK_tup, q_srcK_str, q_srcK_ref, q_rng1, q_rng1K, q_rng2, q_rng2K, q_zip, q_zipK_tup, q_zipK_ref, q_enum, q_enumK, q_nm, q_tp, q_tpK, q_tpK_ref, q_sb, q_sbK, q_sbK2, q_unK, q_snil, q_scons, q_stoK, q_tnil, q_tcons, q_evtK_t, q_evtK_f, q_mk, q_evcK, q_asg, q_asgK, q_nxK, q_aug, q_augK, q_augK2, q_augK3, q_ife, q_ifeK_t, q_ifeK_f, q_for, q_forG, q_ret, q_retK, q_retn, q_expr, q_dropK, q_pass, q_brk, q_cont, q_try, q_xnil, q_xcons, q_nx, q_rt, q_bk, q_ct, q_tst, q_tstK, q_fin_rt, q_fin_nx, q_t0, q_l0, q_t1, q_l1, q_t2, q_l2, q_t3, q_l3, q_t4, q_l4, q_t5, q_l5, q_t6, q_l6, q_t7, q_l7, q_t8, q_l8, q_t9, q_l9, q_t10, q_l10, q_t11, q_l11, q_t12, q_l12, q_t13, q_l13, q_t14, q_l14, q_t15, q_l15, q_t16, q_l16, q_t17, q_l17, q_t18, q_l18, q_t19, q_l19, q_notK, gets, sets, wipes, cmpop, ofB, isv, eqh_int, eqh_str, eqh_bl, bfn, bIsi, isT, isTs, tyN, tysOf, TN.is, bInt, bLen, bTup, items, add_int, sub_int, app_at, app_at0, app_put, app_put0, alloc_0, cturn, ktn, ln]
      rw [run_nx]
      rw [run_cons]
      simp [R.bind_ok, R.calm_ok, q_cst, q_var, q_varK, q_bin, q_binK, q_binK2, q_neg, q_negK, q_not, q_and, q_andK_t, q_andK_f, q_or, q_orK_t, q_orK_f, q_cmp, q_cmpK, q_cmpK2, q_cmp2, q_cmp2K, q_cmp2K2, q_cmp2K3_t, q_cmp2K3_f, q_ite, q_iteK_t, q_iteK_f, q_tup, q_lst, q_dic, q_sub, q_subK, q_subK2, q_slc, q_slcK, q_slcK2, q_slcK3, q_rev, q_call, q_callK, q_bf, q_bfK, q_mt, q_mtK, q_mtK2, q_mt_int, q_lc, q_lcF, q_bfc, q_cfK, q_idx, q_idxK, q_nil, q_cons, q_consK, q_consK2, q_of, q_srcK_tup, q_srcK_str, q_srcK_ref, q_rng1, q_rng1K, q_rng2, q_rng2K, q_zip, q_zipK_tup, q_zipK_ref, q_enum, q_enumK, q_nm, q_tp, q_tpK, q_tpK_ref, q_sb, q_sbK, q_sbK2, q_unK, q_snil, q_scons, q_stoK, q_tnil, q_tcons, q_evtK_t, q_evtK_f, q_mk, q_evcK, q_asg, q_asgK, q_nxK, q_aug, q_augK, q_augK2, q_augK3, q_ife, q_ifeK_t, q_ifeK_f, q_for, q_forG, q_ret, q_retK, q_retn, q_expr, q_dropK, q_pass, q_brk, q_cont, q_try, q_xnil, q_xcons, q_nx, q_rt, q_bk, q_ct, q_tst, q_tstK, q_fin_rt, q_fin_nx, q_t0, q_l0, q_t1, q_l1, q_t2, q_l2, q_t3, q_l3, q_t4, q_l4, q_t5, q_l5, q_t6, q_l6, q_t7, q_l7, q_t8, q_l8, q_t9, q_l9, q_t10, q_l10, q_t11, q_l11, q_t12, q_l12, q_t13, q_l13, q_t14, q_l14, q_t15, q_l15, q_t16, q_l16, q_t17, q_l17, q_t18, q_l18, q_t19, q_l19, q_notK, gets, sets, wipes, cmpop, ofB, isv, eqh_int, eqh_str, eqh_bl, bfn, bIsi, isT, isTs, tyN, tysOf, TN.is, bInt, bLen, bTup, items, add_int, sub_int, app_at, app_at0, app_put, app_put0, alloc_0, cturn, sl, i1']
      rw [run_nx]
      simpa [ordP] using hQ
    · have ie : o.isEmpty = false := by cases o with | nil => exact absurd rfl ho | cons _ _ => rfl
      have ho2 := i2 ho
      have i1 := i1'
      rw [ho2] at i1 sl
      simp only [ie] at i1
      obtain ⟨c, hcc⟩ : ∃ c, o = [c] := by cases OD <;> first | exact absurd rfl ho | exact ⟨_, rfl⟩
      have eo : ordP o = o := if_neg ho
      rw [eo] at hQ
      have h0 : subv kd (.str t) (.int 0) h = .ok (.str o) h := by
        rw [hcc]
        exact str_at (k := 0) hL (by rw [L.eq, hcc]; rfl)
      have hol : o.length = 1 := by rw [hcc]; rfl
      rw [hol] at hQ
      rw [run_cons]
      simp [R.bind_ok, R.calm_ok, q_cst, q_var, q_varK, q_bin, q_binK, q_binK2, q_neg, q_negK, q_not, q_and, q_andK_t, q_andK_f, q_or, q_orK_t, q_orK_f, q_cmp, q_cmpK, q_cmpK2, q_cmp2, q_cmp2K, q_cmp2K2, q_cmp2K3_t, q_cmp2K3_f, q_ite, q_iteK_t, q_iteK_f, q_tup, q_lst, q_dic, q_sub, q_subK, q_subK2, q_slc, q_slcK, q_slcK2, q_slcK3, q_rev, q_call, q_callK, q_bf, q_bfK, q_mt, q_mtK, q_mtK2, q_mt_int, q_lc, q_lcF, q_bfc, q_cfK, q_idx, q_idxK, q_nil, q_cons, q_consK, q_consK2, q_of, q_srcK_tup, q_srcK_str, q_srcK_ref, q_rng1, q_rng1K, q_rng2, q_rng2K, q_zip, q_zipK_tup, q_zipK_ref, q_enum, q_enumK, q_nm, q_tp, q_tpK, q_tpK_ref, q_sb, q_sbK, q_sbK2, q_unK, q_snil, q_scons, q_stoK, q_tnil, q_tcons, q_evtK_t, q_evtK_f, q_mk, q_evcK, q_asg, q_asgK, q_nxK, q_aug, q_augK, q_augK2, q_augK3, q_ife, q_ifeK_t, q_ifeK_f, q_for, q_forG, q_ret, q_retK, q_retn, q_expr, q_dropK, q_pass, q_brk, q_cont, q_try, q_xnil, q_xcons, q_nx, q_rt, q_bk, q_ct, q_tst, q_tstK, q_fin_rt, q_fin_nx, q_t0, q_l0, q_t1, q_l1, q_t2, q_l2, q_t3, q_l3, q_t4, q_l4, q_t5, q_l5, q_t6, q_l6, q_t7, q_l7, q_t8, q_l8, q_t9, q_l9, q_t10, q_l10, q_t11, q_l11, q_t12, q_l12, q_t13, q_l13, q_t14, q_l14, q_t15, q_l15, q_t16, q_l16, q_t17, q_l17, q_t18, q_l18, q_t19, q_l19, q_notK, gets, sets, wipes, cmpop, ofB, isv, eqh_int, eqh_str, eqh_bl, bfn, bIsi, isT, isTs, tyN, tysOf, TN.is, bInt, bLen, bTup, items, add_int, sub_int, app_at, app_at0, app_put, app_put0, alloc_0, cturn, sl, i1, h0]
      rw [run_nx]
      cases OD
      case n => exact absurd rfl ho
      case a =>
        rw [run_cons]
        simp [R.bind_ok, R.calm_ok, q_cst, q_var, q_varK, q_bin, q_binK, q_binK2, q_neg, q_negK, q_not, q_and, q_andK_t, q_andK_f, q_or, q_orK_t, q_orK_f, q_cmp, q_cmpK, q_cmpK2, q_cmp2, q_cmp2K, q_cmp2K2, q_cmp2K3_t, q_cmp2K3_f, q_ite, q_iteK_t, q_iteK_f, q_tup, q_lst, q_dic, q_sub, q_subK, q_subK2, q_slc, q_slcK, q_slcK2, q_slcK3, q_rev, q_call, q_callK, q_bf, q_bfK, q_mt, q_mtK, q_mtK2, q_mt_int, q_lc, q_lcF, q_bfc, q_cfK, q_idx, q_idxK, q_nil, q_cons, q_consK, q_consK2, q_of, q_srcK_tup, q_srcK_str, q_srcK_ref, q_rng1, q_rng1K, q_rng2, q_rng2K, q_zip, q_zipK_tup, q_zipK_ref, q_enum, q_enumK, q_nm, q_tp, q_tpK, q_tpK_ref, q_sb, q_sbK, q_sbK2, q_unK, q_snil, q_scons, q_stoK, q_tnil, q_tcons, q_evtK_t, q_evtK_f, q_mk, q_evcK, q_asg, q_asgK, q_nxK, q_aug, q_augK, q_augK2, q_augK3, q_ife, q_ifeK_t, q_ifeK_f, q_for, q_forG, q_ret, q_retK, q_retn, q_expr, q_dropK, q_pass, q_brk, q_cont, q_try, q_xnil, q_xcons, q_nx, q_rt, q_bk, q_ct, q_tst, q_tstK, q_fin_rt, q_fin_nx, q_t0, q_l0, q_t1, q_l1, q_t2, q_l2, q_t3, q_l3, q_t4, q_l4, q_t5, q_l5, q_t6, q_l6, q_t7, q_l7, q_t8, q_l8, q_t9, q_l9, q_t10, q_l10, q_t11, q_l11, q_t12, q_l12, q_t13, q_l13, q_t14, q_l14, q_t15, q_l15, q_t16, q_l16, q_t17, q_l17, q_t18, q_l18, q_t19, q_l19, q_notK, gets, sets, wipes, cmpop, ofB, isv, eqh_int, eqh_str, eqh_bl, bfn, bIsi, isT, isTs, tyN, tysOf, TN.is, bInt, bLen, bTup, items, add_int, sub_int, app_at, app_at0, app_put, app_put0, alloc_0, cturn, ktn, ln]
        rw [run_nx]
        rw [run_cons]
        simp [R.bind_ok, R.calm_ok, q_cst, q_var, q_varK, q_bin, q_binK, q_binK2, q_neg, q_negK, q_not, q_and, q_andK_t, q_andK_f, q_or, q_orK_t, q_orK_f, q_cmp, q_cmpK, q_cmpK2, q_cmp2, q_cmp2K, q_cmp2K2, q_cmp2K3_t, q_cmp2K3_f, q_ite, q_iteK_t, q_iteK_f, q_tup, q_lst, q_dic, q_sub, q_subK, q_subK2, q_slc, q_slcK, q_slcK2, q_slcK3, q_rev, q_call, q_callK, q_bf, q_bfK, q_mt, q_mtK, q_mtK2, q_mt_int, q_lc, q_lcF, q_bfc, q_cfK, q_idx, q_idxK, q_nil, q_cons, q_consK, q_consK2, q_of, q_srcK_tup, q_srcK_str, q_srcK_ref, q_rng1, q_rng1K, q_rng2, q_rng2K, q_zip, q_zipK_tup, q_zipK_ref, q_enum, q_enumK, q_nm, q_tp, q_tpK, q_tpK_ref, q_sb, q_sbK, q_sbK2, q_unK, q_snil, q_scons, q_stoK, q_tnil, q_tcons, q_evtK_t, q_evtK_f, q_mk, q_evcK, q_asg, q_asgK, q_nxK, q_aug, q_augK, q_augK2, q_augK3, q_ife, q_ifeK_t, q_ifeK_f, q_for, q_forG, q_ret, q_retK, q_retn, q_expr, q_dropK, q_pass, q_brk, q_cont, q_try, q_xnil, q_xcons, q_nx, q_rt, q_bk, q_ct, q_tst, q_tstK, q_fin_rt, q_fin_nx, q_t0, q_l0, q_t1, q_l1, q_t2, q_l2, q_t3, q_l3, q_t4, q_l4, q_t5, q_l5, q_t6, q_l6, q_t7, q_l7, q_t8, q_l8, q_t9, q_l9, q_t10, q_l10, q_t11, q_l11, q_t12, q_l12, q_t13, q_l13, q_t14, q_l14, q_t15, q_l15, q_t16, q_l16, q_t17, q_l17, q_t18, q_l18, q_t19, q_l19, q_notK, gets, sets, wipes, cmpop, ofB, isv, eqh_int, eqh_str, eqh_bl, bfn, bIsi, isT, isTs, tyN, tysOf, TN.is, bInt, bLen, bTup, items, add_int, sub_int, app_at, app_at0, app_put, app_put0, alloc_0, cturn, sl, i1]
        rw [run_nx]
        simpa using hQ
      all_goals
        rw [run_cons]
        simp [R.bind_ok, R.calm_ok, q_cst, q_var, q_varK, q_bin, q_binK, q_binK2, q_neg, q_negK, q_not, q_and, q_andK_t, q_andK_f, q_or, q_orK_t, q_orK_f, q_cmp, q_cmpK, q_cmpK2, q_cmp2, q_cmp2K, q_cmp2K2, q_cmp2K3_t, q_cmp2K3_f, q_ite, q_iteK_t, q_iteK_f, q_tup, q_lst, q_dic, q_sub, q_subK, q_subK2, q_slc, q_slcK, q_slcK2, q_slcK3, q_rev, q_call, q_callK, q_bf, q_bfK, q_mt, q_mtK, q_mtK2, q_mt_int, q_lc, q_lcF, q_bfc, q_cfK, q_idx, q_idxK, q_nil, q_cons, q_consK, q_consK2, q_of, q_srcK_tup, q_srcK_str, q_srcK_ref, q_rng1, q_rng1K, q_rng2, q_rng2K, q_zip, q_zipK_tup, q_zipK_ref, q_enum, q_enumK, q_nm, q_tp, q_tpK, q_tpK_ref, q_sb, q_sbK, q_sbK2, q_unK, q_snil, q_scons, q_stoK, q_tnil, q_tcons, q_evtK_t, q_evtK_f, q_mk, q_evcK, q_asg, q_asgK, q_nxK, q_aug, q_augK, q_augK2, q_augK3, q_ife, q_ifeK_t, q_ifeK_f, q_for, q_forG, q_ret, q_retK, q_retn, q_expr, q_dropK, q_pass, q_brk, q_cont, q_try, q_xnil, q_xcons, q_nx, q_rt, q_bk, q_ct, q_tst, q_tstK, q_fin_rt, q_fin_nx, q_t0, q_l0, q_t1, q_l1, q_t2, q_l2, q_t3, q_l3, q_t4, q_l4, q_t5, q_l5, q_t6, q_l6, q_t7, q_l7, q_t8, q_l8, q_t9, q_l9, q_t10, q_l10, q_t11, q_l11, q_t12, q_l12, q_t13, q_l13, q_t14, q_l14, q_t15, q_l15, q_t16, q_l16, q_t17, q_l17, q_t18, q_l18, q_t19, q_l19, q_notK, gets, sets, wipes, cmpop, ofB, isv, eqh_int, eqh_str, eqh_bl, bfn, bIsi, isT, isTs, tyN, tysOf, TN.is, bInt, bLen, bTup, items, add_int, sub_int, app_at, app_at0, app_put, app_put0, alloc_0, cturn, kts, ls]
        rw [run_nx]
        rw [run_cons]
        simp [R.bind_ok, R.calm_ok, q_cst, q_var, q_varK, q_bin, q_binK, q_binK2, q_neg, q_negK, q_not, q_and, q_andK_t, q_andK_f, q_or, q_orK_t, q_orK_f, q_cmp, q_cmpK, q_cmpK2, q_cmp2, q_cmp2K, q_cmp2K2, q_cmp2K3_t, q_cmp2K3_f, q_ite, q_iteK_t, q_iteK_f, q_tup, q_lst, q_dic, q_sub, q_subK, q_subK2, q_slc, q_slcK, q_slcK2, q_slcK3, q_rev, q_call, q_callK, q_bf, q_bfK, q_mt, q_mtK, q_mtK2, q_mt_int, q_lc, q_lcF, q_bfc, q_cfK, q_idx, q_idxK, q_nil, q_cons, q_consK, q_consK2, q_of, q_srcK_tup, q_srcK_str, q_srcK_ref, q_rng1, q_rng1K, q_rng2, q_rng2K, q_zip, q_zipK_tup, q_zipK_ref, q_enum, q_enumK, q_nm, q_tp, q_tpK, q_tpK_ref, q_sb, q_sbK, q_sbK2, q_unK, q_snil, q_scons, q_stoK, q_tnil, q_tcons, q_evtK_t, q_evtK_f, q_mk, q_evcK, q_asg, q_asgK, q_nxK, q_aug, q_augK, q_augK2, q_augK3, q_ife, q_ifeK_t, q_ifeK_f, q_for, q_forG, q_ret, q_retK, q_retn, q_expr, q_dropK, q_pass, q_brk, q_cont, q_try, q_xnil, q_xcons, q_nx, q_rt, q_bk, q_ct, q_tst, q_tstK, q_fin_rt, q_fin_nx, q_t0, q_l0, q_t1, q_l1, q_t2, q_l2, q_t3, q_l3, q_t4, q_l4, q_t5, q_l5, q_t6, q_l6, q_t7, q_l7, q_t8, q_l8, q_t9, q_l9, q_t10, q_l10, q_t11, q_l11, q_t12, q_l12, q_t13, q_l13, q_t14, q_l14, q_t15, q_l15, q_t16, q_l16, q_t17, q_l17, q_t18, q_l18, q_t19, q_l19, q_notK, gets, sets, wipes, cmpop, ofB, isv, eqh_int, eqh_str, eqh_bl, bfn, bIsi, isT, isTs, tyN, tysOf, TN.is, bInt, bLen, bTup, items, add_int, sub_int, app_at, app_at0, app_put, app_put0, alloc_0, cturn, sl, i1]
        rw [run_nx]
        simpa using hQ
  refine st2 (fun r => r = .ok (.tup [.bl gr, .int (st.place : Int), .ref (h.length + 1)]) h') _ ?_
  rw [run_cons, q_whl, e, R.bind_ok, run_nx]
  rw [run_cons]
  simp [R.bind_ok, R.calm_ok, q_cst, q_var, q_varK, q_bin, q_binK, q_binK2, q_neg, q_negK, q_not, q_and, q_andK_t, q_andK_f, q_or, q_orK_t, q_orK_f, q_cmp, q_cmpK, q_cmpK2, q_cmp2, q_cmp2K, q_cmp2K2, q_cmp2K3_t, q_cmp2K3_f, q_ite, q_iteK_t, q_iteK_f, q_tup, q_lst, q_dic, q_sub, q_subK, q_subK2, q_slc, q_slcK, q_slcK2, q_slcK3, q_rev, q_call, q_callK, q_bf, q_bfK, q_mt, q_mtK, q_mtK2, q_mt_int, q_lc, q_lcF, q_bfc, q_cfK, q_idx, q_idxK, q_nil, q_cons, q_consK, q_consK2, q_of, q_srcK_tup, q_srcK_str, q_srcK_ref, q_rng1, q_rng1K, q_rng2, q_rng2K, q_zip, q_zipK_tup, q_zipK_ref, q_enum, q_enumK, q_nm, q_tp, q_tpK, q_tpK_ref, q_sb, q_sbK, q_sbK2, q_unK, q_snil, q_scons, q_stoK, q_tnil, q_tcons, q_evtK_t, q_evtK_f, q_mk, q_evcK, q_asg, q_asgK, q_nxK, q_aug, q_augK, q_augK2, q_augK3, q_ife, q_ifeK_t, q_ifeK_f, q_for, q_forG, q_ret, q_retK, q_retn, q_expr, q_dropK, q_pass, q_brk, q_cont, q_try, q_xnil, q_xcons, q_nx, q_rt, q_bk, q_ct, q_tst, q_tstK, q_fin_rt, q_fin_nx, q_t0, q_l0, q_t1, q_l1, q_t2, q_l2, q_t3, q_l3, q_t4, q_l4, q_t5, q_l5, q_t6, q_l6, q_t7, q_l7, q_t8, q_l8, q_t9, q_l9, q_t10, q_l10, q_t11, q_l11, q_t12, q_l12, q_t13, q_l13, q_t14, q_l14, q_t15, q_l15, q_t16, q_l16, q_t17, q_l17, q_t18, q_l18, q_t19, q_l19, q_notK, gets, sets, wipes, cmpop, ofB, isv, eqh_int, eqh_str, eqh_bl, bfn, bIsi, isT, isTs, tyN, tysOf, TN.is, bInt, bLen, bTup, items, add_int, sub_int, app_at, app_at0, app_put, app_put0, alloc_0, cturn, run_rt, run_nx, run_nil, i3]
/-- the size, the fields -/
theorem calcsize_t {t o s : List Nat} {nat gr : Bool} (L : Lay t o s nat gr) (ht : t.length ≤ 640) (hb : tot s [] ≤ 1000000) {st : LS} (hrun : runL nat s lay0 o.length = .inr st) (hc : st.cnt = []) :
    ∃ h', call kd P (d + 3) F_calcsize [.str t] h = .ok (.int (st.place : Int)) h' ∧ Ap h h' := by
  obtain ⟨p, h', e, a, _, _⟩ := read_layout_t (kd := kd) (P := P) (d := d) (h := h) L ht hb hrun hc
  refine ⟨h', ?_, a⟩
  rw [call_run h_calcsize rfl]
  show fin (runs (call kd P (d + 2)) kd (c_calcsize F_read_layout).body [some (.str t)] h) = _
  simp only [c_calcsize]
  rw [run_cons]
  simp [R.bind_ok, R.calm_ok, q_cst, q_var, q_varK, q_bin, q_binK, q_binK2, q_neg, q_negK, q_not, q_and, q_andK_t, q_andK_f, q_or, q_orK_t, q_orK_f, q_cmp, q_cmpK, q_cmpK2, q_cmp2, q_cmp2K, q_cmp2K2, q_cmp2K3_t, q_cmp2K3_f, q_ite, q_iteK_t, q_iteK_f, q_tup, q_lst, q_dic, q_sub, q_subK, q_subK2, q_slc, q_slcK, q_slcK2, q_slcK3, q_rev, q_call, q_callK, q_bf, q_bfK, q_mt, q_mtK, q_mtK2, q_mt_int, q_lc, q_lcF, q_bfc, q_cfK, q_idx, q_idxK, q_nil, q_cons, q_consK, q_consK2, q_of, q_srcK_tup, q_srcK_str, q_srcK_ref, q_rng1, q_rng1K, q_rng2, q_rng2K, q_zip, q_zipK_tup, q_zipK_ref, q_enum, q_enumK, q_nm, q_tp, q_tpK, q_tpK_ref, q_sb, q_sbK, q_sbK2, q_unK, q_snil, q_scons, q_stoK, q_tnil, q_tcons, q_evtK_t, q_evtK_f, q_mk, q_evcK, q_asg, q_asgK, q_nxK, q_aug, q_augK, q_augK2, q_augK3, q_ife, q_ifeK_t, q_ifeK_f, q_for, q_forG, q_ret, q_retK, q_retn, q_expr, q_dropK, q_pass, q_brk, q_cont, q_try, q_xnil, q_xcons, q_nx, q_rt, q_bk, q_ct, q_tst, q_tstK, q_fin_rt, q_fin_nx, q_t0, q_l0, q_t1, q_l1, q_t2, q_l2, q_t3, q_l3, q_t4, q_l4, q_t5, q_l5, q_t6, q_l6, q_t7, q_l7, q_t8, q_l8, q_t9, q_l9, q_t10, q_l10, q_t11, q_l11, q_t12, q_l12, q_t13, q_l13, q_t14, q_l14, q_t15, q_l15, q_t16, q_l16, q_t17, q_l17, q_t18, q_l18, q_t19, q_l19, q_notK, gets, sets, wipes, cmpop, ofB, isv, eqh_int, eqh_str, eqh_bl, bfn, bIsi, isT, isTs, tyN, tysOf, TN.is, bInt, bLen, bTup, items, add_int, sub_int, app_at, app_at0, app_put, app_put0, alloc_0, cturn, run_rt, run_nx, run_nil, e]
theorem fields_of_t {t o s : List Nat} {nat gr : Bool} (L : Lay t o s nat gr) (ht : t.length ≤ 640) (hb : tot s [] ≤ 1000000) {st : LS} (hrun : runL nat s lay0 o.length = .inr st) (hc : st.cnt = []) :
    ∃ p h', call kd P (d + 3) F_fields_of [.str t] h = .ok (.ref p) h' ∧ Ap h h' ∧ h.length ≤ p ∧ h'[p]? = some (.lst (st.acc.map triW)) := by
  obtain ⟨p, h', e, a, g1, g2⟩ := read_layout_t (kd := kd) (P := P) (d := d) (h := h) L ht hb hrun hc
  refine ⟨p, h', ?_, a, g1, g2⟩
  rw [call_run h_fields_of rfl]
  show fin (runs (call kd P (d + 2)) kd (c_fields_of F_read_layout).body [some (.str t)] h) = _
  simp only [c_fields_of]
  rw [run_cons]
  simp [R.bind_ok, R.calm_ok, q_cst, q_var, q_varK, q_bin, q_binK, q_binK2, q_neg, q_negK, q_not, q_and, q_andK_t, q_andK_f, q_or, q_orK_t, q_orK_f, q_cmp, q_cmpK, q_cmpK2, q_cmp2, q_cmp2K, q_cmp2K2, q_cmp2K3_t, q_cmp2K3_f, q_ite, q_iteK_t, q_iteK_f, q_tup, q_lst, q_dic, q_sub, q_subK, q_subK2, q_slc, q_slcK, q_slcK2, q_slcK3, q_rev, q_call, q_callK, q_bf, q_bfK, q_mt, q_mtK, q_mtK2, q_mt_int, q_lc, q_lcF, q_bfc, q_cfK, q_idx, q_idxK, q_nil, q_cons, q_consK, q_consK2, q_of, q_srcK_tup, q_srcK_str, q_srcK_ref, q_rng1, q_rng1K, q_rng2, q_rng2K, q_zip, q_zipK_tup, q_zipK_ref, q_enum, q_enumK, q_nm, q_tp, q_tpK, q_tpK_ref, q_sb, q_sbK, q_sbK2, q_unK, q_snil, q_scons, q_stoK, q_tnil, q_tcons, q_evtK_t, q_evtK_f, q_mk, q_evcK, q_asg, q_asgK, q_nxK, q_aug, q_augK, q_augK2, q_augK3, q_ife, q_ifeK_t, q_ifeK_f, q_for, q_forG, q_ret, q_retK, q_retn, q_expr, q_dropK, q_pass, q_brk, q_cont, q_try, q_xnil, q_xcons, q_nx, q_rt, q_bk, q_ct, q_tst, q_tstK, q_fin_rt, q_fin_nx, q_t0, q_l0, q_t1, q_l1, q_t2, q_l2, q_t3, q_l3, q_t4, q_l4, q_t5, q_l5, q_t6, q_l6, q_t7, q_l7, q_t8, q_l8, q_t9, q_l9, q_t10, q_l10, q_t11, q_l11, q_t12, q_l12, q_t13, q_l13, q_t14, q_l14, q_t15, q_l15, q_t16, q_l16, q_t17, q_l17, q_t18, q_l18, q_t19, q_l19, q_notK, gets, sets, wipes, cmpop, ofB, isv, eqh_int, eqh_str, eqh_bl, bfn, bIsi, isT, isTs, tyN, tysOf, TN.is, bInt, bLen, bTup, items, add_int, sub_int, app_at, app_at0, app_put, app_put0, alloc_0, cturn, run_rt, run_nx, run_nil, e]
end
end Vl
set_option maxRecDepth 100000
set_option maxHeartbeats 4000000
namespace Vl
/-- turns with a test -/
theorem turns_filter {held : List (Nat × List W)} {f : W → L → R (Option W)} {h : L} (g : W → W) (p : W → Bool) (hh : heldB h held = true) : ∀ (items acc : List W), (∀ x ∈ items, f x h = .ok (if p x then some (g x) else none) h) → acc.length + items.length ≤ 1000000 →
    turns held f items h acc = .ok (acc ++ (items.filter p).map g) h
  | [], acc, _, _ => by simp [turns, hh]
  | x :: xs, acc, hf, hl => by
    have h1 := hf x List.mem_cons_self
    rw [t_cons hh, h1, R.calm_ok, R.bind_ok]
    by_cases hp : p x = true
    · rw [if_pos hp, t_some (by simp at hl; omega), turns_filter g p hh xs (acc ++ [g x]) (fun y hy => hf y (List.mem_cons_of_mem _ hy)) (by simp at hl ⊢; omega)]
      simp [hp]
    · rw [if_neg hp, t_none, turns_filter g p hh xs acc (fun y hy => hf y (List.mem_cons_of_mem _ hy)) (by simp at hl ⊢; omega)]
      simp [hp]
def okc (c : Nat) : Bool := decide (c ≠ 64) && decide (c ≠ 61) && decide (c ≠ 60) && decide (c ≠ 62) && decide (c ≠ 33)
/-- what is built of a layout behind its order -/
structure Bld (nat : Bool) (i j : Nat) (b : List Nat) : Prop where
  ok : ∀ c ∈ b, okc c = true
  len : b.length ≤ 5 * j
  few : ∀ r, tot (b ++ r) [] ≤ 14 * j + tot r []
  run : ∃ st : LS, st.cnt = [] ∧ ∀ r, runL nat (b ++ r) lay0 i = runL nat r st (i + b.length)
theorem Bld.nil {nat : Bool} {i : Nat} : Bld nat i 0 [] := ⟨by simp, by simp, by simp, lay0, rfl, by simp⟩
theorem dig_okc {c : Nat} (h : isDig c = true) : okc c = true := by
  simp [isDig] at h
  simp [okc]
  omega
theorem codes_ok : ∀ c ∈ CODES, okc c = true := by decide
theorem codes_sz : ∀ nat : Bool, ∀ c ∈ CODES, (nat || !decide (c ∈ [110, 78, 80])) = true → (szOf nat c).isSome = true := by
  intro nat
  cases nat <;> decide
theorem Bld.add {nat : Bool} {i j c k z : Nat} {b ds : List Nat} (B : Bld nat i j b) (hk : k ≤ 1) (hd : ds.all isDig = true) (hl : ds.length ≤ 3) (hm : manyOf ds ≤ 11) (hc : c ∈ CODES) (hz : szOf nat c = some z) : Bld nat i (j + 1) (b ++ List.replicate k 32 ++ ds ++ [c]) := by
  obtain ⟨z1, z2, z3, z4, z5⟩ := szOf_facts hz
  obtain ⟨o1, o2, o3, st, s1, s2⟩ := B
  have t1 : ∀ r, tot (List.replicate k 32 ++ (ds ++ ([c] ++ r))) [] ≤ 14 + tot r [] := fun r => by
    have td : tot (ds ++ ([c] ++ r)) [] = manyOf ds + 1 + tot r [] := by
      rw [tot_digits ds hd, List.nil_append]
      show tot (c :: r) ds = _
      simp only [Vl.tot, z3, Bool.false_eq_true, if_false]
    have : k = 0 ∨ k = 1 := by omega
    rcases this with rfl | rfl
    · simp only [List.replicate, List.nil_append]
      omega
    · show tot (32 :: (ds ++ ([c] ++ r))) [] ≤ _
      have : tot (32 :: (ds ++ ([c] ++ r))) [] = 2 + tot (ds ++ ([c] ++ r)) [] := by
        simp only [Vl.tot]
        rw [if_neg (by decide)]
        simp [manyOf]
      omega
  refine ⟨?_, ?_, fun r => ?_, ⟨[], upTo nat st.place z + manyOf ds * z, st.acc ++ fieldT c z (manyOf ds) (upTo nat st.place z)⟩, rfl, fun r => ?_⟩
  · intro x hx
    simp only [List.mem_append, List.mem_replicate, List.mem_singleton] at hx
    rcases hx with ((hx | ⟨_, rfl⟩) | hx) | rfl
    · exact o1 x hx
    · rfl
    · exact dig_okc (List.all_eq_true.mp hd x hx)
    · exact codes_ok _ hc
  · simp
    omega
  · have := o3 (List.replicate k 32 ++ (ds ++ ([c] ++ r)))
    have := t1 r
    simp only [List.append_assoc] at *
    omega
  · have e0 := s2 (List.replicate k 32 ++ (ds ++ ([c] ++ r)))
    simp only [List.append_assoc] at *
    rw [e0]
    obtain ⟨cnt, pl, acc⟩ := st
    simp only at s1
    subst s1
    have sp : runL nat (List.replicate k 32 ++ (ds ++ ([c] ++ r))) ⟨[], pl, acc⟩ (i + b.length) = runL nat (ds ++ ([c] ++ r)) ⟨[], pl, acc⟩ (i + b.length + k) := by
      have : k = 0 ∨ k = 1 := by omega
      rcases this with rfl | rfl
      · rfl
      · show runL nat (32 :: (ds ++ ([c] ++ r))) _ _ = _
        have hs : stepL nat ⟨[], pl, acc⟩ 32 = some ⟨[], pl, acc⟩ := by
          have : szOf nat 32 = none := by cases nat <;> rfl
          simp [stepL, this, isDig]
        simp only [runL, hs]
    rw [sp, runL_digits ds hd, List.nil_append]
    show runL nat (c :: r) _ _ = _
    have hs : stepL nat ⟨ds, pl, acc⟩ c = some ⟨[], upTo nat pl z + manyOf ds * z, acc ++ fieldT c z (manyOf ds) (upTo nat pl z)⟩ := by simp [stepL, z3, hz]
    simp only [runL, hs]
    congr 1
    simp
    omega
/-- a right layout of a law's drawing -/
structure Drawn (m : Nat) (t : List Nat) : Prop where
  ex : ∃ o s nat gr st, Lay t o s nat gr ∧ t.length ≤ 5 * m + 2 ∧ tot s [] ≤ 14 * m + 2 ∧ runL nat s lay0 o.length = .inr st ∧ st.cnt = []
theorem Bld.lay {nat gr : Bool} {j k : Nat} {b o : List Nat} (OD : Ord o nat gr) (B : Bld nat o.length j b) (hk : k ≤ 1) : Drawn j (o ++ b ++ List.replicate k 32) := by
  obtain ⟨o1, o2, o3, st, s1, s2⟩ := B
  have ol : o.length ≤ 1 := by cases OD <;> decide
  refine ⟨o, b ++ List.replicate k 32, nat, gr, st, ⟨OD, by rw [List.append_assoc], fun _ c r e => ?_⟩, by simp; omega, ?_, ?_, s1⟩
  · have hc : okc c = true := by
      have : c ∈ b ++ List.replicate k 32 := by rw [e]; simp
      simp only [List.mem_append, List.mem_replicate] at this
      rcases this with h | ⟨_, rfl⟩
      · exact o1 c h
      · rfl
    simpa [okc, and_assoc] using hc
  · have := o3 (List.replicate k 32)
    have h2 : tot (List.replicate k 32) [] ≤ 2 := by
      have : k = 0 ∨ k = 1 := by omega
      rcases this with rfl | rfl <;> decide
    omega
  · rw [s2]
    obtain ⟨cnt, pl, acc⟩ := st
    simp only at s1
    subst s1
    have : k = 0 ∨ k = 1 := by omega
    rcases this with rfl | rfl
    · rfl
    · have hs : stepL nat ⟨[], pl, acc⟩ 32 = some ⟨[], pl, acc⟩ := by
        have : szOf nat 32 = none := by cases nat <;> rfl
        simp [stepL, this, isDig]
      simp [List.replicate, runL, hs]
theorem sp_mul {k : Nat} {h : L} (hk : k ≤ 1) : binop .mul (.str [32]) (.int (k : Int)) h = .ok (.str (List.replicate k 32)) h := by
  have : k = 0 ∨ k = 1 := by omega
  rcases this with rfl | rfl <;> rfl
theorem str_add {a b : List Nat} {h : L} (hl : a.length + b.length ≤ 100000) : binop .add (.str a) (.str b) h = .ok (.str (a ++ b)) h := if_pos (Nat.le_trans hl (by decide))
theorem strI_small {x : Int} (h0 : 0 ≤ x) (h1 : x < 12) : (strI x).all isDig = true ∧ (strI x).length ≤ 3 ∧ manyOf (strI x) ≤ 11 ∧ x.natAbs.log2 < 1920 := by
  have : x = 0 ∨ x = 1 ∨ x = 2 ∨ x = 3 ∨ x = 4 ∨ x = 5 ∨ x = 6 ∨ x = 7 ∨ x = 8 ∨ x = 9 ∨ x = 10 ∨ x = 11 := by omega
  rcases this with rfl | rfl | rfl | rfl | rfl | rfl | rfl | rfl | rfl | rfl | rfl | rfl <;> decide
section
variable {kd : Kd} {P : List Fn} [Tab P] [KTab kd] {d : Nat} {h H : L} {r q n : Nat}
/-- a draw, a pick -/
theorem draw_t (S : Strm h r q n) {m : Int} (hn : n ≤ 1000000) (hm : 0 < m) (hml : m.natAbs.log2 < 9000) :
    ∃ x h', call kd P (d + 1) F_law_draw [.ref r, .int m] h = .ok (.int x) h' ∧ 0 ≤ x ∧ x < m ∧ Strm h' r q (n + 1) ∧ Grow r q h h' := by
  obtain ⟨v, h', e, x, rfl, x0, x1, S', G'⟩ := draw_ok (kd := kd) (d := d) (h_law_draw (P := P)) S hn hm hml
  exact ⟨x, h', e, x0, x1, S', G'⟩
theorem pick_lst_t (S : Strm h r q n) (hn : n ≤ 1000000) {p : Nat} {xs : List W} (e : h[p]? = some (.lst xs)) (h1 : p ≠ r) (h2 : p ≠ q) (h0 : xs ≠ []) (hl : xs.length ≤ 1000000) :
    ∃ v h', call kd P (d + 2) F_law_pick [.ref r, .ref p] h = .ok v h' ∧ v ∈ xs ∧ Strm h' r q (n + 1) ∧ Grow r q h h' := by
  obtain ⟨v, h', e, m, S', G'⟩ := pick_lst (kd := kd) (d := d) (h_law_pick (P := P)) h_law_draw S hn e h1 h2 h0 (Nat.le_trans hl (by decide))
  exact ⟨v, h', e, m, S', G'⟩
theorem Strm.lt (S : Strm h r q n) : r < h.length ∧ q < h.length := by
  obtain ⟨sc, a, b, c, h1, h2, _⟩ := S.ex
  exact ⟨(List.getElem?_eq_some_iff.mp h1).1, (List.getElem?_eq_some_iff.mp h2).1⟩
def vlB : Ss := loopB (nthS (c_law_v_layout F_law_pick F_law_draw).body 2)
theorem vl_turn {o b cs : List Nat} {nat gr : Bool} {j : Nat} {x1 x2 x5 x6 x7 : Option W} {p4 : Nat} (OD : Ord o nat gr) (hcs : ∀ c ∈ cs, c ∈ CODES ∧ (szOf nat c).isSome = true) (hne : cs ≠ []) (hcl : cs.length ≤ 1000) (S : Strm h r q n) (hn : n ≤ 900000) (h4 : h[p4]? = some (.lst (cs.map fun c => .str [c]))) (n1 : p4 ≠ r) (n2 : p4 ≠ q) (B : Bld nat o.length j b) (hj : j ≤ 1000) :
    ∃ b' y6 h', exs (call kd P (d + 2)) kd vlB [some (.ref r), x1, x2, some (.str (o ++ b)), some (.ref p4), x5, x6, x7] h = .ok (.nx [some (.ref r), x1, x2, some (.str (o ++ b')), some (.ref p4), x5, y6, x7]) h' ∧ Bld nat o.length (j + 1) b' ∧ Strm h' r q (n + 4) ∧ Grow r q h h' := by
  obtain ⟨x, hA, e1, x0, x1', S1, G1⟩ := draw_t (kd := kd) (P := P) (d := d + 1) S (m := 12) (by omega) (by decide) (by decide)
  obtain ⟨w1, w2, w3, w4⟩ := strI_small x0 x1'
  have lt1 := S1.lt
  have S1' : Strm (hA ++ [O.lst [.str [], .str [], .str [], .str [48], .str [49], .str [50], .str [51], .str [48, 50], .str (strI x)]]) r q (n + 1) := S1.ap Ap.app
  obtain ⟨v, hB, e2, m2, S2, G2⟩ := pick_lst_t (kd := kd) (P := P) (d := d) S1' (by omega) app_end (by omega) (by omega) (by simp) (by simp)
  obtain ⟨ds, rfl, hd, hl, hm⟩ : ∃ ds, v = .str ds ∧ ds.all isDig = true ∧ ds.length ≤ 3 ∧ manyOf ds ≤ 11 := by
    simp only [List.mem_cons, List.not_mem_nil, or_false] at m2
    rcases m2 with rfl | rfl | rfl | rfl | rfl | rfl | rfl | rfl | rfl
    all_goals first | exact ⟨_, rfl, by decide, by decide, by decide⟩ | exact ⟨_, rfl, w1, w2, w3⟩
  obtain ⟨y, hC, e3, y0, y1, S3, G3⟩ := draw_t (kd := kd) (P := P) (d := d + 1) S2 (m := 5) (by omega) (by decide) (by decide)
  have g4 : hC[p4]? = some (.lst (cs.map fun c => .str [c])) := G3.at (G2.at (app_get (G1.at h4 n1 n2)) n1 n2) n1 n2
  obtain ⟨u, hD, e4, m4, S4, G4⟩ := pick_lst_t (kd := kd) (P := P) (d := d) S3 (by omega) g4 n1 n2 (by simpa using hne) (by simp; omega)
  obtain ⟨c, hc, rfl⟩ := List.mem_map.mp m4
  obtain ⟨c1, c2⟩ := hcs c hc
  obtain ⟨z, hz⟩ := Option.isSome_iff_exists.mp c2
  obtain ⟨k, hk⟩ : ∃ k : Nat, y / 3 = (k : Int) ∧ k ≤ 1 := ⟨(y / 3).toNat, by omega, by omega⟩
  have ol : o.length ≤ 1 := by cases OD <;> decide
  have bl := B.len
  refine ⟨b ++ List.replicate k 32 ++ ds ++ [c], some (.str ds), hD, ?_, B.add hk.2 hd hl hm c1 hz, S4, G1.trans (Grow.app.trans (G2.trans (G3.trans G4)))⟩
  have fd : ∀ h, binop .fdiv (.int y) (.int 3) h = .ok (.int (y / 3)) h := fun h => fdiv_ok (by decide) (by decide)
  have sm : ∀ h, binop .mul (.str [32]) (.int (y / 3)) h = .ok (.str (List.replicate k 32)) h := fun h => by rw [hk.1]; exact sp_mul hk.2
  have a1 : ∀ h, binop .add (.str (o ++ b)) (.str (List.replicate k 32)) h = .ok (.str (o ++ b ++ List.replicate k 32)) h := fun h => str_add (by simp; omega)
  have a2 : ∀ h, binop .add (.str (o ++ b ++ List.replicate k 32)) (.str ds) h = .ok (.str (o ++ b ++ List.replicate k 32 ++ ds)) h := fun h => str_add (by simp; omega)
  have a3 : ∀ h, binop .add (.str (o ++ b ++ List.replicate k 32 ++ ds)) (.str [c]) h = .ok (.str (o ++ b ++ List.replicate k 32 ++ ds ++ [c])) h := fun h => str_add (by simp; omega)
  rw [show o ++ (b ++ List.replicate k 32 ++ ds ++ [c]) = o ++ b ++ List.replicate k 32 ++ ds ++ [c] by simp]
  generalize o ++ b = ob at *
  generalize List.replicate k 32 = rp at *
  show runs (call kd P (d + 2)) kd vlB _ _ = _
  simp only [vlB, loopB, nthS, c_law_v_layout]
  rw [run_cons]
  simp [R.bind_ok, R.calm_ok, q_cst, q_var, q_varK, q_bin, q_binK, q_binK2, q_neg, q_negK, q_not, q_and, q_andK_t, q_andK_f, q_or, q_orK_t, q_orK_f, q_cmp, q_cmpK, q_cmpK2, q_cmp2, q_cmp2K, q_cmp2K2, q_cmp2K3_t, q_cmp2K3_f, q_ite, q_iteK_t, q_iteK_f, q_tup, q_lst, q_dic, q_sub, q_subK, q_subK2, q_slc, q_slcK, q_slcK2, q_slcK3, q_rev, q_call, q_callK, q_bf, q_bfK, q_mt, q_mtK, q_mtK2, q_mt_int, q_lc, q_lcF, q_bfc, q_cfK, q_idx, q_idxK, q_nil, q_cons, q_consK, q_consK2, q_of, q_srcK_tup, q_srcK_str, q_srcK_ref, q_rng1, q_rng1K, q_rng2, q_rng2K, q_zip, q_zipK_tup, q_zipK_ref, q_enum, q_enumK, q_nm, q_tp, q_tpK, q_tpK_ref, q_sb, q_sbK, q_sbK2, q_unK, q_snil, q_scons, q_stoK, q_tnil, q_tcons, q_evtK_t, q_evtK_f, q_mk, q_evcK, q_asg, q_asgK, q_nxK, q_aug, q_augK, q_augK2, q_augK3, q_ife, q_ifeK_t, q_ifeK_f, q_for, q_forG, q_ret, q_retK, q_retn, q_expr, q_dropK, q_pass, q_brk, q_cont, q_try, q_xnil, q_xcons, q_nx, q_rt, q_bk, q_ct, q_tst, q_tstK, q_fin_rt, q_fin_nx, q_t0, q_l0, q_t1, q_l1, q_t2, q_l2, q_t3, q_l3, q_t4, q_l4, q_t5, q_l5, q_t6, q_l6, q_t7, q_l7, q_t8, q_l8, q_t9, q_l9, q_t10, q_l10, q_t11, q_l11, q_t12, q_l12, q_t13, q_l13, q_t14, q_l14, q_t15, q_l15, q_t16, q_l16, q_t17, q_l17, q_t18, q_l18, q_t19, q_l19, q_notK, gets, sets, wipes, cmpop, ofB, isv, eqh_int, eqh_str, eqh_bl, bfn, bIsi, isT, isTs, tyN, tysOf, TN.is, bInt, bLen, bTup, items, add_int, sub_int, app_at, app_at0, app_put, app_put0, alloc_0, cturn, e1, w4, e2]
  rw [run_nx]
  rw [run_cons]
  simp only [R.bind_ok, R.calm_ok, q_cst, q_var, q_varK, q_bin, q_binK, q_binK2, q_neg, q_negK, q_not, q_and, q_andK_t, q_andK_f, q_or, q_orK_t, q_orK_f, q_cmp, q_cmpK, q_cmpK2, q_cmp2, q_cmp2K, q_cmp2K2, q_cmp2K3_t, q_cmp2K3_f, q_ite, q_iteK_t, q_iteK_f, q_tup, q_lst, q_dic, q_sub, q_subK, q_subK2, q_slc, q_slcK, q_slcK2, q_slcK3, q_rev, q_call, q_callK, q_bf, q_bfK, q_mt, q_mtK, q_mtK2, q_mt_int, q_lc, q_lcF, q_bfc, q_cfK, q_idx, q_idxK, q_nil, q_cons, q_consK, q_consK2, q_of, q_srcK_tup, q_srcK_str, q_srcK_ref, q_rng1, q_rng1K, q_rng2, q_rng2K, q_zip, q_zipK_tup, q_zipK_ref, q_enum, q_enumK, q_nm, q_tp, q_tpK, q_tpK_ref, q_sb, q_sbK, q_sbK2, q_unK, q_snil, q_scons, q_stoK, q_tnil, q_tcons, q_evtK_t, q_evtK_f, q_mk, q_evcK, q_asg, q_asgK, q_nxK, q_aug, q_augK, q_augK2, q_augK3, q_ife, q_ifeK_t, q_ifeK_f, q_for, q_forG, q_ret, q_retK, q_retn, q_expr, q_dropK, q_pass, q_brk, q_cont, q_try, q_xnil, q_xcons, q_nx, q_rt, q_bk, q_ct, q_tst, q_tstK, q_fin_rt, q_fin_nx, q_t0, q_l0, q_t1, q_l1, q_t2, q_l2, q_t3, q_l3, q_t4, q_l4, q_t5, q_l5, q_t6, q_l6, q_t7, q_l7, q_t8, q_l8, q_t9, q_l9, q_t10, q_l10, q_t11, q_l11, q_t12, q_l12, q_t13, q_l13, q_t14, q_l14, q_t15, q_l15, q_t16, q_l16, q_t17, q_l17, q_t18, q_l18, q_t19, q_l19, q_notK, gets, sets, wipes, cmpop, ofB, isv, eqh_int, eqh_str, eqh_bl, bfn, bIsi, isT, isTs, tyN, tysOf, TN.is, bInt, bLen, bTup, items, add_int, sub_int, app_at, app_at0, app_put, app_put0, alloc_0, cturn, e3, fd, sm, a1, a2, e4, a3, R.bind_ok]
  rw [run_nx, run_nil]
  simp only [List.append_assoc]
end
end Vl
set_option maxRecDepth 100000
set_option maxHeartbeats 4000000
namespace Vl
theorem Strm.set {h : L} {r q n p : Nat} {o : O} (S : Strm h r q n) (h1 : p ≠ r) (h2 : p ≠ q) : Strm (h.set p o) r q n := by
  obtain ⟨sc, x, y, z, a1, a2, a3⟩ := S.ex
  exact ⟨sc, x, y, z, set_at_ne a1 h1, set_at_ne a2 h2, a3⟩
/-- turns that lay new things alone -/
theorem turns_ap {f : W → L → R (Option W)} (g : W → W) : ∀ (items acc : List W) (h : L), (∀ x ∈ items, ∀ h1, Ap h h1 → ∃ h2, f x h1 = .ok (some (g x)) h2 ∧ Ap h1 h2) → acc.length + items.length ≤ 1000000 →
    ∃ h', turns [] f items h acc = .ok (acc ++ items.map g) h' ∧ Ap h h'
  | [], acc, h, _, _ => ⟨h, by simp [t_nil0], Ap.refl⟩
  | x :: xs, acc, h, hf, hl => by
    obtain ⟨h2, e2, a2⟩ := hf x List.mem_cons_self h Ap.refl
    obtain ⟨h3, e3, a3⟩ := turns_ap g xs (acc ++ [g x]) h2 (fun y hy h1 a1 => hf y (List.mem_cons_of_mem _ hy) h1 (a2.trans a1)) (by simp at hl ⊢; omega)
    refine ⟨h3, ?_, a2.trans a3⟩
    rw [t_cons0, e2, R.calm_ok, R.bind_ok, t_some (by simp at hl; omega), e3]
    simp
/-! ### sameness of data -/
/-- data: leaves and tuples of them -/
def dat : Nat → W → Bool
  | 0, _ => false
  | n + 1, .tup xs => decide (xs.length ≤ 1000000) && xs.all (dat n)
  | _ + 1, w => leafW w && isD 60 w
theorem dat_same : ∀ (n : Nat) (h : L) (w : W), dat n w = true → SameW n h w w := by
  intro n
  induction n with
  | zero => intro h w hd; cases hd
  | succ n ih =>
    intro h w hd
    have sl : ∀ xs : List W, xs.all (dat n) = true → SameL n h xs xs := by
      intro xs
      induction xs with
      | nil => intro _; simp only [SameL]
      | cons x xs ih2 =>
        intro hx
        simp only [List.all_cons, Bool.and_eq_true] at hx
        simp only [SameL]
        exact ⟨ih h x hx.1, ih2 hx.2⟩
    cases w with
    | tup xs =>
      simp only [dat, Bool.and_eq_true, decide_eq_true_eq] at hd
      simp only [SameW]
      exact .inr (.inl ⟨xs, xs, rfl, rfl, Nat.le_trans hd.1 (by decide), sl xs hd.2⟩)
    | _ =>
      simp only [dat, Bool.and_eq_true] at hd
      simp only [SameW]
      exact .inl ⟨hd.1, hd.2, trivial⟩
theorem dats_same {n : Nat} {h : L} : ∀ {xs : List W}, xs.all (dat n) = true → SameL n h xs xs
  | [], _ => by simp only [SameL]
  | x :: xs, hx => by
    simp only [List.all_cons, Bool.and_eq_true] at hx
    simp only [SameL]
    exact ⟨dat_same n h x hx.1, dats_same hx.2⟩
theorem same_t {kd : Kd} {P : List Fn} [Tab P] (n : Nat) {h : L} {x y : W} (s : SameW n h x y) {d : Nat} (hd : n ≤ d) : call kd P d F_law_same [x, y] h = .ok (.bl true) h := same_ok h_law_same n s d hd
theorem sz_code {nat : Bool} {c z : Nat} (h : szOf nat c = some z) : c < 200 := by
  have hc : c ∈ CODES := by
    by_cases hc : c ∈ CODES
    · exact hc
    · have := szI_out (sz_tab nat).2 c hc
      unfold szOf at h
      rw [this] at h
      cases h
  have : ∀ c ∈ CODES, c < 200 := by decide
  exact this c hc
theorem fieldT_code {c z many place : Nat} : ∀ t ∈ fieldT c z many place, t.1 = c := by
  intro t ht
  unfold fieldT at ht
  split at ht
  · cases ht
  · split at ht
    · simp at ht; rw [ht]
    · obtain ⟨k, _, rfl⟩ := List.mem_map.mp ht
      rfl
theorem runL_acc {nat : Bool} : ∀ (s : List Nat) (st st' : LS) (i : Nat), runL nat s st i = .inr st' → (∀ t ∈ st.acc, t.1 < 200) → ∀ t ∈ st'.acc, t.1 < 200
  | [], st, st', i, h, ha => by simp only [runL] at h; cases h; exact ha
  | c :: s, st, st', i, h, ha => by
    simp only [runL] at h
    split at h
    · rename_i st1 e
      refine runL_acc s st1 st' (i + 1) h ?_
      unfold stepL at e
      split at e
      · cases e; exact ha
      · split at e
        · split at e
          · cases e; exact ha
          · cases e
        · rename_i z hz
          cases e
          intro t ht
          rcases List.mem_append.mp ht with h1 | h1
          · exact ha t h1
          · rw [fieldT_code t h1]
            exact sz_code hz
    · cases h
theorem tri_dat {acc : List (Nat × Nat × Nat)} (h : ∀ t ∈ acc, t.1 < 200) : (acc.map triW).all (dat 2) = true := by
  rw [List.all_eq_true]
  intro w hw
  obtain ⟨t, ht, rfl⟩ := List.mem_map.mp hw
  have := h t ht
  simp [triW, dat, leafW]
  omega
section
variable {kd : Kd} {P : List Fn} [Tab P] [KTab kd] {d : Nat} {h H : L} {r q n : Nat}
/-- a layout that is drawn -/
theorem v_layout_t {cs : List Nat} {most : Nat} (hcs : ∀ c ∈ cs, c ∈ CODES) (hne : ∃ c ∈ cs, c ∉ [110, 78, 80]) (hcl : cs.length ≤ 1000) (hm : most ≤ 100) (S : Strm h r q n) (hn : n ≤ 800000) :
    ∃ t m h', call kd P (d + 3) F_law_v_layout [.ref r, .int (most : Int), .str cs] h = .ok (.str t) h' ∧ m ≤ most ∧ Drawn m t ∧ Strm h' r q (n + 3 + 4 * most) ∧ Grow r q h h' := by
  have lt0 := S.lt
  have S0 : Strm (h ++ [O.lst [.str [], .str [64], .str [61], .str [60], .str [62], .str [33]]]) r q n := S.ap Ap.app
  obtain ⟨v, hA, e1, m1, S1, G1⟩ := pick_lst_t (kd := kd) (P := P) (d := d) S0 (by omega) app_end (by omega) (by omega) (by simp) (by simp)
  obtain ⟨o, nat, gr, rfl, OD⟩ : ∃ o nat gr, v = .str o ∧ Ord o nat gr := by
    simp only [List.mem_cons, List.not_mem_nil, or_false] at m1
    rcases m1 with rfl | rfl | rfl | rfl | rfl | rfl
    · exact ⟨_, _, _, rfl, .n⟩
    · exact ⟨_, _, _, rfl, .a⟩
    · exact ⟨_, _, _, rfl, .e⟩
    · exact ⟨_, _, _, rfl, .l⟩
    · exact ⟨_, _, _, rfl, .g⟩
    · exact ⟨_, _, _, rfl, .x⟩
  have lt1 := S1.lt
  let p : Nat → Bool := fun c => nat || !decide (c ∈ [110, 78, 80])
  have htu := turns_filter (held := []) (h := hA) (f := cturn (call kd P (d + 2)) kd [7] (.nm 7) (.cons (.or (.cmp .inn (.var 3) (.tup (.cons (.cst (.str [])) (.cons (.cst (.str [64])) .nil)))) (.cmp .notin (.var 7) (.cst (.str [110, 78, 80])))) .nil) (.var 7) [some (.ref r), some (.int (most : Int)), some (.str cs), some (.str o), none, none, none, none])
    (fun x => x) (fun x => match x with | .str [c] => p c | _ => false) rfl (cs.map fun c => W.str [c]) [] (fun x hx => by
      obtain ⟨c, _, rfl⟩ := List.mem_map.mp hx
      have on := isIn_nat (kd := kd) (h := hA) OD
      have ii : isIn kd hA (.str [c]) (.str [110, 78, 80]) = some (decide (c ∈ [110, 78, 80])) := rfl
      cases nat with
      | true => simp [R.bind_ok, R.calm_ok, q_cst, q_var, q_varK, q_bin, q_binK, q_binK2, q_neg, q_negK, q_not, q_and, q_andK_t, q_andK_f, q_or, q_orK_t, q_orK_f, q_cmp, q_cmpK, q_cmpK2, q_cmp2, q_cmp2K, q_cmp2K2, q_cmp2K3_t, q_cmp2K3_f, q_ite, q_iteK_t, q_iteK_f, q_tup, q_lst, q_dic, q_sub, q_subK, q_subK2, q_slc, q_slcK, q_slcK2, q_slcK3, q_rev, q_call, q_callK, q_bf, q_bfK, q_mt, q_mtK, q_mtK2, q_mt_int, q_lc, q_lcF, q_bfc, q_cfK, q_idx, q_idxK, q_nil, q_cons, q_consK, q_consK2, q_of, q_srcK_tup, q_srcK_str, q_srcK_ref, q_rng1, q_rng1K, q_rng2, q_rng2K, q_zip, q_zipK_tup, q_zipK_ref, q_enum, q_enumK, q_nm, q_tp, q_tpK, q_tpK_ref, q_sb, q_sbK, q_sbK2, q_unK, q_snil, q_scons, q_stoK, q_tnil, q_tcons, q_evtK_t, q_evtK_f, q_mk, q_evcK, q_asg, q_asgK, q_nxK, q_aug, q_augK, q_augK2, q_augK3, q_ife, q_ifeK_t, q_ifeK_f, q_for, q_forG, q_ret, q_retK, q_retn, q_expr, q_dropK, q_pass, q_brk, q_cont, q_try, q_xnil, q_xcons, q_nx, q_rt, q_bk, q_ct, q_tst, q_tstK, q_fin_rt, q_fin_nx, q_t0, q_l0, q_t1, q_l1, q_t2, q_l2, q_t3, q_l3, q_t4, q_l4, q_t5, q_l5, q_t6, q_l6, q_t7, q_l7, q_t8, q_l8, q_t9, q_l9, q_t10, q_l10, q_t11, q_l11, q_t12, q_l12, q_t13, q_l13, q_t14, q_l14, q_t15, q_l15, q_t16, q_l16, q_t17, q_l17, q_t18, q_l18, q_t19, q_l19, q_notK, gets, sets, wipes, cmpop, ofB, isv, eqh_int, eqh_str, eqh_bl, bfn, bIsi, isT, isTs, tyN, tysOf, TN.is, bInt, bLen, bTup, items, add_int, sub_int, app_at, app_at0, app_put, app_put0, alloc_0, cturn, on, p]
      | false =>
        cases hd : decide (c ∈ [110, 78, 80]) with
        | true => rw [hd] at ii; simp only [p, hd]; simp [R.bind_ok, R.calm_ok, q_cst, q_var, q_varK, q_bin, q_binK, q_binK2, q_neg, q_negK, q_not, q_and, q_andK_t, q_andK_f, q_or, q_orK_t, q_orK_f, q_cmp, q_cmpK, q_cmpK2, q_cmp2, q_cmp2K, q_cmp2K2, q_cmp2K3_t, q_cmp2K3_f, q_ite, q_iteK_t, q_iteK_f, q_tup, q_lst, q_dic, q_sub, q_subK, q_subK2, q_slc, q_slcK, q_slcK2, q_slcK3, q_rev, q_call, q_callK, q_bf, q_bfK, q_mt, q_mtK, q_mtK2, q_mt_int, q_lc, q_lcF, q_bfc, q_cfK, q_idx, q_idxK, q_nil, q_cons, q_consK, q_consK2, q_of, q_srcK_tup, q_srcK_str, q_srcK_ref, q_rng1, q_rng1K, q_rng2, q_rng2K, q_zip, q_zipK_tup, q_zipK_ref, q_enum, q_enumK, q_nm, q_tp, q_tpK, q_tpK_ref, q_sb, q_sbK, q_sbK2, q_unK, q_snil, q_scons, q_stoK, q_tnil, q_tcons, q_evtK_t, q_evtK_f, q_mk, q_evcK, q_asg, q_asgK, q_nxK, q_aug, q_augK, q_augK2, q_augK3, q_ife, q_ifeK_t, q_ifeK_f, q_for, q_forG, q_ret, q_retK, q_retn, q_expr, q_dropK, q_pass, q_brk, q_cont, q_try, q_xnil, q_xcons, q_nx, q_rt, q_bk, q_ct, q_tst, q_tstK, q_fin_rt, q_fin_nx, q_t0, q_l0, q_t1, q_l1, q_t2, q_l2, q_t3, q_l3, q_t4, q_l4, q_t5, q_l5, q_t6, q_l6, q_t7, q_l7, q_t8, q_l8, q_t9, q_l9, q_t10, q_l10, q_t11, q_l11, q_t12, q_l12, q_t13, q_l13, q_t14, q_l14, q_t15, q_l15, q_t16, q_l16, q_t17, q_l17, q_t18, q_l18, q_t19, q_l19, q_notK, gets, sets, wipes, cmpop, ofB, isv, eqh_int, eqh_str, eqh_bl, bfn, bIsi, isT, isTs, tyN, tysOf, TN.is, bInt, bLen, bTup, items, add_int, sub_int, app_at, app_at0, app_put, app_put0, alloc_0, cturn, on, ii]
        | false => rw [hd] at ii; simp only [p, hd]; simp [R.bind_ok, R.calm_ok, q_cst, q_var, q_varK, q_bin, q_binK, q_binK2, q_neg, q_negK, q_not, q_and, q_andK_t, q_andK_f, q_or, q_orK_t, q_orK_f, q_cmp, q_cmpK, q_cmpK2, q_cmp2, q_cmp2K, q_cmp2K2, q_cmp2K3_t, q_cmp2K3_f, q_ite, q_iteK_t, q_iteK_f, q_tup, q_lst, q_dic, q_sub, q_subK, q_subK2, q_slc, q_slcK, q_slcK2, q_slcK3, q_rev, q_call, q_callK, q_bf, q_bfK, q_mt, q_mtK, q_mtK2, q_mt_int, q_lc, q_lcF, q_bfc, q_cfK, q_idx, q_idxK, q_nil, q_cons, q_consK, q_consK2, q_of, q_srcK_tup, q_srcK_str, q_srcK_ref, q_rng1, q_rng1K, q_rng2, q_rng2K, q_zip, q_zipK_tup, q_zipK_ref, q_enum, q_enumK, q_nm, q_tp, q_tpK, q_tpK_ref, q_sb, q_sbK, q_sbK2, q_unK, q_snil, q_scons, q_stoK, q_tnil, q_tcons, q_evtK_t, q_evtK_f, q_mk, q_evcK, q_asg, q_asgK, q_nxK, q_aug, q_augK, q_augK2, q_augK3, q_ife, q_ifeK_t, q_ifeK_f, q_for, q_forG, q_ret, q_retK, q_retn, q_expr, q_dropK, q_pass, q_brk, q_cont, q_try, q_xnil, q_xcons, q_nx, q_rt, q_bk, q_ct, q_tst, q_tstK, q_fin_rt, q_fin_nx, q_t0, q_l0, q_t1, q_l1, q_t2, q_l2, q_t3, q_l3, q_t4, q_l4, q_t5, q_l5, q_t6, q_l6, q_t7, q_l7, q_t8, q_l8, q_t9, q_l9, q_t10, q_l10, q_t11, q_l11, q_t12, q_l12, q_t13, q_l13, q_t14, q_l14, q_t15, q_l15, q_t16, q_l16, q_t17, q_l17, q_t18, q_l18, q_t19, q_l19, q_notK, gets, sets, wipes, cmpop, ofB, isv, eqh_int, eqh_str, eqh_bl, bfn, bIsi, isT, isTs, tyN, tysOf, TN.is, bInt, bLen, bTup, items, add_int, sub_int, app_at, app_at0, app_put, app_put0, alloc_0, cturn, on, ii]) (by simp; omega)
  have hfl : ((cs.map fun c => W.str [c]).filter (fun x => match x with | .str [c] => p c | _ => false)).map (fun x => x) = (cs.filter p).map fun c => W.str [c] := by
    rw [List.map_id', List.filter_map]
    rfl
  rw [hfl, List.nil_append] at htu
  have S2 : Strm (hA ++ [O.lst ((cs.filter p).map fun c => .str [c])]) r q (n + 1) := S1.ap Ap.app
  obtain ⟨x, hB, e2, x0, x1, S3, G3⟩ := draw_t (kd := kd) (P := P) (d := d + 1) S2 (m := (most : Int) + 1) (by omega) (by omega) (by
    have : ((most : Int) + 1).natAbs = most + 1 := by omega
    rw [this]
    refine (Nat.log2_lt (by omega)).mpr ?_
    exact Nat.lt_of_lt_of_le (show most + 1 < 2 ^ 7 by omega) (Nat.pow_le_pow_right (by decide) (by decide)))
  obtain ⟨k, rfl⟩ := Int.eq_ofNat_of_zero_le x0
  have g4 : hB[hA.length]? = some (.lst ((cs.filter p).map fun c => .str [c])) := G3.at app_end (by omega) (by omega)
  obtain ⟨σ', hC, e3, ⟨b, x5, x6, hσ, B, gC, GC⟩, SC⟩ := fors_inv (g := forG (call kd P (d + 2)) kd (.nm 5)) (b := exs (call kd P (d + 2)) kd vlB)
    (fun j σ h' => (∃ b x5 x6, σ = [some (.ref r), some (.int (most : Int)), some (.str cs), some (.str (o ++ b)), some (.ref hA.length), x5, x6, none] ∧ Bld nat o.length j b ∧ h'[hA.length]? = some (.lst ((cs.filter p).map fun c => .str [c])) ∧ Grow r q hB h') ∧ Strm h' r q (n + 2 + 4 * j))
    (ranges 0 k) 0 [some (.ref r), some (.int (most : Int)), some (.str cs), some (.str o), some (.ref hA.length), none, none, none] hB
    ⟨⟨[], none, none, by simp, Bld.nil, g4, Grow.refl⟩, S3⟩ (fun j x hx σ h' ⟨⟨b, x5, x6, hσ, B, g', G'⟩, S'⟩ => by
      subst hσ
      have hj : j < k := by
        have := (List.getElem?_eq_some_iff.mp hx).1
        rw [ranges_len] at this
        exact this
      rw [Nat.zero_add] at *
      obtain ⟨b', y6, h'', e, B', S'', G''⟩ := vl_turn (kd := kd) (P := P) (d := d) (x1 := some (.int (most : Int))) (x2 := some (.str cs)) (x5 := some x) (x6 := x6) (x7 := none) (cs := cs.filter p) OD (fun c hc => ⟨hcs c (List.mem_filter.mp hc).1, codes_sz nat c (hcs c (List.mem_filter.mp hc).1) (List.mem_filter.mp hc).2⟩)
        (by
          obtain ⟨c, h1, h2⟩ := hne
          have : c ∈ cs.filter p := List.mem_filter.mpr ⟨h1, by simp only [p]; rw [decide_eq_false h2]; simp⟩
          exact List.ne_nil_of_mem this) (Nat.le_trans (List.length_filter_le _ _) hcl) S' (by omega) g' (by omega) (by omega) B (by omega)
      exact ⟨_, h', _, h'', rfl, e, ⟨b', some x, y6, rfl, B', G''.at g' (by omega) (by omega), G'.trans G''⟩, by rw [show n + 2 + 4 * (j + 1) = n + 2 + 4 * j + 4 by omega]; exact S''⟩)
  rw [ranges_len, Nat.zero_add] at B SC
  subst hσ
  obtain ⟨y, hD, e4, y0, y1, S4, G4⟩ := draw_t (kd := kd) (P := P) (d := d + 1) SC (m := 6) (by omega) (by decide) (by decide)
  obtain ⟨k', hk'⟩ : ∃ k' : Nat, (if (y == 0) = true then (1 : Int) else 0) = (k' : Int) ∧ k' ≤ 1 := by
    by_cases hy : (y == 0) = true
    · exact ⟨1, by rw [if_pos hy]; rfl, by omega⟩
    · exact ⟨0, by rw [if_neg hy]; rfl, by omega⟩
  have ol : o.length ≤ 1 := by cases OD <;> decide
  have bl := B.len
  refine ⟨o ++ b ++ List.replicate k' 32, k, hD, ?_, by omega, Bld.lay OD B hk'.2, S4.mono (by omega), Grow.app.trans (G1.trans (Grow.app.trans (G3.trans (GC.trans G4))))⟩
  have er : ∀ h, rng1K [.int (k : Int)] h = .ok ⟨ranges 0 k, []⟩ h := fun h => q_rng1K (by omega)
  have sm : ∀ h, binop .mul (.str [32]) (.int (if (y == 0) = true then (1 : Int) else 0)) h = .ok (.str (List.replicate k' 32)) h := fun h => by rw [hk'.1]; exact sp_mul hk'.2
  have a1 : ∀ h, binop .add (.str (o ++ b)) (.str (List.replicate k' 32)) h = .ok (.str (o ++ b ++ List.replicate k' 32)) h := fun h => str_add (by simp; omega)
  rw [call_run h_law_v_layout rfl]
  show fin (runs (call kd P (d + 2)) kd (c_law_v_layout F_law_pick F_law_draw).body [some (.ref r), some (.int (most : Int)), some (.str cs), none, none, none, none, none] h) = _
  simp only [vlB, loopB, nthS, c_law_v_layout] at e3 ⊢
  generalize ranges 0 k = rr at *
  generalize o ++ b ++ List.replicate k' 32 = obk at *
  generalize List.replicate k' 32 = rk at *
  rw [run_cons]
  simp only [R.bind_ok, R.calm_ok, q_cst, q_var, q_varK, q_bin, q_binK, q_binK2, q_neg, q_negK, q_not, q_and, q_andK_t, q_andK_f, q_or, q_orK_t, q_orK_f, q_cmp, q_cmpK, q_cmpK2, q_cmp2, q_cmp2K, q_cmp2K2, q_cmp2K3_t, q_cmp2K3_f, q_ite, q_iteK_t, q_iteK_f, q_tup, q_lst, q_dic, q_sub, q_subK, q_subK2, q_slc, q_slcK, q_slcK2, q_slcK3, q_rev, q_call, q_callK, q_bf, q_bfK, q_mt, q_mtK, q_mtK2, q_mt_int, q_lc, q_lcF, q_bfc, q_cfK, q_idx, q_idxK, q_nil, q_cons, q_consK, q_consK2, q_of, q_srcK_tup, q_srcK_str, q_srcK_ref, q_rng1, q_rng1K, q_rng2, q_rng2K, q_zip, q_zipK_tup, q_zipK_ref, q_enum, q_enumK, q_nm, q_tp, q_tpK, q_tpK_ref, q_sb, q_sbK, q_sbK2, q_unK, q_snil, q_scons, q_stoK, q_tnil, q_tcons, q_evtK_t, q_evtK_f, q_mk, q_evcK, q_asg, q_asgK, q_nxK, q_aug, q_augK, q_augK2, q_augK3, q_ife, q_ifeK_t, q_ifeK_f, q_for, q_forG, q_ret, q_retK, q_retn, q_expr, q_dropK, q_pass, q_brk, q_cont, q_try, q_xnil, q_xcons, q_nx, q_rt, q_bk, q_ct, q_tst, q_tstK, q_fin_rt, q_fin_nx, q_t0, q_l0, q_t1, q_l1, q_t2, q_l2, q_t3, q_l3, q_t4, q_l4, q_t5, q_l5, q_t6, q_l6, q_t7, q_l7, q_t8, q_l8, q_t9, q_l9, q_t10, q_l10, q_t11, q_l11, q_t12, q_l12, q_t13, q_l13, q_t14, q_l14, q_t15, q_l15, q_t16, q_l16, q_t17, q_l17, q_t18, q_l18, q_t19, q_l19, q_notK, gets, sets, wipes, cmpop, ofB, isv, eqh_int, eqh_str, eqh_bl, bfn, bIsi, isT, isTs, tyN, tysOf, TN.is, bInt, bLen, bTup, items, add_int, sub_int, app_at, app_at0, app_put, app_put0, alloc_0, cturn, e1, R.bind_ok]
  rw [run_nx, run_cons]
  simp only [R.bind_ok, R.calm_ok, q_cst, q_var, q_varK, q_bin, q_binK, q_binK2, q_neg, q_negK, q_not, q_and, q_andK_t, q_andK_f, q_or, q_orK_t, q_orK_f, q_cmp, q_cmpK, q_cmpK2, q_cmp2, q_cmp2K, q_cmp2K2, q_cmp2K3_t, q_cmp2K3_f, q_ite, q_iteK_t, q_iteK_f, q_tup, q_lst, q_dic, q_sub, q_subK, q_subK2, q_slc, q_slcK, q_slcK2, q_slcK3, q_rev, q_call, q_callK, q_bf, q_bfK, q_mt, q_mtK, q_mtK2, q_mt_int, q_lc, q_lcF, q_bfc, q_cfK, q_idx, q_idxK, q_nil, q_cons, q_consK, q_consK2, q_of, q_srcK_tup, q_srcK_str, q_srcK_ref, q_rng1, q_rng1K, q_rng2, q_rng2K, q_zip, q_zipK_tup, q_zipK_ref, q_enum, q_enumK, q_nm, q_tp, q_tpK, q_tpK_ref, q_sb, q_sbK, q_sbK2, q_unK, q_snil, q_scons, q_stoK, q_tnil, q_tcons, q_evtK_t, q_evtK_f, q_mk, q_evcK, q_asg, q_asgK, q_nxK, q_aug, q_augK, q_augK2, q_augK3, q_ife, q_ifeK_t, q_ifeK_f, q_for, q_forG, q_ret, q_retK, q_retn, q_expr, q_dropK, q_pass, q_brk, q_cont, q_try, q_xnil, q_xcons, q_nx, q_rt, q_bk, q_ct, q_tst, q_tstK, q_fin_rt, q_fin_nx, q_t0, q_l0, q_t1, q_l1, q_t2, q_l2, q_t3, q_l3, q_t4, q_l4, q_t5, q_l5, q_t6, q_l6, q_t7, q_l7, q_t8, q_l8, q_t9, q_l9, q_t10, q_l10, q_t11, q_l11, q_t12, q_l12, q_t13, q_l13, q_t14, q_l14, q_t15, q_l15, q_t16, q_l16, q_t17, q_l17, q_t18, q_l18, q_t19, q_l19, q_notK, gets, sets, wipes, cmpop, ofB, isv, eqh_int, eqh_str, eqh_bl, bfn, bIsi, isT, isTs, tyN, tysOf, TN.is, bInt, bLen, bTup, items, add_int, sub_int, app_at, app_at0, app_put, app_put0, alloc_0, cturn, htu, R.bind_ok]
  rw [run_nx, run_cons]
  simp only [R.bind_ok, R.calm_ok, q_cst, q_var, q_varK, q_bin, q_binK, q_binK2, q_neg, q_negK, q_not, q_and, q_andK_t, q_andK_f, q_or, q_orK_t, q_orK_f, q_cmp, q_cmpK, q_cmpK2, q_cmp2, q_cmp2K, q_cmp2K2, q_cmp2K3_t, q_cmp2K3_f, q_ite, q_iteK_t, q_iteK_f, q_tup, q_lst, q_dic, q_sub, q_subK, q_subK2, q_slc, q_slcK, q_slcK2, q_slcK3, q_rev, q_call, q_callK, q_bf, q_bfK, q_mt, q_mtK, q_mtK2, q_mt_int, q_lc, q_lcF, q_bfc, q_cfK, q_idx, q_idxK, q_nil, q_cons, q_consK, q_consK2, q_of, q_srcK_tup, q_srcK_str, q_srcK_ref, q_rng1, q_rng1K, q_rng2, q_rng2K, q_zip, q_zipK_tup, q_zipK_ref, q_enum, q_enumK, q_nm, q_tp, q_tpK, q_tpK_ref, q_sb, q_sbK, q_sbK2, q_unK, q_snil, q_scons, q_stoK, q_tnil, q_tcons, q_evtK_t, q_evtK_f, q_mk, q_evcK, q_asg, q_asgK, q_nxK, q_aug, q_augK, q_augK2, q_augK3, q_ife, q_ifeK_t, q_ifeK_f, q_for, q_forG, q_ret, q_retK, q_retn, q_expr, q_dropK, q_pass, q_brk, q_cont, q_try, q_xnil, q_xcons, q_nx, q_rt, q_bk, q_ct, q_tst, q_tstK, q_fin_rt, q_fin_nx, q_t0, q_l0, q_t1, q_l1, q_t2, q_l2, q_t3, q_l3, q_t4, q_l4, q_t5, q_l5, q_t6, q_l6, q_t7, q_l7, q_t8, q_l8, q_t9, q_l9, q_t10, q_l10, q_t11, q_l11, q_t12, q_l12, q_t13, q_l13, q_t14, q_l14, q_t15, q_l15, q_t16, q_l16, q_t17, q_l17, q_t18, q_l18, q_t19, q_l19, q_notK, gets, sets, wipes, cmpop, ofB, isv, eqh_int, eqh_str, eqh_bl, bfn, bIsi, isT, isTs, tyN, tysOf, TN.is, bInt, bLen, bTup, items, add_int, sub_int, app_at, app_at0, app_put, app_put0, alloc_0, cturn, e2, er, R.bind_ok]
  rw [q_forK, e3, R.bind_ok, run_nx, run_cons]
  generalize o ++ b = ob at *
  simp only [R.bind_ok, R.calm_ok, q_cst, q_var, q_varK, q_bin, q_binK, q_binK2, q_neg, q_negK, q_not, q_and, q_andK_t, q_andK_f, q_or, q_orK_t, q_orK_f, q_cmp, q_cmpK, q_cmpK2, q_cmp2, q_cmp2K, q_cmp2K2, q_cmp2K3_t, q_cmp2K3_f, q_ite, q_iteK_t, q_iteK_f, q_tup, q_lst, q_dic, q_sub, q_subK, q_subK2, q_slc, q_slcK, q_slcK2, q_slcK3, q_rev, q_call, q_callK, q_bf, q_bfK, q_mt, q_mtK, q_mtK2, q_mt_int, q_lc, q_lcF, q_bfc, q_cfK, q_idx, q_idxK, q_nil, q_cons, q_consK, q_consK2, q_of, q_srcK_tup, q_srcK_str, q_srcK_ref, q_rng1, q_rng1K, q_rng2, q_rng2K, q_zip, q_zipK_tup, q_zipK_ref, q_enum, q_enumK, q_nm, q_tp, q_tpK, q_tpK_ref, q_sb, q_sbK, q_sbK2, q_unK, q_snil, q_scons, q_stoK, q_tnil, q_tcons, q_evtK_t, q_evtK_f, q_mk, q_evcK, q_asg, q_asgK, q_nxK, q_aug, q_augK, q_augK2, q_augK3, q_ife, q_ifeK_t, q_ifeK_f, q_for, q_forG, q_ret, q_retK, q_retn, q_expr, q_dropK, q_pass, q_brk, q_cont, q_try, q_xnil, q_xcons, q_nx, q_rt, q_bk, q_ct, q_tst, q_tstK, q_fin_rt, q_fin_nx, q_t0, q_l0, q_t1, q_l1, q_t2, q_l2, q_t3, q_l3, q_t4, q_l4, q_t5, q_l5, q_t6, q_l6, q_t7, q_l7, q_t8, q_l8, q_t9, q_l9, q_t10, q_l10, q_t11, q_l11, q_t12, q_l12, q_t13, q_l13, q_t14, q_l14, q_t15, q_l15, q_t16, q_l16, q_t17, q_l17, q_t18, q_l18, q_t19, q_l19, q_notK, gets, sets, wipes, cmpop, ofB, isv, eqh_int, eqh_str, eqh_bl, bfn, bIsi, isT, isTs, tyN, tysOf, TN.is, bInt, bLen, bTup, items, add_int, sub_int, app_at, app_at0, app_put, app_put0, alloc_0, cturn, e4, sm, a1, R.bind_ok, Bool.false_eq_true, if_false, run_rt]
end
end Vl
set_option maxRecDepth 100000
set_option maxHeartbeats 4000000
namespace Vl
/-! ### is_real, of any object -/
def REAL : List Nat := [114, 101, 97, 108]
def fitsB (n k : Int) : Bool := if n % 2 = 0 then decide (n = 0) && decide (k = 0) else decide ((ibits n : Int) ≤ 53) && (decide (-1074 ≤ k) && decide ((ibits n : Int) + k ≤ 1024))
def wordB (b : List Nat) : Bool := b == [45, 48] || b == [105, 110, 102] || b == [45, 105, 110, 102] || b == [110, 97, 110]
def isRealB : W → Bool
  | .tup [.str a, .str b] => a == REAL && wordB b
  | .tup [.str a, .int n, .int k] => a == REAL && fitsB n k
  | _ => false
/-- an object whose parts are known -/
def okV (h : L) : W → Bool
  | .tup xs => xs.all (fun y => (tyN y h).isSome)
  | x => (tyN x h).isSome
theorem isi_ok {h : L} {x : W} {n : TN} {t : BT} (e : tyN x h = some n) : bIsi x (.ty t) h = .ok (.bl (n.is t)) h := by
  simp [bIsi, isT, e, ofB]
section
variable {kd : Kd} {P : List Fn} [Tab P] [KTab kd] {d : Nat} {h : L}
theorem is_integer_t {x : W} {n : TN} (e : tyN x h = some n) : call kd P (d + 1) F_is_integer [x] h = .ok (.bl (n.is .int)) h := by
  rw [call_run h_is_integer rfl]
  show fin (runs (call kd P d) kd c_is_integer.body [some x] h) = _
  simp only [c_is_integer]
  rw [run_cons]
  simp [q_ret, q_bf, q_cons, q_consK, q_consK2, q_nil, q_var, q_varK, q_cst, q_bfK, bfn, isi_ok e, gets, q_retK, run_rt, q_fin_rt]
theorem fits_t {n k : Int} : call kd P (d + 1) F_fits_double [.int n, .int k] h = .ok (.bl (fitsB n k)) h := by
  rw [call_run h_fits_double rfl]
  show fin (runs (call kd P d) kd c_fits_double.body [some (.int n), some (.int k)] h) = _
  simp only [c_fits_double]
  have md := mod_ok (a := n) (b := 2) (h := h) (by decide)
  unfold fitsB
  by_cases h2 : n % 2 = 0
  · have z2 : (n % 2 == 0) = true := by simpa using h2
    by_cases h0 : n = 0
    · subst h0
      have md0 : binop .mod (.int 0) (.int 2) h = .ok (.int 0) h := md
      rw [run_cons]
      simp [R.bind_ok, R.calm_ok, q_cst, q_var, q_varK, q_bin, q_binK, q_binK2, q_neg, q_negK, q_not, q_and, q_andK_t, q_andK_f, q_or, q_orK_t, q_orK_f, q_cmp, q_cmpK, q_cmpK2, q_cmp2, q_cmp2K, q_cmp2K2, q_cmp2K3_t, q_cmp2K3_f, q_ite, q_iteK_t, q_iteK_f, q_tup, q_lst, q_dic, q_sub, q_subK, q_subK2, q_slc, q_slcK, q_slcK2, q_slcK3, q_rev, q_call, q_callK, q_bf, q_bfK, q_mt, q_mtK, q_mtK2, q_mt_int, q_lc, q_lcF, q_bfc, q_cfK, q_idx, q_idxK, q_nil, q_cons, q_consK, q_consK2, q_of, q_srcK_tup, q_srcK_str, q_srcK_ref, q_rng1, q_rng1K, q_rng2, q_rng2K, q_zip, q_zipK_tup, q_zipK_ref, q_enum, q_enumK, q_nm, q_tp, q_tpK, q_tpK_ref, q_sb, q_sbK, q_sbK2, q_unK, q_snil, q_scons, q_stoK, q_tnil, q_tcons, q_evtK_t, q_evtK_f, q_mk, q_evcK, q_asg, q_asgK, q_nxK, q_aug, q_augK, q_augK2, q_augK3, q_ife, q_ifeK_t, q_ifeK_f, q_for, q_forG, q_ret, q_retK, q_retn, q_expr, q_dropK, q_pass, q_brk, q_cont, q_try, q_xnil, q_xcons, q_nx, q_rt, q_bk, q_ct, q_tst, q_tstK, q_fin_rt, q_fin_nx, q_t0, q_l0, q_t1, q_l1, q_t2, q_l2, q_t3, q_l3, q_t4, q_l4, q_t5, q_l5, q_t6, q_l6, q_t7, q_l7, q_t8, q_l8, q_t9, q_l9, q_t10, q_l10, q_t11, q_l11, q_t12, q_l12, q_t13, q_l13, q_t14, q_l14, q_t15, q_l15, q_t16, q_l16, q_t17, q_l17, q_t18, q_l18, q_t19, q_l19, q_notK, gets, sets, wipes, cmpop, ofB, isv, eqh_int, eqh_str, eqh_bl, bfn, bIsi, isT, isTs, tyN, tysOf, TN.is, bInt, bLen, bTup, items, add_int, sub_int, app_at, app_at0, app_put, app_put0, alloc_0, cturn, run_rt, run_nx, run_nil, md0]
      rfl
    · have z0 : (n == 0) = false := by simpa using h0
      rw [run_cons]
      simp [R.bind_ok, R.calm_ok, q_cst, q_var, q_varK, q_bin, q_binK, q_binK2, q_neg, q_negK, q_not, q_and, q_andK_t, q_andK_f, q_or, q_orK_t, q_orK_f, q_cmp, q_cmpK, q_cmpK2, q_cmp2, q_cmp2K, q_cmp2K2, q_cmp2K3_t, q_cmp2K3_f, q_ite, q_iteK_t, q_iteK_f, q_tup, q_lst, q_dic, q_sub, q_subK, q_subK2, q_slc, q_slcK, q_slcK2, q_slcK3, q_rev, q_call, q_callK, q_bf, q_bfK, q_mt, q_mtK, q_mtK2, q_mt_int, q_lc, q_lcF, q_bfc, q_cfK, q_idx, q_idxK, q_nil, q_cons, q_consK, q_consK2, q_of, q_srcK_tup, q_srcK_str, q_srcK_ref, q_rng1, q_rng1K, q_rng2, q_rng2K, q_zip, q_zipK_tup, q_zipK_ref, q_enum, q_enumK, q_nm, q_tp, q_tpK, q_tpK_ref, q_sb, q_sbK, q_sbK2, q_unK, q_snil, q_scons, q_stoK, q_tnil, q_tcons, q_evtK_t, q_evtK_f, q_mk, q_evcK, q_asg, q_asgK, q_nxK, q_aug, q_augK, q_augK2, q_augK3, q_ife, q_ifeK_t, q_ifeK_f, q_for, q_forG, q_ret, q_retK, q_retn, q_expr, q_dropK, q_pass, q_brk, q_cont, q_try, q_xnil, q_xcons, q_nx, q_rt, q_bk, q_ct, q_tst, q_tstK, q_fin_rt, q_fin_nx, q_t0, q_l0, q_t1, q_l1, q_t2, q_l2, q_t3, q_l3, q_t4, q_l4, q_t5, q_l5, q_t6, q_l6, q_t7, q_l7, q_t8, q_l8, q_t9, q_l9, q_t10, q_l10, q_t11, q_l11, q_t12, q_l12, q_t13, q_l13, q_t14, q_l14, q_t15, q_l15, q_t16, q_l16, q_t17, q_l17, q_t18, q_l18, q_t19, q_l19, q_notK, gets, sets, wipes, cmpop, ofB, isv, eqh_int, eqh_str, eqh_bl, bfn, bIsi, isT, isTs, tyN, tysOf, TN.is, bInt, bLen, bTup, items, add_int, sub_int, app_at, app_at0, app_put, app_put0, alloc_0, cturn, run_rt, run_nx, run_nil, md, z2, z0, h2, h0]
  · have z2 : (n % 2 == 0) = false := by simpa using h2
    have b1 : bmt .bits (.int n) [] h = .ok (.int (ibits n)) h := rfl
    generalize (ibits n : Int) = bn at *
    rw [run_cons]
    simp [R.bind_ok, R.calm_ok, q_cst, q_var, q_varK, q_bin, q_binK, q_binK2, q_neg, q_negK, q_not, q_and, q_andK_t, q_andK_f, q_or, q_orK_t, q_orK_f, q_cmp, q_cmpK, q_cmpK2, q_cmp2, q_cmp2K, q_cmp2K2, q_cmp2K3_t, q_cmp2K3_f, q_ite, q_iteK_t, q_iteK_f, q_tup, q_lst, q_dic, q_sub, q_subK, q_subK2, q_slc, q_slcK, q_slcK2, q_slcK3, q_rev, q_call, q_callK, q_bf, q_bfK, q_mt, q_mtK, q_mtK2, q_mt_int, q_lc, q_lcF, q_bfc, q_cfK, q_idx, q_idxK, q_nil, q_cons, q_consK, q_consK2, q_of, q_srcK_tup, q_srcK_str, q_srcK_ref, q_rng1, q_rng1K, q_rng2, q_rng2K, q_zip, q_zipK_tup, q_zipK_ref, q_enum, q_enumK, q_nm, q_tp, q_tpK, q_tpK_ref, q_sb, q_sbK, q_sbK2, q_unK, q_snil, q_scons, q_stoK, q_tnil, q_tcons, q_evtK_t, q_evtK_f, q_mk, q_evcK, q_asg, q_asgK, q_nxK, q_aug, q_augK, q_augK2, q_augK3, q_ife, q_ifeK_t, q_ifeK_f, q_for, q_forG, q_ret, q_retK, q_retn, q_expr, q_dropK, q_pass, q_brk, q_cont, q_try, q_xnil, q_xcons, q_nx, q_rt, q_bk, q_ct, q_tst, q_tstK, q_fin_rt, q_fin_nx, q_t0, q_l0, q_t1, q_l1, q_t2, q_l2, q_t3, q_l3, q_t4, q_l4, q_t5, q_l5, q_t6, q_l6, q_t7, q_l7, q_t8, q_l8, q_t9, q_l9, q_t10, q_l10, q_t11, q_l11, q_t12, q_l12, q_t13, q_l13, q_t14, q_l14, q_t15, q_l15, q_t16, q_l16, q_t17, q_l17, q_t18, q_l18, q_t19, q_l19, q_notK, gets, sets, wipes, cmpop, ofB, isv, eqh_int, eqh_str, eqh_bl, bfn, bIsi, isT, isTs, tyN, tysOf, TN.is, bInt, bLen, bTup, items, add_int, sub_int, app_at, app_at0, app_put, app_put0, alloc_0, cturn, md, z2]
    rw [run_nx]
    by_cases h1 : bn ≤ 53
    · by_cases h3 : -1074 ≤ k
      · rw [run_cons]
        simp [R.bind_ok, R.calm_ok, q_cst, q_var, q_varK, q_bin, q_binK, q_binK2, q_neg, q_negK, q_not, q_and, q_andK_t, q_andK_f, q_or, q_orK_t, q_orK_f, q_cmp, q_cmpK, q_cmpK2, q_cmp2, q_cmp2K, q_cmp2K2, q_cmp2K3_t, q_cmp2K3_f, q_ite, q_iteK_t, q_iteK_f, q_tup, q_lst, q_dic, q_sub, q_subK, q_subK2, q_slc, q_slcK, q_slcK2, q_slcK3, q_rev, q_call, q_callK, q_bf, q_bfK, q_mt, q_mtK, q_mtK2, q_mt_int, q_lc, q_lcF, q_bfc, q_cfK, q_idx, q_idxK, q_nil, q_cons, q_consK, q_consK2, q_of, q_srcK_tup, q_srcK_str, q_srcK_ref, q_rng1, q_rng1K, q_rng2, q_rng2K, q_zip, q_zipK_tup, q_zipK_ref, q_enum, q_enumK, q_nm, q_tp, q_tpK, q_tpK_ref, q_sb, q_sbK, q_sbK2, q_unK, q_snil, q_scons, q_stoK, q_tnil, q_tcons, q_evtK_t, q_evtK_f, q_mk, q_evcK, q_asg, q_asgK, q_nxK, q_aug, q_augK, q_augK2, q_augK3, q_ife, q_ifeK_t, q_ifeK_f, q_for, q_forG, q_ret, q_retK, q_retn, q_expr, q_dropK, q_pass, q_brk, q_cont, q_try, q_xnil, q_xcons, q_nx, q_rt, q_bk, q_ct, q_tst, q_tstK, q_fin_rt, q_fin_nx, q_t0, q_l0, q_t1, q_l1, q_t2, q_l2, q_t3, q_l3, q_t4, q_l4, q_t5, q_l5, q_t6, q_l6, q_t7, q_l7, q_t8, q_l8, q_t9, q_l9, q_t10, q_l10, q_t11, q_l11, q_t12, q_l12, q_t13, q_l13, q_t14, q_l14, q_t15, q_l15, q_t16, q_l16, q_t17, q_l17, q_t18, q_l18, q_t19, q_l19, q_notK, gets, sets, wipes, cmpop, ofB, isv, eqh_int, eqh_str, eqh_bl, bfn, bIsi, isT, isTs, tyN, tysOf, TN.is, bInt, bLen, bTup, items, add_int, sub_int, app_at, app_at0, app_put, app_put0, alloc_0, cturn, run_rt, run_nx, run_nil, h2, h1, h3, b1]
      · rw [run_cons]
        simp [R.bind_ok, R.calm_ok, q_cst, q_var, q_varK, q_bin, q_binK, q_binK2, q_neg, q_negK, q_not, q_and, q_andK_t, q_andK_f, q_or, q_orK_t, q_orK_f, q_cmp, q_cmpK, q_cmpK2, q_cmp2, q_cmp2K, q_cmp2K2, q_cmp2K3_t, q_cmp2K3_f, q_ite, q_iteK_t, q_iteK_f, q_tup, q_lst, q_dic, q_sub, q_subK, q_subK2, q_slc, q_slcK, q_slcK2, q_slcK3, q_rev, q_call, q_callK, q_bf, q_bfK, q_mt, q_mtK, q_mtK2, q_mt_int, q_lc, q_lcF, q_bfc, q_cfK, q_idx, q_idxK, q_nil, q_cons, q_consK, q_consK2, q_of, q_srcK_tup, q_srcK_str, q_srcK_ref, q_rng1, q_rng1K, q_rng2, q_rng2K, q_zip, q_zipK_tup, q_zipK_ref, q_enum, q_enumK, q_nm, q_tp, q_tpK, q_tpK_ref, q_sb, q_sbK, q_sbK2, q_unK, q_snil, q_scons, q_stoK, q_tnil, q_tcons, q_evtK_t, q_evtK_f, q_mk, q_evcK, q_asg, q_asgK, q_nxK, q_aug, q_augK, q_augK2, q_augK3, q_ife, q_ifeK_t, q_ifeK_f, q_for, q_forG, q_ret, q_retK, q_retn, q_expr, q_dropK, q_pass, q_brk, q_cont, q_try, q_xnil, q_xcons, q_nx, q_rt, q_bk, q_ct, q_tst, q_tstK, q_fin_rt, q_fin_nx, q_t0, q_l0, q_t1, q_l1, q_t2, q_l2, q_t3, q_l3, q_t4, q_l4, q_t5, q_l5, q_t6, q_l6, q_t7, q_l7, q_t8, q_l8, q_t9, q_l9, q_t10, q_l10, q_t11, q_l11, q_t12, q_l12, q_t13, q_l13, q_t14, q_l14, q_t15, q_l15, q_t16, q_l16, q_t17, q_l17, q_t18, q_l18, q_t19, q_l19, q_notK, gets, sets, wipes, cmpop, ofB, isv, eqh_int, eqh_str, eqh_bl, bfn, bIsi, isT, isTs, tyN, tysOf, TN.is, bInt, bLen, bTup, items, add_int, sub_int, app_at, app_at0, app_put, app_put0, alloc_0, cturn, run_rt, run_nx, run_nil, h2, h1, h3, b1]
    · rw [run_cons]
      simp [R.bind_ok, R.calm_ok, q_cst, q_var, q_varK, q_bin, q_binK, q_binK2, q_neg, q_negK, q_not, q_and, q_andK_t, q_andK_f, q_or, q_orK_t, q_orK_f, q_cmp, q_cmpK, q_cmpK2, q_cmp2, q_cmp2K, q_cmp2K2, q_cmp2K3_t, q_cmp2K3_f, q_ite, q_iteK_t, q_iteK_f, q_tup, q_lst, q_dic, q_sub, q_subK, q_subK2, q_slc, q_slcK, q_slcK2, q_slcK3, q_rev, q_call, q_callK, q_bf, q_bfK, q_mt, q_mtK, q_mtK2, q_mt_int, q_lc, q_lcF, q_bfc, q_cfK, q_idx, q_idxK, q_nil, q_cons, q_consK, q_consK2, q_of, q_srcK_tup, q_srcK_str, q_srcK_ref, q_rng1, q_rng1K, q_rng2, q_rng2K, q_zip, q_zipK_tup, q_zipK_ref, q_enum, q_enumK, q_nm, q_tp, q_tpK, q_tpK_ref, q_sb, q_sbK, q_sbK2, q_unK, q_snil, q_scons, q_stoK, q_tnil, q_tcons, q_evtK_t, q_evtK_f, q_mk, q_evcK, q_asg, q_asgK, q_nxK, q_aug, q_augK, q_augK2, q_augK3, q_ife, q_ifeK_t, q_ifeK_f, q_for, q_forG, q_ret, q_retK, q_retn, q_expr, q_dropK, q_pass, q_brk, q_cont, q_try, q_xnil, q_xcons, q_nx, q_rt, q_bk, q_ct, q_tst, q_tstK, q_fin_rt, q_fin_nx, q_t0, q_l0, q_t1, q_l1, q_t2, q_l2, q_t3, q_l3, q_t4, q_l4, q_t5, q_l5, q_t6, q_l6, q_t7, q_l7, q_t8, q_l8, q_t9, q_l9, q_t10, q_l10, q_t11, q_l11, q_t12, q_l12, q_t13, q_l13, q_t14, q_l14, q_t15, q_l15, q_t16, q_l16, q_t17, q_l17, q_t18, q_l18, q_t19, q_l19, q_notK, gets, sets, wipes, cmpop, ofB, isv, eqh_int, eqh_str, eqh_bl, bfn, bIsi, isT, isTs, tyN, tysOf, TN.is, bInt, bLen, bTup, items, add_int, sub_int, app_at, app_at0, app_put, app_put0, alloc_0, cturn, run_rt, run_nx, run_nil, h2, h1, b1]
theorem bl_tup {xs : List W} : bLen (.tup xs) h = .ok (.int (xs.length : Int)) h := rfl
theorem tyN_of {x : W} (e : (tyN x h).isSome = true) : ∃ n, tyN x h = some n := Option.isSome_iff_exists.mp e
theorem TN.bl_int : ∀ n : TN, TN.is n .bool = true → TN.is n .int = true := by intro n; cases n <;> decide
theorem fits_bl {a b : W} {n m : TN} (ea : tyN a h = some n) (eb : tyN b h = some m) (hn : n.is .int = true) (hm : m.is .int = true) (hb : (n.is .bool || m.is .bool) = true) : call kd P (d + 1) F_fits_double [a, b] h = .ok (.bl false) h := by
  rw [call_run h_fits_double rfl]
  show fin (runs (call kd P d) kd c_fits_double.body [some a, some b] h) = _
  simp only [c_fits_double]
  have ia := isi_ok (t := .bool) ea
  have ib := isi_ok (t := .bool) eb
  cases z : n.is .bool with
  | true =>
    rw [z] at ia
    rw [run_cons]
    simp [R.bind_ok, R.calm_ok, q_cst, q_var, q_varK, q_bin, q_binK, q_binK2, q_neg, q_negK, q_not, q_and, q_andK_t, q_andK_f, q_or, q_orK_t, q_orK_f, q_cmp, q_cmpK, q_cmpK2, q_cmp2, q_cmp2K, q_cmp2K2, q_cmp2K3_t, q_cmp2K3_f, q_ite, q_iteK_t, q_iteK_f, q_tup, q_lst, q_dic, q_sub, q_subK, q_subK2, q_slc, q_slcK, q_slcK2, q_slcK3, q_rev, q_call, q_callK, q_bf, q_bfK, q_mt, q_mtK, q_mtK2, q_mt_int, q_lc, q_lcF, q_bfc, q_cfK, q_idx, q_idxK, q_nil, q_cons, q_consK, q_consK2, q_of, q_srcK_tup, q_srcK_str, q_srcK_ref, q_rng1, q_rng1K, q_rng2, q_rng2K, q_zip, q_zipK_tup, q_zipK_ref, q_enum, q_enumK, q_nm, q_tp, q_tpK, q_tpK_ref, q_sb, q_sbK, q_sbK2, q_unK, q_snil, q_scons, q_stoK, q_tnil, q_tcons, q_evtK_t, q_evtK_f, q_mk, q_evcK, q_asg, q_asgK, q_nxK, q_aug, q_augK, q_augK2, q_augK3, q_ife, q_ifeK_t, q_ifeK_f, q_for, q_forG, q_ret, q_retK, q_retn, q_expr, q_dropK, q_pass, q_brk, q_cont, q_try, q_xnil, q_xcons, q_nx, q_rt, q_bk, q_ct, q_tst, q_tstK, q_fin_rt, q_fin_nx, q_t0, q_l0, q_t1, q_l1, q_t2, q_l2, q_t3, q_l3, q_t4, q_l4, q_t5, q_l5, q_t6, q_l6, q_t7, q_l7, q_t8, q_l8, q_t9, q_l9, q_t10, q_l10, q_t11, q_l11, q_t12, q_l12, q_t13, q_l13, q_t14, q_l14, q_t15, q_l15, q_t16, q_l16, q_t17, q_l17, q_t18, q_l18, q_t19, q_l19, q_notK, gets, sets, wipes, cmpop, ofB, isv, eqh_int, eqh_str, eqh_bl, bfn, bInt, bLen, bTup, items, add_int, sub_int, app_at, app_at0, app_put, app_put0, alloc_0, cturn, run_rt, run_nx, run_nil, ia]
  | false =>
    rw [z] at ia hb
    have z2 : m.is .bool = true := hb
    rw [z2] at ib
    rw [run_cons]
    simp [R.bind_ok, R.calm_ok, q_cst, q_var, q_varK, q_bin, q_binK, q_binK2, q_neg, q_negK, q_not, q_and, q_andK_t, q_andK_f, q_or, q_orK_t, q_orK_f, q_cmp, q_cmpK, q_cmpK2, q_cmp2, q_cmp2K, q_cmp2K2, q_cmp2K3_t, q_cmp2K3_f, q_ite, q_iteK_t, q_iteK_f, q_tup, q_lst, q_dic, q_sub, q_subK, q_subK2, q_slc, q_slcK, q_slcK2, q_slcK3, q_rev, q_call, q_callK, q_bf, q_bfK, q_mt, q_mtK, q_mtK2, q_mt_int, q_lc, q_lcF, q_bfc, q_cfK, q_idx, q_idxK, q_nil, q_cons, q_consK, q_consK2, q_of, q_srcK_tup, q_srcK_str, q_srcK_ref, q_rng1, q_rng1K, q_rng2, q_rng2K, q_zip, q_zipK_tup, q_zipK_ref, q_enum, q_enumK, q_nm, q_tp, q_tpK, q_tpK_ref, q_sb, q_sbK, q_sbK2, q_unK, q_snil, q_scons, q_stoK, q_tnil, q_tcons, q_evtK_t, q_evtK_f, q_mk, q_evcK, q_asg, q_asgK, q_nxK, q_aug, q_augK, q_augK2, q_augK3, q_ife, q_ifeK_t, q_ifeK_f, q_for, q_forG, q_ret, q_retK, q_retn, q_expr, q_dropK, q_pass, q_brk, q_cont, q_try, q_xnil, q_xcons, q_nx, q_rt, q_bk, q_ct, q_tst, q_tstK, q_fin_rt, q_fin_nx, q_t0, q_l0, q_t1, q_l1, q_t2, q_l2, q_t3, q_l3, q_t4, q_l4, q_t5, q_l5, q_t6, q_l6, q_t7, q_l7, q_t8, q_l8, q_t9, q_l9, q_t10, q_l10, q_t11, q_l11, q_t12, q_l12, q_t13, q_l13, q_t14, q_l14, q_t15, q_l15, q_t16, q_l16, q_t17, q_l17, q_t18, q_l18, q_t19, q_l19, q_notK, gets, sets, wipes, cmpop, ofB, isv, eqh_int, eqh_str, eqh_bl, bfn, bInt, bLen, bTup, items, add_int, sub_int, app_at, app_at0, app_put, app_put0, alloc_0, cturn, run_rt, run_nx, run_nil, ia, ib]
theorem in23 (i : Int) : isIn kd h (.int i) (.tup [.int 2, .int 3]) = some (i == 2 || i == 3) := by
  simp [isIn, anyEq, isFlat]
  rw [BEq.comm (a := (2 : Int)), BEq.comm (a := (3 : Int))]
theorem inW (b : List Nat) : isIn kd h (.str b) (.tup [.str [45, 48], .str [105, 110, 102], .str [45, 105, 110, 102], .str [110, 97, 110]]) = some (wordB b) := by
  simp [isIn, anyEq, isFlat, wordB, Bool.or_assoc]
  rw [BEq.comm (b := b), BEq.comm (b := b), BEq.comm (b := b), BEq.comm (b := b)]
theorem strN {a : W} {n : TN} (e : tyN a h = some n) : (∃ s, a = .str s) ∨ (n.is .str = false ∧ ∀ s, a ≠ .str s) := by
  cases a with
  | str s => exact .inl ⟨s, rfl⟩
  | ref r =>
    refine .inr ⟨?_, fun _ z => by cases z⟩
    simp only [tyN] at e
    split at e <;> first | (cases e; rfl) | cases e
  | non => cases e; exact .inr ⟨rfl, fun _ z => by cases z⟩
  | bl _ => cases e; exact .inr ⟨rfl, fun _ z => by cases z⟩
  | int _ => cases e; exact .inr ⟨rfl, fun _ z => by cases z⟩
  | tup _ => cases e; exact .inr ⟨rfl, fun _ z => by cases z⟩
  | _ => cases e
theorem intN {a : W} {n : TN} (e : tyN a h = some n) : (∃ i, a = .int i ∧ n = .int) ∨ (∃ b, a = .bl b ∧ n = .bool) ∨ (n.is .int = false ∧ (∀ i, a ≠ .int i) ∧ ∀ b, a ≠ .bl b) := by
  cases a with
  | int i => cases e; exact .inl ⟨i, rfl, rfl⟩
  | bl b => cases e; exact .inr (.inl ⟨b, rfl, rfl⟩)
  | ref r =>
    refine .inr (.inr ⟨?_, fun _ z => (by cases z), fun _ z => by cases z⟩)
    simp only [tyN] at e
    split at e <;> first | (cases e; rfl) | cases e
  | non => cases e; exact .inr (.inr ⟨rfl, fun _ z => (by cases z), fun _ z => by cases z⟩)
  | str _ => cases e; exact .inr (.inr ⟨rfl, fun _ z => (by cases z), fun _ z => by cases z⟩)
  | tup _ => cases e; exact .inr (.inr ⟨rfl, fun _ z => (by cases z), fun _ z => by cases z⟩)
  | _ => cases e
theorem real2 {a b : W} (h : ∀ s t, a = .str s → b = .str t → (s == REAL && wordB t) = false) : isRealB (.tup [a, b]) = false := by
  unfold isRealB
  split
  · rename_i s t e
    cases e
    exact h _ _ rfl rfl
  · rename_i e
    cases e
  · rfl
theorem real3 {a b c : W} (h : ∀ s n k, a = .str s → b = .int n → c = .int k → (s == REAL && fitsB n k) = false) : isRealB (.tup [a, b, c]) = false := by
  unfold isRealB
  split
  · rename_i e
    cases e
  · rename_i s n k e
    cases e
    exact h _ _ _ rfl rfl rfl
  · rfl
theorem is_real_t {x : W} (hx : okV h x = true) : call kd P (d + 3) F_is_real [x] h = .ok (.bl (isRealB x)) h := by
  rw [call_run h_is_real rfl]
  show fin (runs (call kd P (d + 2)) kd (c_is_real F_fits_double F_is_integer).body [some x] h) = _
  simp only [c_is_real]
  have go : ∀ (w : W) (n : TN), tyN w h = some n → n.is .tuple = false → isRealB w = false → fin (runs (call kd P (d + 2)) kd (c_is_real F_fits_double F_is_integer).body [some w] h) = .ok (.bl (isRealB w)) h := by
    intro w n e1 e2 e3
    simp only [c_is_real]
    have i1 := isi_ok (t := .tuple) e1
    rw [e2] at i1
    rw [run_cons]
    simp [R.bind_ok, R.calm_ok, q_cst, q_var, q_varK, q_bin, q_binK, q_binK2, q_neg, q_negK, q_not, q_and, q_andK_t, q_andK_f, q_or, q_orK_t, q_orK_f, q_cmp, q_cmpK, q_cmpK2, q_cmp2, q_cmp2K, q_cmp2K2, q_cmp2K3_t, q_cmp2K3_f, q_ite, q_iteK_t, q_iteK_f, q_tup, q_lst, q_dic, q_sub, q_subK, q_subK2, q_slc, q_slcK, q_slcK2, q_slcK3, q_rev, q_call, q_callK, q_bf, q_bfK, q_mt, q_mtK, q_mtK2, q_mt_int, q_lc, q_lcF, q_bfc, q_cfK, q_idx, q_idxK, q_nil, q_cons, q_consK, q_consK2, q_of, q_srcK_tup, q_srcK_str, q_srcK_ref, q_rng1, q_rng1K, q_rng2, q_rng2K, q_zip, q_zipK_tup, q_zipK_ref, q_enum, q_enumK, q_nm, q_tp, q_tpK, q_tpK_ref, q_sb, q_sbK, q_sbK2, q_unK, q_snil, q_scons, q_stoK, q_tnil, q_tcons, q_evtK_t, q_evtK_f, q_mk, q_evcK, q_asg, q_asgK, q_nxK, q_aug, q_augK, q_augK2, q_augK3, q_ife, q_ifeK_t, q_ifeK_f, q_for, q_forG, q_ret, q_retK, q_retn, q_expr, q_dropK, q_pass, q_brk, q_cont, q_try, q_xnil, q_xcons, q_nx, q_rt, q_bk, q_ct, q_tst, q_tstK, q_fin_rt, q_fin_nx, q_t0, q_l0, q_t1, q_l1, q_t2, q_l2, q_t3, q_l3, q_t4, q_l4, q_t5, q_l5, q_t6, q_l6, q_t7, q_l7, q_t8, q_l8, q_t9, q_l9, q_t10, q_l10, q_t11, q_l11, q_t12, q_l12, q_t13, q_l13, q_t14, q_l14, q_t15, q_l15, q_t16, q_l16, q_t17, q_l17, q_t18, q_l18, q_t19, q_l19, q_notK, gets, sets, wipes, cmpop, ofB, isv, eqh_int, eqh_str, eqh_bl, bfn, bInt, bLen, bTup, items, add_int, sub_int, app_at, app_at0, app_put, app_put0, alloc_0, cturn, run_rt, run_nx, run_nil, i1, e3]
  match x, hx with
  | .tup xs, hx =>
    simp only [okV] at hx
    have i1 : bIsi (.tup xs) (.ty .tuple) h = .ok (.bl true) h := rfl
    have at_ : ∀ (i : Nat) (y : W), xs[i]? = some y → ∃ n, tyN y h = some n := fun i y e => tyN_of (List.all_eq_true.mp hx y (List.mem_of_getElem? e))
    match xs, at_ with
    | [], at_ =>
      have i2 : bLen (.tup []) h = .ok (.int 0) h := rfl
      have e3 : isRealB (.tup []) = false := rfl
      rw [run_cons]
      simp [R.bind_ok, R.calm_ok, q_cst, q_var, q_varK, q_bin, q_binK, q_binK2, q_neg, q_negK, q_not, q_and, q_andK_t, q_andK_f, q_or, q_orK_t, q_orK_f, q_cmp, q_cmpK, q_cmpK2, q_cmp2, q_cmp2K, q_cmp2K2, q_cmp2K3_t, q_cmp2K3_f, q_ite, q_iteK_t, q_iteK_f, q_tup, q_lst, q_dic, q_sub, q_subK, q_subK2, q_slc, q_slcK, q_slcK2, q_slcK3, q_rev, q_call, q_callK, q_bf, q_bfK, q_mt, q_mtK, q_mtK2, q_mt_int, q_lc, q_lcF, q_bfc, q_cfK, q_idx, q_idxK, q_nil, q_cons, q_consK, q_consK2, q_of, q_srcK_tup, q_srcK_str, q_srcK_ref, q_rng1, q_rng1K, q_rng2, q_rng2K, q_zip, q_zipK_tup, q_zipK_ref, q_enum, q_enumK, q_nm, q_tp, q_tpK, q_tpK_ref, q_sb, q_sbK, q_sbK2, q_unK, q_snil, q_scons, q_stoK, q_tnil, q_tcons, q_evtK_t, q_evtK_f, q_mk, q_evcK, q_asg, q_asgK, q_nxK, q_aug, q_augK, q_augK2, q_augK3, q_ife, q_ifeK_t, q_ifeK_f, q_for, q_forG, q_ret, q_retK, q_retn, q_expr, q_dropK, q_pass, q_brk, q_cont, q_try, q_xnil, q_xcons, q_nx, q_rt, q_bk, q_ct, q_tst, q_tstK, q_fin_rt, q_fin_nx, q_t0, q_l0, q_t1, q_l1, q_t2, q_l2, q_t3, q_l3, q_t4, q_l4, q_t5, q_l5, q_t6, q_l6, q_t7, q_l7, q_t8, q_l8, q_t9, q_l9, q_t10, q_l10, q_t11, q_l11, q_t12, q_l12, q_t13, q_l13, q_t14, q_l14, q_t15, q_l15, q_t16, q_l16, q_t17, q_l17, q_t18, q_l18, q_t19, q_l19, q_notK, gets, sets, wipes, cmpop, ofB, isv, eqh_int, eqh_str, eqh_bl, bfn, bInt, bLen, bTup, items, add_int, sub_int, app_at, app_at0, app_put, app_put0, alloc_0, cturn, run_rt, run_nx, run_nil, i1, i2, in23, e3]
    | [a], at_ =>
      have i2 : bLen (.tup [a]) h = .ok (.int 1) h := rfl
      have e3 : isRealB (.tup [a]) = false := by cases a <;> rfl
      rw [run_cons]
      simp [R.bind_ok, R.calm_ok, q_cst, q_var, q_varK, q_bin, q_binK, q_binK2, q_neg, q_negK, q_not, q_and, q_andK_t, q_andK_f, q_or, q_orK_t, q_orK_f, q_cmp, q_cmpK, q_cmpK2, q_cmp2, q_cmp2K, q_cmp2K2, q_cmp2K3_t, q_cmp2K3_f, q_ite, q_iteK_t, q_iteK_f, q_tup, q_lst, q_dic, q_sub, q_subK, q_subK2, q_slc, q_slcK, q_slcK2, q_slcK3, q_rev, q_call, q_callK, q_bf, q_bfK, q_mt, q_mtK, q_mtK2, q_mt_int, q_lc, q_lcF, q_bfc, q_cfK, q_idx, q_idxK, q_nil, q_cons, q_consK, q_consK2, q_of, q_srcK_tup, q_srcK_str, q_srcK_ref, q_rng1, q_rng1K, q_rng2, q_rng2K, q_zip, q_zipK_tup, q_zipK_ref, q_enum, q_enumK, q_nm, q_tp, q_tpK, q_tpK_ref, q_sb, q_sbK, q_sbK2, q_unK, q_snil, q_scons, q_stoK, q_tnil, q_tcons, q_evtK_t, q_evtK_f, q_mk, q_evcK, q_asg, q_asgK, q_nxK, q_aug, q_augK, q_augK2, q_augK3, q_ife, q_ifeK_t, q_ifeK_f, q_for, q_forG, q_ret, q_retK, q_retn, q_expr, q_dropK, q_pass, q_brk, q_cont, q_try, q_xnil, q_xcons, q_nx, q_rt, q_bk, q_ct, q_tst, q_tstK, q_fin_rt, q_fin_nx, q_t0, q_l0, q_t1, q_l1, q_t2, q_l2, q_t3, q_l3, q_t4, q_l4, q_t5, q_l5, q_t6, q_l6, q_t7, q_l7, q_t8, q_l8, q_t9, q_l9, q_t10, q_l10, q_t11, q_l11, q_t12, q_l12, q_t13, q_l13, q_t14, q_l14, q_t15, q_l15, q_t16, q_l16, q_t17, q_l17, q_t18, q_l18, q_t19, q_l19, q_notK, gets, sets, wipes, cmpop, ofB, isv, eqh_int, eqh_str, eqh_bl, bfn, bInt, bLen, bTup, items, add_int, sub_int, app_at, app_at0, app_put, app_put0, alloc_0, cturn, run_rt, run_nx, run_nil, i1, i2, in23, e3]
    | a :: b :: c :: e :: r, at_ =>
      have i2 : bLen (.tup (a :: b :: c :: e :: r)) h = .ok (.int ((a :: b :: c :: e :: r).length : Int)) h := rfl
      have e3 : isRealB (.tup (a :: b :: c :: e :: r)) = false := by cases a <;> cases b <;> cases c <;> rfl
      have l2 : (((r.length : Int) + 1 + 1 + 1 + 1) == 2) = false := by simp; omega
      have l3 : (((r.length : Int) + 1 + 1 + 1 + 1) == 3) = false := by simp; omega
      have in0 : isIn kd h (.int ((r.length : Int) + 1 + 1 + 1 + 1)) (.tup [.int 2, .int 3]) = some false := by rw [in23, l2, l3]; rfl
      rw [run_cons]
      simp [R.bind_ok, R.calm_ok, q_cst, q_var, q_varK, q_bin, q_binK, q_binK2, q_neg, q_negK, q_not, q_and, q_andK_t, q_andK_f, q_or, q_orK_t, q_orK_f, q_cmp, q_cmpK, q_cmpK2, q_cmp2, q_cmp2K, q_cmp2K2, q_cmp2K3_t, q_cmp2K3_f, q_ite, q_iteK_t, q_iteK_f, q_tup, q_lst, q_dic, q_sub, q_subK, q_subK2, q_slc, q_slcK, q_slcK2, q_slcK3, q_rev, q_call, q_callK, q_bf, q_bfK, q_mt, q_mtK, q_mtK2, q_mt_int, q_lc, q_lcF, q_bfc, q_cfK, q_idx, q_idxK, q_nil, q_cons, q_consK, q_consK2, q_of, q_srcK_tup, q_srcK_str, q_srcK_ref, q_rng1, q_rng1K, q_rng2, q_rng2K, q_zip, q_zipK_tup, q_zipK_ref, q_enum, q_enumK, q_nm, q_tp, q_tpK, q_tpK_ref, q_sb, q_sbK, q_sbK2, q_unK, q_snil, q_scons, q_stoK, q_tnil, q_tcons, q_evtK_t, q_evtK_f, q_mk, q_evcK, q_asg, q_asgK, q_nxK, q_aug, q_augK, q_augK2, q_augK3, q_ife, q_ifeK_t, q_ifeK_f, q_for, q_forG, q_ret, q_retK, q_retn, q_expr, q_dropK, q_pass, q_brk, q_cont, q_try, q_xnil, q_xcons, q_nx, q_rt, q_bk, q_ct, q_tst, q_tstK, q_fin_rt, q_fin_nx, q_t0, q_l0, q_t1, q_l1, q_t2, q_l2, q_t3, q_l3, q_t4, q_l4, q_t5, q_l5, q_t6, q_l6, q_t7, q_l7, q_t8, q_l8, q_t9, q_l9, q_t10, q_l10, q_t11, q_l11, q_t12, q_l12, q_t13, q_l13, q_t14, q_l14, q_t15, q_l15, q_t16, q_l16, q_t17, q_l17, q_t18, q_l18, q_t19, q_l19, q_notK, gets, sets, wipes, cmpop, ofB, isv, eqh_int, eqh_str, eqh_bl, bfn, bInt, bLen, bTup, items, add_int, sub_int, app_at, app_at0, app_put, app_put0, alloc_0, cturn, run_rt, run_nx, run_nil, i1, in0, e3]
    | [a, b], at_ =>
      obtain ⟨n, e1⟩ := at_ 0 a rfl
      obtain ⟨m, e2⟩ := at_ 1 b rfl
      have i2 : bLen (.tup [a, b]) h = .ok (.int 2) h := rfl
      have s1 : subv kd (.tup [a, b]) (.int 0) h = .ok a h := rfl
      have s2 : subv kd (.tup [a, b]) (.int 1) h = .ok b h := rfl
      have i3 := isi_ok (t := .str) e1
      have i4 := isi_ok (t := .str) e2
      rcases strN e1 with ⟨s, rfl⟩ | ⟨f1, f2⟩
      · by_cases hs : s = REAL
        · have hs1 : (s == [114, 101, 97, 108]) = true := by simpa [REAL] using hs
          cases e1
          rcases strN e2 with ⟨t, rfl⟩ | ⟨f3, f4⟩
          · cases e2
            have w := inW (kd := kd) (h := h) t
            have e3 : isRealB (.tup [.str s, .str t]) = wordB t := by simp [isRealB, hs]
            rw [show TN.is .str .str = true from rfl] at i3 i4
            rw [run_cons]
            simp [R.bind_ok, R.calm_ok, q_cst, q_var, q_varK, q_bin, q_binK, q_binK2, q_neg, q_negK, q_not, q_and, q_andK_t, q_andK_f, q_or, q_orK_t, q_orK_f, q_cmp, q_cmpK, q_cmpK2, q_cmp2, q_cmp2K, q_cmp2K2, q_cmp2K3_t, q_cmp2K3_f, q_ite, q_iteK_t, q_iteK_f, q_tup, q_lst, q_dic, q_sub, q_subK, q_subK2, q_slc, q_slcK, q_slcK2, q_slcK3, q_rev, q_call, q_callK, q_bf, q_bfK, q_mt, q_mtK, q_mtK2, q_mt_int, q_lc, q_lcF, q_bfc, q_cfK, q_idx, q_idxK, q_nil, q_cons, q_consK, q_consK2, q_of, q_srcK_tup, q_srcK_str, q_srcK_ref, q_rng1, q_rng1K, q_rng2, q_rng2K, q_zip, q_zipK_tup, q_zipK_ref, q_enum, q_enumK, q_nm, q_tp, q_tpK, q_tpK_ref, q_sb, q_sbK, q_sbK2, q_unK, q_snil, q_scons, q_stoK, q_tnil, q_tcons, q_evtK_t, q_evtK_f, q_mk, q_evcK, q_asg, q_asgK, q_nxK, q_aug, q_augK, q_augK2, q_augK3, q_ife, q_ifeK_t, q_ifeK_f, q_for, q_forG, q_ret, q_retK, q_retn, q_expr, q_dropK, q_pass, q_brk, q_cont, q_try, q_xnil, q_xcons, q_nx, q_rt, q_bk, q_ct, q_tst, q_tstK, q_fin_rt, q_fin_nx, q_t0, q_l0, q_t1, q_l1, q_t2, q_l2, q_t3, q_l3, q_t4, q_l4, q_t5, q_l5, q_t6, q_l6, q_t7, q_l7, q_t8, q_l8, q_t9, q_l9, q_t10, q_l10, q_t11, q_l11, q_t12, q_l12, q_t13, q_l13, q_t14, q_l14, q_t15, q_l15, q_t16, q_l16, q_t17, q_l17, q_t18, q_l18, q_t19, q_l19, q_notK, gets, sets, wipes, cmpop, ofB, isv, eqh_int, eqh_str, eqh_bl, bfn, bInt, bLen, bTup, items, add_int, sub_int, app_at, app_at0, app_put, app_put0, alloc_0, cturn, i1, i2, i3, s1, in23, hs1]
            rw [run_nx]
            rw [run_cons]
            simp [R.bind_ok, R.calm_ok, q_cst, q_var, q_varK, q_bin, q_binK, q_binK2, q_neg, q_negK, q_not, q_and, q_andK_t, q_andK_f, q_or, q_orK_t, q_orK_f, q_cmp, q_cmpK, q_cmpK2, q_cmp2, q_cmp2K, q_cmp2K2, q_cmp2K3_t, q_cmp2K3_f, q_ite, q_iteK_t, q_iteK_f, q_tup, q_lst, q_dic, q_sub, q_subK, q_subK2, q_slc, q_slcK, q_slcK2, q_slcK3, q_rev, q_call, q_callK, q_bf, q_bfK, q_mt, q_mtK, q_mtK2, q_mt_int, q_lc, q_lcF, q_bfc, q_cfK, q_idx, q_idxK, q_nil, q_cons, q_consK, q_consK2, q_of, q_srcK_tup, q_srcK_str, q_srcK_ref, q_rng1, q_rng1K, q_rng2, q_rng2K, q_zip, q_zipK_tup, q_zipK_ref, q_enum, q_enumK, q_nm, q_tp, q_tpK, q_tpK_ref, q_sb, q_sbK, q_sbK2, q_unK, q_snil, q_scons, q_stoK, q_tnil, q_tcons, q_evtK_t, q_evtK_f, q_mk, q_evcK, q_asg, q_asgK, q_nxK, q_aug, q_augK, q_augK2, q_augK3, q_ife, q_ifeK_t, q_ifeK_f, q_for, q_forG, q_ret, q_retK, q_retn, q_expr, q_dropK, q_pass, q_brk, q_cont, q_try, q_xnil, q_xcons, q_nx, q_rt, q_bk, q_ct, q_tst, q_tstK, q_fin_rt, q_fin_nx, q_t0, q_l0, q_t1, q_l1, q_t2, q_l2, q_t3, q_l3, q_t4, q_l4, q_t5, q_l5, q_t6, q_l6, q_t7, q_l7, q_t8, q_l8, q_t9, q_l9, q_t10, q_l10, q_t11, q_l11, q_t12, q_l12, q_t13, q_l13, q_t14, q_l14, q_t15, q_l15, q_t16, q_l16, q_t17, q_l17, q_t18, q_l18, q_t19, q_l19, q_notK, gets, sets, wipes, cmpop, ofB, isv, eqh_int, eqh_str, eqh_bl, bfn, bInt, bLen, bTup, items, add_int, sub_int, app_at, app_at0, app_put, app_put0, alloc_0, cturn, run_rt, run_nx, run_nil, i1, i2, i4, s2, w, e3]
          · have e3 : isRealB (.tup [.str s, b]) = false := real2 fun _ t _ z => absurd z (f4 t)
            rw [show TN.is .str .str = true from rfl] at i3
            rw [f3] at i4
            rw [run_cons]
            simp [R.bind_ok, R.calm_ok, q_cst, q_var, q_varK, q_bin, q_binK, q_binK2, q_neg, q_negK, q_not, q_and, q_andK_t, q_andK_f, q_or, q_orK_t, q_orK_f, q_cmp, q_cmpK, q_cmpK2, q_cmp2, q_cmp2K, q_cmp2K2, q_cmp2K3_t, q_cmp2K3_f, q_ite, q_iteK_t, q_iteK_f, q_tup, q_lst, q_dic, q_sub, q_subK, q_subK2, q_slc, q_slcK, q_slcK2, q_slcK3, q_rev, q_call, q_callK, q_bf, q_bfK, q_mt, q_mtK, q_mtK2, q_mt_int, q_lc, q_lcF, q_bfc, q_cfK, q_idx, q_idxK, q_nil, q_cons, q_consK, q_consK2, q_of, q_srcK_tup, q_srcK_str, q_srcK_ref, q_rng1, q_rng1K, q_rng2, q_rng2K, q_zip, q_zipK_tup, q_zipK_ref, q_enum, q_enumK, q_nm, q_tp, q_tpK, q_tpK_ref, q_sb, q_sbK, q_sbK2, q_unK, q_snil, q_scons, q_stoK, q_tnil, q_tcons, q_evtK_t, q_evtK_f, q_mk, q_evcK, q_asg, q_asgK, q_nxK, q_aug, q_augK, q_augK2, q_augK3, q_ife, q_ifeK_t, q_ifeK_f, q_for, q_forG, q_ret, q_retK, q_retn, q_expr, q_dropK, q_pass, q_brk, q_cont, q_try, q_xnil, q_xcons, q_nx, q_rt, q_bk, q_ct, q_tst, q_tstK, q_fin_rt, q_fin_nx, q_t0, q_l0, q_t1, q_l1, q_t2, q_l2, q_t3, q_l3, q_t4, q_l4, q_t5, q_l5, q_t6, q_l6, q_t7, q_l7, q_t8, q_l8, q_t9, q_l9, q_t10, q_l10, q_t11, q_l11, q_t12, q_l12, q_t13, q_l13, q_t14, q_l14, q_t15, q_l15, q_t16, q_l16, q_t17, q_l17, q_t18, q_l18, q_t19, q_l19, q_notK, gets, sets, wipes, cmpop, ofB, isv, eqh_int, eqh_str, eqh_bl, bfn, bInt, bLen, bTup, items, add_int, sub_int, app_at, app_at0, app_put, app_put0, alloc_0, cturn, i1, i2, i3, s1, in23, hs1]
            rw [run_nx]
            rw [run_cons]
            simp [R.bind_ok, R.calm_ok, q_cst, q_var, q_varK, q_bin, q_binK, q_binK2, q_neg, q_negK, q_not, q_and, q_andK_t, q_andK_f, q_or, q_orK_t, q_orK_f, q_cmp, q_cmpK, q_cmpK2, q_cmp2, q_cmp2K, q_cmp2K2, q_cmp2K3_t, q_cmp2K3_f, q_ite, q_iteK_t, q_iteK_f, q_tup, q_lst, q_dic, q_sub, q_subK, q_subK2, q_slc, q_slcK, q_slcK2, q_slcK3, q_rev, q_call, q_callK, q_bf, q_bfK, q_mt, q_mtK, q_mtK2, q_mt_int, q_lc, q_lcF, q_bfc, q_cfK, q_idx, q_idxK, q_nil, q_cons, q_consK, q_consK2, q_of, q_srcK_tup, q_srcK_str, q_srcK_ref, q_rng1, q_rng1K, q_rng2, q_rng2K, q_zip, q_zipK_tup, q_zipK_ref, q_enum, q_enumK, q_nm, q_tp, q_tpK, q_tpK_ref, q_sb, q_sbK, q_sbK2, q_unK, q_snil, q_scons, q_stoK, q_tnil, q_tcons, q_evtK_t, q_evtK_f, q_mk, q_evcK, q_asg, q_asgK, q_nxK, q_aug, q_augK, q_augK2, q_augK3, q_ife, q_ifeK_t, q_ifeK_f, q_for, q_forG, q_ret, q_retK, q_retn, q_expr, q_dropK, q_pass, q_brk, q_cont, q_try, q_xnil, q_xcons, q_nx, q_rt, q_bk, q_ct, q_tst, q_tstK, q_fin_rt, q_fin_nx, q_t0, q_l0, q_t1, q_l1, q_t2, q_l2, q_t3, q_l3, q_t4, q_l4, q_t5, q_l5, q_t6, q_l6, q_t7, q_l7, q_t8, q_l8, q_t9, q_l9, q_t10, q_l10, q_t11, q_l11, q_t12, q_l12, q_t13, q_l13, q_t14, q_l14, q_t15, q_l15, q_t16, q_l16, q_t17, q_l17, q_t18, q_l18, q_t19, q_l19, q_notK, gets, sets, wipes, cmpop, ofB, isv, eqh_int, eqh_str, eqh_bl, bfn, bInt, bLen, bTup, items, add_int, sub_int, app_at, app_at0, app_put, app_put0, alloc_0, cturn, run_rt, run_nx, run_nil, i1, i2, i4, s2, e3]
        · have hs1 : (s == [114, 101, 97, 108]) = false := by simpa [REAL] using hs
          have e3 : isRealB (.tup [.str s, b]) = false := real2 fun s' t z _ => by cases z; simp [hs]
          cases e1
          rw [show TN.is .str .str = true from rfl] at i3
          rw [run_cons]
          simp [R.bind_ok, R.calm_ok, q_cst, q_var, q_varK, q_bin, q_binK, q_binK2, q_neg, q_negK, q_not, q_and, q_andK_t, q_andK_f, q_or, q_orK_t, q_orK_f, q_cmp, q_cmpK, q_cmpK2, q_cmp2, q_cmp2K, q_cmp2K2, q_cmp2K3_t, q_cmp2K3_f, q_ite, q_iteK_t, q_iteK_f, q_tup, q_lst, q_dic, q_sub, q_subK, q_subK2, q_slc, q_slcK, q_slcK2, q_slcK3, q_rev, q_call, q_callK, q_bf, q_bfK, q_mt, q_mtK, q_mtK2, q_mt_int, q_lc, q_lcF, q_bfc, q_cfK, q_idx, q_idxK, q_nil, q_cons, q_consK, q_consK2, q_of, q_srcK_tup, q_srcK_str, q_srcK_ref, q_rng1, q_rng1K, q_rng2, q_rng2K, q_zip, q_zipK_tup, q_zipK_ref, q_enum, q_enumK, q_nm, q_tp, q_tpK, q_tpK_ref, q_sb, q_sbK, q_sbK2, q_unK, q_snil, q_scons, q_stoK, q_tnil, q_tcons, q_evtK_t, q_evtK_f, q_mk, q_evcK, q_asg, q_asgK, q_nxK, q_aug, q_augK, q_augK2, q_augK3, q_ife, q_ifeK_t, q_ifeK_f, q_for, q_forG, q_ret, q_retK, q_retn, q_expr, q_dropK, q_pass, q_brk, q_cont, q_try, q_xnil, q_xcons, q_nx, q_rt, q_bk, q_ct, q_tst, q_tstK, q_fin_rt, q_fin_nx, q_t0, q_l0, q_t1, q_l1, q_t2, q_l2, q_t3, q_l3, q_t4, q_l4, q_t5, q_l5, q_t6, q_l6, q_t7, q_l7, q_t8, q_l8, q_t9, q_l9, q_t10, q_l10, q_t11, q_l11, q_t12, q_l12, q_t13, q_l13, q_t14, q_l14, q_t15, q_l15, q_t16, q_l16, q_t17, q_l17, q_t18, q_l18, q_t19, q_l19, q_notK, gets, sets, wipes, cmpop, ofB, isv, eqh_int, eqh_str, eqh_bl, bfn, bInt, bLen, bTup, items, add_int, sub_int, app_at, app_at0, app_put, app_put0, alloc_0, cturn, run_rt, run_nx, run_nil, i1, i2, i3, s1, in23, hs1, e3]
      · have e3 : isRealB (.tup [a, b]) = false := real2 fun s t z _ => absurd z (f2 s)
        rw [f1] at i3
        rw [run_cons]
        simp [R.bind_ok, R.calm_ok, q_cst, q_var, q_varK, q_bin, q_binK, q_binK2, q_neg, q_negK, q_not, q_and, q_andK_t, q_andK_f, q_or, q_orK_t, q_orK_f, q_cmp, q_cmpK, q_cmpK2, q_cmp2, q_cmp2K, q_cmp2K2, q_cmp2K3_t, q_cmp2K3_f, q_ite, q_iteK_t, q_iteK_f, q_tup, q_lst, q_dic, q_sub, q_subK, q_subK2, q_slc, q_slcK, q_slcK2, q_slcK3, q_rev, q_call, q_callK, q_bf, q_bfK, q_mt, q_mtK, q_mtK2, q_mt_int, q_lc, q_lcF, q_bfc, q_cfK, q_idx, q_idxK, q_nil, q_cons, q_consK, q_consK2, q_of, q_srcK_tup, q_srcK_str, q_srcK_ref, q_rng1, q_rng1K, q_rng2, q_rng2K, q_zip, q_zipK_tup, q_zipK_ref, q_enum, q_enumK, q_nm, q_tp, q_tpK, q_tpK_ref, q_sb, q_sbK, q_sbK2, q_unK, q_snil, q_scons, q_stoK, q_tnil, q_tcons, q_evtK_t, q_evtK_f, q_mk, q_evcK, q_asg, q_asgK, q_nxK, q_aug, q_augK, q_augK2, q_augK3, q_ife, q_ifeK_t, q_ifeK_f, q_for, q_forG, q_ret, q_retK, q_retn, q_expr, q_dropK, q_pass, q_brk, q_cont, q_try, q_xnil, q_xcons, q_nx, q_rt, q_bk, q_ct, q_tst, q_tstK, q_fin_rt, q_fin_nx, q_t0, q_l0, q_t1, q_l1, q_t2, q_l2, q_t3, q_l3, q_t4, q_l4, q_t5, q_l5, q_t6, q_l6, q_t7, q_l7, q_t8, q_l8, q_t9, q_l9, q_t10, q_l10, q_t11, q_l11, q_t12, q_l12, q_t13, q_l13, q_t14, q_l14, q_t15, q_l15, q_t16, q_l16, q_t17, q_l17, q_t18, q_l18, q_t19, q_l19, q_notK, gets, sets, wipes, cmpop, ofB, isv, eqh_int, eqh_str, eqh_bl, bfn, bInt, bLen, bTup, items, add_int, sub_int, app_at, app_at0, app_put, app_put0, alloc_0, cturn, run_rt, run_nx, run_nil, i1, i2, i3, s1, in23, e3]
    | [a, b, c], at_ =>
      obtain ⟨n, e1⟩ := at_ 0 a rfl
      obtain ⟨m, e2⟩ := at_ 1 b rfl
      obtain ⟨l, e4⟩ := at_ 2 c rfl
      have i2 : bLen (.tup [a, b, c]) h = .ok (.int 3) h := rfl
      have s1 : subv kd (.tup [a, b, c]) (.int 0) h = .ok a h := rfl
      have s2 : subv kd (.tup [a, b, c]) (.int 1) h = .ok b h := rfl
      have s3 : subv kd (.tup [a, b, c]) (.int 2) h = .ok c h := rfl
      have i3 := isi_ok (t := .str) e1
      have i4 := is_integer_t (kd := kd) (P := P) (d := d + 1) e2
      have i5 := is_integer_t (kd := kd) (P := P) (d := d + 1) e4
      rcases strN e1 with ⟨s, rfl⟩ | ⟨f1, f2⟩
      · by_cases hs : s = REAL
        · have hs1 : (s == [114, 101, 97, 108]) = true := by simpa [REAL] using hs
          cases e1
          rw [show TN.is .str .str = true from rfl] at i3
          rw [run_cons]
          simp [R.bind_ok, R.calm_ok, q_cst, q_var, q_varK, q_bin, q_binK, q_binK2, q_neg, q_negK, q_not, q_and, q_andK_t, q_andK_f, q_or, q_orK_t, q_orK_f, q_cmp, q_cmpK, q_cmpK2, q_cmp2, q_cmp2K, q_cmp2K2, q_cmp2K3_t, q_cmp2K3_f, q_ite, q_iteK_t, q_iteK_f, q_tup, q_lst, q_dic, q_sub, q_subK, q_subK2, q_slc, q_slcK, q_slcK2, q_slcK3, q_rev, q_call, q_callK, q_bf, q_bfK, q_mt, q_mtK, q_mtK2, q_mt_int, q_lc, q_lcF, q_bfc, q_cfK, q_idx, q_idxK, q_nil, q_cons, q_consK, q_consK2, q_of, q_srcK_tup, q_srcK_str, q_srcK_ref, q_rng1, q_rng1K, q_rng2, q_rng2K, q_zip, q_zipK_tup, q_zipK_ref, q_enum, q_enumK, q_nm, q_tp, q_tpK, q_tpK_ref, q_sb, q_sbK, q_sbK2, q_unK, q_snil, q_scons, q_stoK, q_tnil, q_tcons, q_evtK_t, q_evtK_f, q_mk, q_evcK, q_asg, q_asgK, q_nxK, q_aug, q_augK, q_augK2, q_augK3, q_ife, q_ifeK_t, q_ifeK_f, q_for, q_forG, q_ret, q_retK, q_retn, q_expr, q_dropK, q_pass, q_brk, q_cont, q_try, q_xnil, q_xcons, q_nx, q_rt, q_bk, q_ct, q_tst, q_tstK, q_fin_rt, q_fin_nx, q_t0, q_l0, q_t1, q_l1, q_t2, q_l2, q_t3, q_l3, q_t4, q_l4, q_t5, q_l5, q_t6, q_l6, q_t7, q_l7, q_t8, q_l8, q_t9, q_l9, q_t10, q_l10, q_t11, q_l11, q_t12, q_l12, q_t13, q_l13, q_t14, q_l14, q_t15, q_l15, q_t16, q_l16, q_t17, q_l17, q_t18, q_l18, q_t19, q_l19, q_notK, gets, sets, wipes, cmpop, ofB, isv, eqh_int, eqh_str, eqh_bl, bfn, bInt, bLen, bTup, items, add_int, sub_int, app_at, app_at0, app_put, app_put0, alloc_0, cturn, i1, i2, i3, s1, in23, hs1]
          rw [run_nx]
          rw [run_cons]
          simp [R.bind_ok, R.calm_ok, q_cst, q_var, q_varK, q_bin, q_binK, q_binK2, q_neg, q_negK, q_not, q_and, q_andK_t, q_andK_f, q_or, q_orK_t, q_orK_f, q_cmp, q_cmpK, q_cmpK2, q_cmp2, q_cmp2K, q_cmp2K2, q_cmp2K3_t, q_cmp2K3_f, q_ite, q_iteK_t, q_iteK_f, q_tup, q_lst, q_dic, q_sub, q_subK, q_subK2, q_slc, q_slcK, q_slcK2, q_slcK3, q_rev, q_call, q_callK, q_bf, q_bfK, q_mt, q_mtK, q_mtK2, q_mt_int, q_lc, q_lcF, q_bfc, q_cfK, q_idx, q_idxK, q_nil, q_cons, q_consK, q_consK2, q_of, q_srcK_tup, q_srcK_str, q_srcK_ref, q_rng1, q_rng1K, q_rng2, q_rng2K, q_zip, q_zipK_tup, q_zipK_ref, q_enum, q_enumK, q_nm, q_tp, q_tpK, q_tpK_ref, q_sb, q_sbK, q_sbK2, q_unK, q_snil, q_scons, q_stoK, q_tnil, q_tcons, q_evtK_t, q_evtK_f, q_mk, q_evcK, q_asg, q_asgK, q_nxK, q_aug, q_augK, q_augK2, q_augK3, q_ife, q_ifeK_t, q_ifeK_f, q_for, q_forG, q_ret, q_retK, q_retn, q_expr, q_dropK, q_pass, q_brk, q_cont, q_try, q_xnil, q_xcons, q_nx, q_rt, q_bk, q_ct, q_tst, q_tstK, q_fin_rt, q_fin_nx, q_t0, q_l0, q_t1, q_l1, q_t2, q_l2, q_t3, q_l3, q_t4, q_l4, q_t5, q_l5, q_t6, q_l6, q_t7, q_l7, q_t8, q_l8, q_t9, q_l9, q_t10, q_l10, q_t11, q_l11, q_t12, q_l12, q_t13, q_l13, q_t14, q_l14, q_t15, q_l15, q_t16, q_l16, q_t17, q_l17, q_t18, q_l18, q_t19, q_l19, q_notK, gets, sets, wipes, cmpop, ofB, isv, eqh_int, eqh_str, eqh_bl, bfn, bInt, bLen, bTup, items, add_int, sub_int, app_at, app_at0, app_put, app_put0, alloc_0, cturn, i1, i2]
          rw [run_nx]
          have fin_ : ∀ v : Bool, m.is .int = true → l.is .int = true → call kd P (d + 2) F_fits_double [b, c] h = .ok (.bl v) h → isRealB (.tup [.str s, b, c]) = v → fin (runs (call kd P (d + 2)) kd (.cons (.ret (.and (.call F_is_integer (.cons (.sub (.var 0) (.cst (.int 1))) .nil)) (.and (.call F_is_integer (.cons (.sub (.var 0) (.cst (.int 2))) .nil)) (.call F_fits_double (.cons (.sub (.var 0) (.cst (.int 1))) (.cons (.sub (.var 0) (.cst (.int 2))) .nil)))))) .nil) [some (.tup [.str s, b, c])] h) = .ok (.bl (isRealB (.tup [.str s, b, c]))) h := by
            intro v h1 h2 h3 h4
            rw [h1] at i4
            rw [h2] at i5
            rw [h4]
            rw [run_cons]
            simp [R.bind_ok, R.calm_ok, q_cst, q_var, q_varK, q_bin, q_binK, q_binK2, q_neg, q_negK, q_not, q_and, q_andK_t, q_andK_f, q_or, q_orK_t, q_orK_f, q_cmp, q_cmpK, q_cmpK2, q_cmp2, q_cmp2K, q_cmp2K2, q_cmp2K3_t, q_cmp2K3_f, q_ite, q_iteK_t, q_iteK_f, q_tup, q_lst, q_dic, q_sub, q_subK, q_subK2, q_slc, q_slcK, q_slcK2, q_slcK3, q_rev, q_call, q_callK, q_bf, q_bfK, q_mt, q_mtK, q_mtK2, q_mt_int, q_lc, q_lcF, q_bfc, q_cfK, q_idx, q_idxK, q_nil, q_cons, q_consK, q_consK2, q_of, q_srcK_tup, q_srcK_str, q_srcK_ref, q_rng1, q_rng1K, q_rng2, q_rng2K, q_zip, q_zipK_tup, q_zipK_ref, q_enum, q_enumK, q_nm, q_tp, q_tpK, q_tpK_ref, q_sb, q_sbK, q_sbK2, q_unK, q_snil, q_scons, q_stoK, q_tnil, q_tcons, q_evtK_t, q_evtK_f, q_mk, q_evcK, q_asg, q_asgK, q_nxK, q_aug, q_augK, q_augK2, q_augK3, q_ife, q_ifeK_t, q_ifeK_f, q_for, q_forG, q_ret, q_retK, q_retn, q_expr, q_dropK, q_pass, q_brk, q_cont, q_try, q_xnil, q_xcons, q_nx, q_rt, q_bk, q_ct, q_tst, q_tstK, q_fin_rt, q_fin_nx, q_t0, q_l0, q_t1, q_l1, q_t2, q_l2, q_t3, q_l3, q_t4, q_l4, q_t5, q_l5, q_t6, q_l6, q_t7, q_l7, q_t8, q_l8, q_t9, q_l9, q_t10, q_l10, q_t11, q_l11, q_t12, q_l12, q_t13, q_l13, q_t14, q_l14, q_t15, q_l15, q_t16, q_l16, q_t17, q_l17, q_t18, q_l18, q_t19, q_l19, q_notK, gets, sets, wipes, cmpop, ofB, isv, eqh_int, eqh_str, eqh_bl, bfn, bInt, bLen, bTup, items, add_int, sub_int, app_at, app_at0, app_put, app_put0, alloc_0, cturn, run_rt, run_nx, run_nil, i4, i5, s2, s3, h3]
          have no_ : (m.is .int = false ∨ l.is .int = false) → isRealB (.tup [.str s, b, c]) = false → fin (runs (call kd P (d + 2)) kd (.cons (.ret (.and (.call F_is_integer (.cons (.sub (.var 0) (.cst (.int 1))) .nil)) (.and (.call F_is_integer (.cons (.sub (.var 0) (.cst (.int 2))) .nil)) (.call F_fits_double (.cons (.sub (.var 0) (.cst (.int 1))) (.cons (.sub (.var 0) (.cst (.int 2))) .nil)))))) .nil) [some (.tup [.str s, b, c])] h) = .ok (.bl (isRealB (.tup [.str s, b, c]))) h := by
            intro h1 h4
            rw [h4]
            cases z : m.is .int with
            | false =>
              rw [z] at i4
              rw [run_cons]
              simp [R.bind_ok, R.calm_ok, q_cst, q_var, q_varK, q_bin, q_binK, q_binK2, q_neg, q_negK, q_not, q_and, q_andK_t, q_andK_f, q_or, q_orK_t, q_orK_f, q_cmp, q_cmpK, q_cmpK2, q_cmp2, q_cmp2K, q_cmp2K2, q_cmp2K3_t, q_cmp2K3_f, q_ite, q_iteK_t, q_iteK_f, q_tup, q_lst, q_dic, q_sub, q_subK, q_subK2, q_slc, q_slcK, q_slcK2, q_slcK3, q_rev, q_call, q_callK, q_bf, q_bfK, q_mt, q_mtK, q_mtK2, q_mt_int, q_lc, q_lcF, q_bfc, q_cfK, q_idx, q_idxK, q_nil, q_cons, q_consK, q_consK2, q_of, q_srcK_tup, q_srcK_str, q_srcK_ref, q_rng1, q_rng1K, q_rng2, q_rng2K, q_zip, q_zipK_tup, q_zipK_ref, q_enum, q_enumK, q_nm, q_tp, q_tpK, q_tpK_ref, q_sb, q_sbK, q_sbK2, q_unK, q_snil, q_scons, q_stoK, q_tnil, q_tcons, q_evtK_t, q_evtK_f, q_mk, q_evcK, q_asg, q_asgK, q_nxK, q_aug, q_augK, q_augK2, q_augK3, q_ife, q_ifeK_t, q_ifeK_f, q_for, q_forG, q_ret, q_retK, q_retn, q_expr, q_dropK, q_pass, q_brk, q_cont, q_try, q_xnil, q_xcons, q_nx, q_rt, q_bk, q_ct, q_tst, q_tstK, q_fin_rt, q_fin_nx, q_t0, q_l0, q_t1, q_l1, q_t2, q_l2, q_t3, q_l3, q_t4, q_l4, q_t5, q_l5, q_t6, q_l6, q_t7, q_l7, q_t8, q_l8, q_t9, q_l9, q_t10, q_l10, q_t11, q_l11, q_t12, q_l12, q_t13, q_l13, q_t14, q_l14, q_t15, q_l15, q_t16, q_l16, q_t17, q_l17, q_t18, q_l18, q_t19, q_l19, q_notK, gets, sets, wipes, cmpop, ofB, isv, eqh_int, eqh_str, eqh_bl, bfn, bInt, bLen, bTup, items, add_int, sub_int, app_at, app_at0, app_put, app_put0, alloc_0, cturn, run_rt, run_nx, run_nil, i4, s2]
            | true =>
              rw [z] at i4 h1
              have h1 : l.is .int = false := by simpa using h1
              rw [h1] at i5
              rw [run_cons]
              simp [R.bind_ok, R.calm_ok, q_cst, q_var, q_varK, q_bin, q_binK, q_binK2, q_neg, q_negK, q_not, q_and, q_andK_t, q_andK_f, q_or, q_orK_t, q_orK_f, q_cmp, q_cmpK, q_cmpK2, q_cmp2, q_cmp2K, q_cmp2K2, q_cmp2K3_t, q_cmp2K3_f, q_ite, q_iteK_t, q_iteK_f, q_tup, q_lst, q_dic, q_sub, q_subK, q_subK2, q_slc, q_slcK, q_slcK2, q_slcK3, q_rev, q_call, q_callK, q_bf, q_bfK, q_mt, q_mtK, q_mtK2, q_mt_int, q_lc, q_lcF, q_bfc, q_cfK, q_idx, q_idxK, q_nil, q_cons, q_consK, q_consK2, q_of, q_srcK_tup, q_srcK_str, q_srcK_ref, q_rng1, q_rng1K, q_rng2, q_rng2K, q_zip, q_zipK_tup, q_zipK_ref, q_enum, q_enumK, q_nm, q_tp, q_tpK, q_tpK_ref, q_sb, q_sbK, q_sbK2, q_unK, q_snil, q_scons, q_stoK, q_tnil, q_tcons, q_evtK_t, q_evtK_f, q_mk, q_evcK, q_asg, q_asgK, q_nxK, q_aug, q_augK, q_augK2, q_augK3, q_ife, q_ifeK_t, q_ifeK_f, q_for, q_forG, q_ret, q_retK, q_retn, q_expr, q_dropK, q_pass, q_brk, q_cont, q_try, q_xnil, q_xcons, q_nx, q_rt, q_bk, q_ct, q_tst, q_tstK, q_fin_rt, q_fin_nx, q_t0, q_l0, q_t1, q_l1, q_t2, q_l2, q_t3, q_l3, q_t4, q_l4, q_t5, q_l5, q_t6, q_l6, q_t7, q_l7, q_t8, q_l8, q_t9, q_l9, q_t10, q_l10, q_t11, q_l11, q_t12, q_l12, q_t13, q_l13, q_t14, q_l14, q_t15, q_l15, q_t16, q_l16, q_t17, q_l17, q_t18, q_l18, q_t19, q_l19, q_notK, gets, sets, wipes, cmpop, ofB, isv, eqh_int, eqh_str, eqh_bl, bfn, bInt, bLen, bTup, items, add_int, sub_int, app_at, app_at0, app_put, app_put0, alloc_0, cturn, run_rt, run_nx, run_nil, i4, i5, s2, s3]
          rcases intN e2 with ⟨n1, rfl, rfl⟩ | ⟨b1, rfl, rfl⟩ | ⟨f1, f2, f3⟩
          · rcases intN e4 with ⟨k1, rfl, rfl⟩ | ⟨b2, rfl, rfl⟩ | ⟨f4, f5, f6⟩
            · exact fin_ _ rfl rfl fits_t (by simp [isRealB, hs])
            · exact fin_ _ rfl rfl (fits_bl e2 e4 rfl rfl rfl) (real3 fun _ _ _ _ _ z => by cases z)
            · exact no_ (.inr f4) (real3 fun _ _ k _ _ z => absurd z (f5 k))
          · rcases intN e4 with ⟨k1, rfl, rfl⟩ | ⟨b2, rfl, rfl⟩ | ⟨f4, f5, f6⟩
            · exact fin_ _ rfl rfl (fits_bl e2 e4 rfl rfl rfl) (real3 fun _ _ _ _ z _ => by cases z)
            · exact fin_ _ rfl rfl (fits_bl e2 e4 rfl rfl rfl) (real3 fun _ _ _ _ z _ => by cases z)
            · exact no_ (.inr f4) (real3 fun _ _ k _ _ z => absurd z (f5 k))
          · exact no_ (.inl f1) (real3 fun _ n _ _ z _ => absurd z (f2 n))
        · have hs1 : (s == [114, 101, 97, 108]) = false := by simpa [REAL] using hs
          have e3 : isRealB (.tup [.str s, b, c]) = false := real3 fun s' _ _ z _ _ => by cases z; simp [hs]
          cases e1
          rw [show TN.is .str .str = true from rfl] at i3
          rw [run_cons]
          simp [R.bind_ok, R.calm_ok, q_cst, q_var, q_varK, q_bin, q_binK, q_binK2, q_neg, q_negK, q_not, q_and, q_andK_t, q_andK_f, q_or, q_orK_t, q_orK_f, q_cmp, q_cmpK, q_cmpK2, q_cmp2, q_cmp2K, q_cmp2K2, q_cmp2K3_t, q_cmp2K3_f, q_ite, q_iteK_t, q_iteK_f, q_tup, q_lst, q_dic, q_sub, q_subK, q_subK2, q_slc, q_slcK, q_slcK2, q_slcK3, q_rev, q_call, q_callK, q_bf, q_bfK, q_mt, q_mtK, q_mtK2, q_mt_int, q_lc, q_lcF, q_bfc, q_cfK, q_idx, q_idxK, q_nil, q_cons, q_consK, q_consK2, q_of, q_srcK_tup, q_srcK_str, q_srcK_ref, q_rng1, q_rng1K, q_rng2, q_rng2K, q_zip, q_zipK_tup, q_zipK_ref, q_enum, q_enumK, q_nm, q_tp, q_tpK, q_tpK_ref, q_sb, q_sbK, q_sbK2, q_unK, q_snil, q_scons, q_stoK, q_tnil, q_tcons, q_evtK_t, q_evtK_f, q_mk, q_evcK, q_asg, q_asgK, q_nxK, q_aug, q_augK, q_augK2, q_augK3, q_ife, q_ifeK_t, q_ifeK_f, q_for, q_forG, q_ret, q_retK, q_retn, q_expr, q_dropK, q_pass, q_brk, q_cont, q_try, q_xnil, q_xcons, q_nx, q_rt, q_bk, q_ct, q_tst, q_tstK, q_fin_rt, q_fin_nx, q_t0, q_l0, q_t1, q_l1, q_t2, q_l2, q_t3, q_l3, q_t4, q_l4, q_t5, q_l5, q_t6, q_l6, q_t7, q_l7, q_t8, q_l8, q_t9, q_l9, q_t10, q_l10, q_t11, q_l11, q_t12, q_l12, q_t13, q_l13, q_t14, q_l14, q_t15, q_l15, q_t16, q_l16, q_t17, q_l17, q_t18, q_l18, q_t19, q_l19, q_notK, gets, sets, wipes, cmpop, ofB, isv, eqh_int, eqh_str, eqh_bl, bfn, bInt, bLen, bTup, items, add_int, sub_int, app_at, app_at0, app_put, app_put0, alloc_0, cturn, run_rt, run_nx, run_nil, i1, i2, i3, s1, in23, hs1, e3]
      · have e3 : isRealB (.tup [a, b, c]) = false := real3 fun s _ _ z _ _ => absurd z (f2 s)
        rw [f1] at i3
        rw [run_cons]
        simp [R.bind_ok, R.calm_ok, q_cst, q_var, q_varK, q_bin, q_binK, q_binK2, q_neg, q_negK, q_not, q_and, q_andK_t, q_andK_f, q_or, q_orK_t, q_orK_f, q_cmp, q_cmpK, q_cmpK2, q_cmp2, q_cmp2K, q_cmp2K2, q_cmp2K3_t, q_cmp2K3_f, q_ite, q_iteK_t, q_iteK_f, q_tup, q_lst, q_dic, q_sub, q_subK, q_subK2, q_slc, q_slcK, q_slcK2, q_slcK3, q_rev, q_call, q_callK, q_bf, q_bfK, q_mt, q_mtK, q_mtK2, q_mt_int, q_lc, q_lcF, q_bfc, q_cfK, q_idx, q_idxK, q_nil, q_cons, q_consK, q_consK2, q_of, q_srcK_tup, q_srcK_str, q_srcK_ref, q_rng1, q_rng1K, q_rng2, q_rng2K, q_zip, q_zipK_tup, q_zipK_ref, q_enum, q_enumK, q_nm, q_tp, q_tpK, q_tpK_ref, q_sb, q_sbK, q_sbK2, q_unK, q_snil, q_scons, q_stoK, q_tnil, q_tcons, q_evtK_t, q_evtK_f, q_mk, q_evcK, q_asg, q_asgK, q_nxK, q_aug, q_augK, q_augK2, q_augK3, q_ife, q_ifeK_t, q_ifeK_f, q_for, q_forG, q_ret, q_retK, q_retn, q_expr, q_dropK, q_pass, q_brk, q_cont, q_try, q_xnil, q_xcons, q_nx, q_rt, q_bk, q_ct, q_tst, q_tstK, q_fin_rt, q_fin_nx, q_t0, q_l0, q_t1, q_l1, q_t2, q_l2, q_t3, q_l3, q_t4, q_l4, q_t5, q_l5, q_t6, q_l6, q_t7, q_l7, q_t8, q_l8, q_t9, q_l9, q_t10, q_l10, q_t11, q_l11, q_t12, q_l12, q_t13, q_l13, q_t14, q_l14, q_t15, q_l15, q_t16, q_l16, q_t17, q_l17, q_t18, q_l18, q_t19, q_l19, q_notK, gets, sets, wipes, cmpop, ofB, isv, eqh_int, eqh_str, eqh_bl, bfn, bInt, bLen, bTup, items, add_int, sub_int, app_at, app_at0, app_put, app_put0, alloc_0, cturn, run_rt, run_nx, run_nil, i1, i2, i3, s1, in23, e3]
  | .non, hx => exact go _ .non rfl rfl rfl
  | .bl b, hx => exact go _ .bool rfl rfl rfl
  | .int i, hx => exact go _ .int rfl rfl rfl
  | .str s, hx => exact go _ .str rfl rfl rfl
  | .ref r, hx =>
    obtain ⟨n, e⟩ := tyN_of (x := .ref r) hx
    refine go _ n e ?_ rfl
    simp only [tyN] at e
    split at e <;> first | (cases e; rfl) | cases e
end
end Vl
set_option maxRecDepth 100000
set_option maxHeartbeats 4000000
namespace Vl
/-! ### texts of objects: which are a text's -/
theorem digs_ok (n : Nat) : ∀ c ∈ (toString n).toList, c.isDigit = true := by
  intro c hc
  have : (toString n).toList = Nat.toDigits 10 n := by
    show (Nat.repr n).toList = _
    unfold Nat.repr
    simp
  rw [this] at hc
  exact Nat.isDigit_of_mem_toDigits (by decide) (by decide) hc
theorem dig_ne {c : Char} (h : c.isDigit = true) : c.toNat ≠ 39 := by
  intro z
  unfold Char.isDigit at h
  simp only [Bool.and_eq_true, decide_eq_true_eq] at h
  have h1 : (48 : Nat) ≤ c.toNat := h.1
  omega
/-- a number's text does not begin with a quote -/
theorem strI_q (i : Int) (r : List Nat) : strI i ≠ 39 :: r := by
  intro z
  have key : ∀ l : List Char, (∀ c ∈ l, c.toNat ≠ 39) → l.map Char.toNat ≠ 39 :: r := by
    intro l hl e
    cases l with
    | nil => cases e
    | cons c l =>
      simp only [List.map_cons, List.cons.injEq] at e
      exact hl c List.mem_cons_self e.1
  refine key _ ?_ z
  intro c hc
  cases i with
  | ofNat n => exact dig_ne (digs_ok n c hc)
  | negSucc n =>
    have : (toString (Int.negSucc n)) = "-" ++ toString (n + 1) := rfl
    rw [this] at hc
    simp at hc
    rcases hc with rfl | hc
    · decide
    · exact dig_ne (digs_ok (n + 1) c (by simpa using hc))
theorem strT_q {s t : List Nat} (e : strT s = some t) : t = 39 :: s ++ [39] := by
  unfold strT at e
  split at e
  · exact (Option.some.inj e).symm
  · cases e
def isTx : W → List Nat → Bool
  | .str u, t => u == t
  | _, _ => false
/-- what is shown between quotes is a text -/
theorem shw_q {h : L} {n : Nat} {w : W} {s t : List Nat} (e : shw h n w = some s) : (s == 39 :: t ++ [39]) = isTx w t := by
  have no : s ≠ 39 :: t ++ [39] → (s == 39 :: t ++ [39]) = false := fun z => by simpa using z
  cases w with
  | str u =>
    have e : strT u = some s := by cases n <;> exact e
    rw [strT_q e]
    simp [isTx]
  | non => have : s = [78, 111, 110, 101] := by cases n <;> exact (Option.some.inj e).symm
           subst this; rfl
  | bl b =>
    have : s = if b then [84, 114, 117, 101] else [70, 97, 108, 115, 101] := by cases n <;> cases b <;> exact (Option.some.inj e).symm
    subst this
    cases b <;> rfl
  | int i =>
    refine no fun z => ?_
    have e : (if i.natAbs.log2 < 1920 then some (strI i) else none) = some s := by cases n <;> exact e
    split at e
    · exact strI_q i _ ((Option.some.inj e).trans z)
    · cases e
  | tup xs =>
    refine no fun z => ?_
    cases n with
    | zero => cases e
    | succ n =>
      simp only [shw] at e
      obtain ⟨ts, _, rfl⟩ := Option.map_eq_some_iff.mp e
      cases z
  | frz xs =>
    refine no fun z => ?_
    cases n with
    | zero => cases e
    | succ n =>
      simp only [shw] at e
      obtain ⟨ts, _, rfl⟩ := Option.map_eq_some_iff.mp e
      cases z
  | ref r =>
    refine no fun z => ?_
    cases n with
    | zero => cases e
    | succ n =>
      simp only [shw] at e
      split at e
      · obtain ⟨ts, _, rfl⟩ := Option.map_eq_some_iff.mp e
        cases z
      · cases e
  | _ => cases n <;> cases e
end Vl
set_option maxRecDepth 100000
set_option maxHeartbeats 4000000
namespace Vl
theorem ibits_iff {x : Int} {t : Nat} : ibits x ≤ t ↔ x.natAbs < 2 ^ t := by
  refine ⟨fun hh => ?_, ibits_le⟩
  unfold ibits at hh
  split at hh
  · rename_i z
    subst z
    exact Nat.two_pow_pos t
  · rename_i z
    have h1 : x.natAbs < 2 ^ (x.natAbs.log2 + 1) := Nat.lt_log2_self
    exact Nat.lt_of_lt_of_le h1 (Nat.pow_le_pow_right (by decide) hh)
section
variable {kd : Kd} {P : List Fn} [Tab P] [KTab kd] {d : Nat} {h : L}
theorem shl_t {a b : Int} (h0 : 0 ≤ b) (hb : b ≤ 5000) (ha : a.natAbs < 2 ^ 200) : binop .shl (.int a) (.int b) h = .ok (.int (a * 2 ^ b.toNat)) h := by
  have := ibits_le ha
  exact if_pos ⟨h0, by omega⟩
theorem compared_t {m k : Int} (hm : m.natAbs < 2 ^ 100) (h1 : -2000 ≤ k) (h2 : k ≤ 1023) : call kd P (d + 1) F_law_v_compared [.tup [.int m, .int k], .tup [.int 1, .int 1024]] h = .ok (.int (m - 2 ^ (1024 - k).toNat)) h := by
  rw [call_run h_law_v_compared rfl]
  show fin (runs (call kd P d) kd c_law_v_compared.body [some (.tup [.int m, .int k]), some (.tup [.int 1, .int 1024]), none] h) = _
  simp only [c_law_v_compared]
  have s1 : subv kd (.tup [.int m, .int k]) (.int 0) h = .ok (.int m) h := rfl
  have s2 : subv kd (.tup [.int m, .int k]) (.int 1) h = .ok (.int k) h := rfl
  have s3 : subv kd (.tup [.int 1, .int 1024]) (.int 0) h = .ok (.int 1) h := rfl
  have s4 : subv kd (.tup [.int 1, .int 1024]) (.int 1) h = .ok (.int 1024) h := rfl
  have mn : bfn kd .min [.int k, .int 1024] h = .ok (.int k) h := by
    show R.ok (W.int (if (1024 : Int) < k then 1024 else k)) h = _
    rw [if_neg (by omega)]
  have e1 : binop .shl (.int m) (.int (k - k)) h = .ok (.int m) h := by
    rw [Int.sub_self, shl_t (by decide) (by decide) (Nat.lt_of_lt_of_le hm (Nat.pow_le_pow_right (by decide) (by decide)))]
    simp
  have e2 : binop .shl (.int 1) (.int (1024 - k)) h = .ok (.int (2 ^ (1024 - k).toNat)) h := by
    rw [shl_t (by omega) (by omega) (by decide)]
    simp
  generalize (2 : Int) ^ (1024 - k).toNat = w at *
  rw [run_cons]
  simp only [q_asg, q_bf, q_cons, q_consK, q_consK2, q_nil, q_sub, q_subK, q_subK2, q_var, q_varK, q_cst, q_bfK, gets, s1, s2, s3, s4, mn, R.bind_ok, R.calm_ok, q_asgK, q_nm, q_nxK, sets]
  rw [run_nx, run_cons]
  simp only [q_ret, q_bin, q_binK, q_binK2, q_sub, q_subK, q_subK2, q_var, q_varK, q_cst, gets, s1, s2, s3, s4, sub_int, e1, e2, R.bind_ok, q_retK, run_rt, q_fin_rt]
/-- an object whose parts are known and shown -/
def okS (h : L) : W → Bool
  | .tup xs => xs.all (fun y => (tyN y h).isSome && (shw h 60 y).isSome)
  | x => (tyN x h).isSome
def wordW : W → Bool
  | .str t => wordB t
  | _ => false
theorem inQ {b : List Nat} {w : W} (e : shw h 60 w = some b) : isIn kd h (.str b) (.tup [.str [39, 45, 48, 39], .str [39, 105, 110, 102, 39], .str [39, 45, 105, 110, 102, 39], .str [39, 110, 97, 110, 39]]) =
    some (wordW w) := by
  have q1 := shw_q (t := [45, 48]) e
  have q2 := shw_q (t := [105, 110, 102]) e
  have q3 := shw_q (t := [45, 105, 110, 102]) e
  have q4 := shw_q (t := [110, 97, 110]) e
  simp only [List.cons_append, List.nil_append] at q1 q2 q3 q4
  simp only [isIn, anyEq, isFlat]
  have c : ∀ t, (t == b) = (b == t) := fun t => BEq.comm
  simp [c, q1, q2, q3, q4]
  cases w <;> simp [isTx, wordW, wordB, Bool.or_assoc, isFlat]
theorem rp {w : W} {s : List Nat} (e : shw h 60 w = some s) (l : s.length ≤ LINE) : bfn kd .repr [w] h = .ok (.str s) h := by
  simp only [bfn, e, if_pos l]
theorem and_bl {a b : Bool} : (if a then b else false) = (a && b) := by cases a <;> rfl
end
end Vl
set_option maxRecDepth 100000
set_option maxHeartbeats 4000000
namespace Vl
/-- a part that is known and shown -/
def shB (h : L) (y : W) : Bool := (tyN y h).isSome && (match shw h 60 y with | some s => decide (s.length ≤ 100000) | none => false)
def okR (h : L) : W → Bool
  | .tup xs => xs.all (shB h)
  | x => (tyN x h).isSome
theorem shB_of {h : L} {y : W} (e : shB h y = true) : (∃ n, tyN y h = some n) ∧ ∃ s, shw h 60 y = some s ∧ s.length ≤ LINE := by
  unfold shB at e
  obtain ⟨e1, e2⟩ := Bool.and_eq_true_iff.mp e
  refine ⟨tyN_of e1, ?_⟩
  split at e2
  · rename_i s es
    exact ⟨s, es, Nat.le_trans (of_decide_eq_true e2) (by decide)⟩
  · cases e2
section
variable {kd : Kd} {P : List Fn} [Tab P] [KTab kd] {d : Nat} {h : L}
theorem okR_V {x : W} (e : okR h x = true) : okV h x = true := by
  cases x with
  | tup xs =>
    refine List.all_eq_true.mpr fun y hy => ?_
    obtain ⟨⟨n, e1⟩, _⟩ := shB_of (List.all_eq_true.mp e y hy)
    rw [e1]
    rfl
  | _ => exact e
theorem part1 {C : Orc} {y : W} {n : TN} {x0 x1 x2 x3 : Option W} (e : tyN y h = some n) : cturn C kd [3] (.nm 3) .nil (.and (.bf .isinst (.cons (.var 3) (.cons (.cst (.ty .int)) .nil))) (.not (.bf .isinst (.cons (.var 3) (.cons (.cst (.ty .bool)) .nil))))) [x0, x1, x2, x3] y h = .ok (some (.bl (n.is .int && !n.is .bool))) h := by
  have i1 := isi_ok (t := .int) e
  have i2 := isi_ok (t := .bool) e
  cases z : n.is .int with
  | false =>
    rw [z] at i1
    simp [R.bind_ok, R.calm_ok, q_cst, q_var, q_varK, q_bin, q_binK, q_binK2, q_neg, q_negK, q_not, q_and, q_andK_t, q_andK_f, q_or, q_orK_t, q_orK_f, q_cmp, q_cmpK, q_cmpK2, q_cmp2, q_cmp2K, q_cmp2K2, q_cmp2K3_t, q_cmp2K3_f, q_ite, q_iteK_t, q_iteK_f, q_tup, q_lst, q_dic, q_sub, q_subK, q_subK2, q_slc, q_slcK, q_slcK2, q_slcK3, q_rev, q_call, q_callK, q_bf, q_bfK, q_mt, q_mtK, q_mtK2, q_mt_int, q_lc, q_lcF, q_bfc, q_cfK, q_idx, q_idxK, q_nil, q_cons, q_consK, q_consK2, q_of, q_srcK_tup, q_srcK_str, q_srcK_ref, q_rng1, q_rng1K, q_rng2, q_rng2K, q_zip, q_zipK_tup, q_zipK_ref, q_enum, q_enumK, q_nm, q_tp, q_tpK, q_tpK_ref, q_sb, q_sbK, q_sbK2, q_unK, q_snil, q_scons, q_stoK, q_tnil, q_tcons, q_evtK_t, q_evtK_f, q_mk, q_evcK, q_asg, q_asgK, q_nxK, q_aug, q_augK, q_augK2, q_augK3, q_ife, q_ifeK_t, q_ifeK_f, q_for, q_forG, q_ret, q_retK, q_retn, q_expr, q_dropK, q_pass, q_brk, q_cont, q_try, q_xnil, q_xcons, q_nx, q_rt, q_bk, q_ct, q_tst, q_tstK, q_fin_rt, q_fin_nx, q_t0, q_l0, q_t1, q_l1, q_t2, q_l2, q_t3, q_l3, q_t4, q_l4, q_t5, q_l5, q_t6, q_l6, q_t7, q_l7, q_t8, q_l8, q_t9, q_l9, q_t10, q_l10, q_t11, q_l11, q_t12, q_l12, q_t13, q_l13, q_t14, q_l14, q_t15, q_l15, q_t16, q_l16, q_t17, q_l17, q_t18, q_l18, q_t19, q_l19, q_notK, gets, sets, wipes, cmpop, ofB, isv, eqh_int, eqh_str, eqh_bl, bfn, bInt, bLen, bTup, items, add_int, sub_int, app_at, app_at0, app_put, app_put0, alloc_0, cturn, i1]
  | true =>
    rw [z] at i1
    simp [R.bind_ok, R.calm_ok, q_cst, q_var, q_varK, q_bin, q_binK, q_binK2, q_neg, q_negK, q_not, q_and, q_andK_t, q_andK_f, q_or, q_orK_t, q_orK_f, q_cmp, q_cmpK, q_cmpK2, q_cmp2, q_cmp2K, q_cmp2K2, q_cmp2K3_t, q_cmp2K3_f, q_ite, q_iteK_t, q_iteK_f, q_tup, q_lst, q_dic, q_sub, q_subK, q_subK2, q_slc, q_slcK, q_slcK2, q_slcK3, q_rev, q_call, q_callK, q_bf, q_bfK, q_mt, q_mtK, q_mtK2, q_mt_int, q_lc, q_lcF, q_bfc, q_cfK, q_idx, q_idxK, q_nil, q_cons, q_consK, q_consK2, q_of, q_srcK_tup, q_srcK_str, q_srcK_ref, q_rng1, q_rng1K, q_rng2, q_rng2K, q_zip, q_zipK_tup, q_zipK_ref, q_enum, q_enumK, q_nm, q_tp, q_tpK, q_tpK_ref, q_sb, q_sbK, q_sbK2, q_unK, q_snil, q_scons, q_stoK, q_tnil, q_tcons, q_evtK_t, q_evtK_f, q_mk, q_evcK, q_asg, q_asgK, q_nxK, q_aug, q_augK, q_augK2, q_augK3, q_ife, q_ifeK_t, q_ifeK_f, q_for, q_forG, q_ret, q_retK, q_retn, q_expr, q_dropK, q_pass, q_brk, q_cont, q_try, q_xnil, q_xcons, q_nx, q_rt, q_bk, q_ct, q_tst, q_tstK, q_fin_rt, q_fin_nx, q_t0, q_l0, q_t1, q_l1, q_t2, q_l2, q_t3, q_l3, q_t4, q_l4, q_t5, q_l5, q_t6, q_l6, q_t7, q_l7, q_t8, q_l8, q_t9, q_l9, q_t10, q_l10, q_t11, q_l11, q_t12, q_l12, q_t13, q_l13, q_t14, q_l14, q_t15, q_l15, q_t16, q_l16, q_t17, q_l17, q_t18, q_l18, q_t19, q_l19, q_notK, gets, sets, wipes, cmpop, ofB, isv, eqh_int, eqh_str, eqh_bl, bfn, bInt, bLen, bTup, items, add_int, sub_int, app_at, app_at0, app_put, app_put0, alloc_0, cturn, i1, i2]
theorem all2 {C : Orc} {y z : W} {n m : TN} {x0 x3 : Option W} (e1 : tyN y h = some n) (e2 : tyN z h = some m) : turns [] (cturn C kd [3] (.nm 3) .nil (.and (.bf .isinst (.cons (.var 3) (.cons (.cst (.ty .int)) .nil))) (.not (.bf .isinst (.cons (.var 3) (.cons (.cst (.ty .bool)) .nil))))) [x0, some y, some z, x3]) [y, z] h [] =
    .ok [.bl (n.is .int && !n.is .bool), .bl (m.is .int && !m.is .bool)] h := by
  simp only [turns, heldB, part1 e1, part1 e2, R.calm_ok, R.bind_ok, if_true, List.length_nil, List.length_cons, List.nil_append, List.cons_append, lt_LINE0, show (0 + 1 < LINE) = True from eq_true (by decide)]
/-- a pair of whole numbers: the sign, the size -/
theorem fits_lem {n k : Int} (h1 : ¬ n = 0) (h2 : ¬ k < -1074) (h3 : ¬ 1023 < k) : fitsB n k = (decide (n % 2 = 1) && (decide (n.natAbs < 2 ^ 53) && decide (n.natAbs < 2 ^ (1024 - k).toNat))) := by
  unfold fitsB
  have hm := Int.emod_two_eq n
  by_cases h4 : n % 2 = 0
  · rw [if_pos h4]
    have : ¬ n % 2 = 1 := by omega
    simp [h1, this]
  · rw [if_neg h4]
    have h5 : n % 2 = 1 := by omega
    have e1 : ((ibits n : Int) ≤ 53) ↔ n.natAbs < 2 ^ 53 := by
      rw [← ibits_iff]
      omega
    have e2 : ((ibits n : Int) + k ≤ 1024) ↔ n.natAbs < 2 ^ (1024 - k).toNat := by
      rw [← ibits_iff]
      omega
    have e3 : -1074 ≤ k := by omega
    rw [decide_eq_true h5, decide_eq_true e3, Bool.true_and, Bool.true_and]
    congr 1
    · exact decide_eq_decide.mpr e1
    · exact decide_eq_decide.mpr e2
theorem fits_off {n k : Int} (h : n = 0 ∨ k < -1074 ∨ 1023 < k) : fitsB n k = (decide (n = 0) && decide (k = 0)) := by
  unfold fitsB
  by_cases h4 : n % 2 = 0
  · rw [if_pos h4]
  · rw [if_neg h4]
    have h5 : ¬ n = 0 := by rintro rfl; exact h4 rfl
    have h6 : 1 ≤ ibits n := by
      unfold ibits
      rw [if_neg h5]
      omega
    rw [decide_eq_false h5, Bool.false_and]
    rcases h with h | h | h
    · exact absurd h h5
    · rw [decide_eq_false (show ¬ -1074 ≤ k by omega)]
      simp
    · rw [decide_eq_false (show ¬ (ibits n : Int) + k ≤ 1024 by omega)]
      simp
/-- the law's own look -/
theorem v_is_real_t {x : W} (hx : okR h x = true) : call kd P (d + 3) F_law_v_is_real [x] h = .ok (.bl (isRealB x)) h := by
  rw [call_run h_law_v_is_real rfl]
  show fin (runs (call kd P (d + 2)) kd (c_law_v_is_real F_law_v_compared).body [some x, none, none, none] h) = _
  simp only [c_law_v_is_real]
  have go : ∀ (w : W) (n : TN), tyN w h = some n → n.is .tuple = false → isRealB w = false → fin (runs (call kd P (d + 2)) kd (c_law_v_is_real F_law_v_compared).body [some w, none, none, none] h) = .ok (.bl (isRealB w)) h := by
    intro w n e1 e2 e3
    simp only [c_law_v_is_real]
    have i1 := isi_ok (t := .tuple) e1
    rw [e2] at i1
    rw [run_cons]
    simp [R.bind_ok, R.calm_ok, q_cst, q_var, q_varK, q_bin, q_binK, q_binK2, q_neg, q_negK, q_not, q_and, q_andK_t, q_andK_f, q_or, q_orK_t, q_orK_f, q_cmp, q_cmpK, q_cmpK2, q_cmp2, q_cmp2K, q_cmp2K2, q_cmp2K3_t, q_cmp2K3_f, q_ite, q_iteK_t, q_iteK_f, q_tup, q_lst, q_dic, q_sub, q_subK, q_subK2, q_slc, q_slcK, q_slcK2, q_slcK3, q_rev, q_call, q_callK, q_bf, q_bfK, q_mt, q_mtK, q_mtK2, q_mt_int, q_lc, q_lcF, q_bfc, q_cfK, q_idx, q_idxK, q_nil, q_cons, q_consK, q_consK2, q_of, q_srcK_tup, q_srcK_str, q_srcK_ref, q_rng1, q_rng1K, q_rng2, q_rng2K, q_zip, q_zipK_tup, q_zipK_ref, q_enum, q_enumK, q_nm, q_tp, q_tpK, q_tpK_ref, q_sb, q_sbK, q_sbK2, q_unK, q_snil, q_scons, q_stoK, q_tnil, q_tcons, q_evtK_t, q_evtK_f, q_mk, q_evcK, q_asg, q_asgK, q_nxK, q_aug, q_augK, q_augK2, q_augK3, q_ife, q_ifeK_t, q_ifeK_f, q_for, q_forG, q_ret, q_retK, q_retn, q_expr, q_dropK, q_pass, q_brk, q_cont, q_try, q_xnil, q_xcons, q_nx, q_rt, q_bk, q_ct, q_tst, q_tstK, q_fin_rt, q_fin_nx, q_t0, q_l0, q_t1, q_l1, q_t2, q_l2, q_t3, q_l3, q_t4, q_l4, q_t5, q_l5, q_t6, q_l6, q_t7, q_l7, q_t8, q_l8, q_t9, q_l9, q_t10, q_l10, q_t11, q_l11, q_t12, q_l12, q_t13, q_l13, q_t14, q_l14, q_t15, q_l15, q_t16, q_l16, q_t17, q_l17, q_t18, q_l18, q_t19, q_l19, q_notK, gets, sets, wipes, cmpop, ofB, isv, eqh_int, eqh_str, eqh_bl, bfn, bInt, bLen, bTup, items, add_int, sub_int, app_at, app_at0, app_put, app_put0, alloc_0, cturn, run_rt, run_nx, run_nil, i1, e3]
  match x, hx with
  | .tup xs, hx =>
    simp only [okR] at hx
    have i1 : bIsi (.tup xs) (.ty .tuple) h = .ok (.bl true) h := rfl
    have at_ : ∀ (i : Nat) (y : W), xs[i]? = some y → (∃ n, tyN y h = some n) ∧ ∃ s, shw h 60 y = some s ∧ s.length ≤ LINE := fun i y e => shB_of (List.all_eq_true.mp hx y (List.mem_of_getElem? e))
    match xs, at_ with
    | [], at_ =>
      have e3 : isRealB (.tup []) = false := rfl
      rw [run_cons]
      simp [R.bind_ok, R.calm_ok, q_cst, q_var, q_varK, q_bin, q_binK, q_binK2, q_neg, q_negK, q_not, q_and, q_andK_t, q_andK_f, q_or, q_orK_t, q_orK_f, q_cmp, q_cmpK, q_cmpK2, q_cmp2, q_cmp2K, q_cmp2K2, q_cmp2K3_t, q_cmp2K3_f, q_ite, q_iteK_t, q_iteK_f, q_tup, q_lst, q_dic, q_sub, q_subK, q_subK2, q_slc, q_slcK, q_slcK2, q_slcK3, q_rev, q_call, q_callK, q_bf, q_bfK, q_mt, q_mtK, q_mtK2, q_mt_int, q_lc, q_lcF, q_bfc, q_cfK, q_idx, q_idxK, q_nil, q_cons, q_consK, q_consK2, q_of, q_srcK_tup, q_srcK_str, q_srcK_ref, q_rng1, q_rng1K, q_rng2, q_rng2K, q_zip, q_zipK_tup, q_zipK_ref, q_enum, q_enumK, q_nm, q_tp, q_tpK, q_tpK_ref, q_sb, q_sbK, q_sbK2, q_unK, q_snil, q_scons, q_stoK, q_tnil, q_tcons, q_evtK_t, q_evtK_f, q_mk, q_evcK, q_asg, q_asgK, q_nxK, q_aug, q_augK, q_augK2, q_augK3, q_ife, q_ifeK_t, q_ifeK_f, q_for, q_forG, q_ret, q_retK, q_retn, q_expr, q_dropK, q_pass, q_brk, q_cont, q_try, q_xnil, q_xcons, q_nx, q_rt, q_bk, q_ct, q_tst, q_tstK, q_fin_rt, q_fin_nx, q_t0, q_l0, q_t1, q_l1, q_t2, q_l2, q_t3, q_l3, q_t4, q_l4, q_t5, q_l5, q_t6, q_l6, q_t7, q_l7, q_t8, q_l8, q_t9, q_l9, q_t10, q_l10, q_t11, q_l11, q_t12, q_l12, q_t13, q_l13, q_t14, q_l14, q_t15, q_l15, q_t16, q_l16, q_t17, q_l17, q_t18, q_l18, q_t19, q_l19, q_notK, gets, sets, wipes, cmpop, ofB, isv, eqh_int, eqh_str, eqh_bl, bfn, bInt, bLen, bTup, items, add_int, sub_int, app_at, app_at0, app_put, app_put0, alloc_0, cturn, run_rt, run_nx, run_nil, i1, e3]
    | [a], at_ =>
      have e3 : isRealB (.tup [a]) = false := by cases a <;> rfl
      rw [run_cons]
      simp [R.bind_ok, R.calm_ok, q_cst, q_var, q_varK, q_bin, q_binK, q_binK2, q_neg, q_negK, q_not, q_and, q_andK_t, q_andK_f, q_or, q_orK_t, q_orK_f, q_cmp, q_cmpK, q_cmpK2, q_cmp2, q_cmp2K, q_cmp2K2, q_cmp2K3_t, q_cmp2K3_f, q_ite, q_iteK_t, q_iteK_f, q_tup, q_lst, q_dic, q_sub, q_subK, q_subK2, q_slc, q_slcK, q_slcK2, q_slcK3, q_rev, q_call, q_callK, q_bf, q_bfK, q_mt, q_mtK, q_mtK2, q_mt_int, q_lc, q_lcF, q_bfc, q_cfK, q_idx, q_idxK, q_nil, q_cons, q_consK, q_consK2, q_of, q_srcK_tup, q_srcK_str, q_srcK_ref, q_rng1, q_rng1K, q_rng2, q_rng2K, q_zip, q_zipK_tup, q_zipK_ref, q_enum, q_enumK, q_nm, q_tp, q_tpK, q_tpK_ref, q_sb, q_sbK, q_sbK2, q_unK, q_snil, q_scons, q_stoK, q_tnil, q_tcons, q_evtK_t, q_evtK_f, q_mk, q_evcK, q_asg, q_asgK, q_nxK, q_aug, q_augK, q_augK2, q_augK3, q_ife, q_ifeK_t, q_ifeK_f, q_for, q_forG, q_ret, q_retK, q_retn, q_expr, q_dropK, q_pass, q_brk, q_cont, q_try, q_xnil, q_xcons, q_nx, q_rt, q_bk, q_ct, q_tst, q_tstK, q_fin_rt, q_fin_nx, q_t0, q_l0, q_t1, q_l1, q_t2, q_l2, q_t3, q_l3, q_t4, q_l4, q_t5, q_l5, q_t6, q_l6, q_t7, q_l7, q_t8, q_l8, q_t9, q_l9, q_t10, q_l10, q_t11, q_l11, q_t12, q_l12, q_t13, q_l13, q_t14, q_l14, q_t15, q_l15, q_t16, q_l16, q_t17, q_l17, q_t18, q_l18, q_t19, q_l19, q_notK, gets, sets, wipes, cmpop, ofB, isv, eqh_int, eqh_str, eqh_bl, bfn, bInt, bLen, bTup, items, add_int, sub_int, app_at, app_at0, app_put, app_put0, alloc_0, cturn, run_rt, run_nx, run_nil, i1, e3]
    | a :: b :: c :: e :: r, at_ =>
      have e3 : isRealB (.tup (a :: b :: c :: e :: r)) = false := by cases a <;> cases b <;> cases c <;> rfl
      have l2 : ¬ ((r.length : Int) + 1 + 1 + 1 + 1 < 2) := by omega
      have l3 : (3 : Int) < (r.length : Int) + 1 + 1 + 1 + 1 := by omega
      rw [run_cons]
      simp [R.bind_ok, R.calm_ok, q_cst, q_var, q_varK, q_bin, q_binK, q_binK2, q_neg, q_negK, q_not, q_and, q_andK_t, q_andK_f, q_or, q_orK_t, q_orK_f, q_cmp, q_cmpK, q_cmpK2, q_cmp2, q_cmp2K, q_cmp2K2, q_cmp2K3_t, q_cmp2K3_f, q_ite, q_iteK_t, q_iteK_f, q_tup, q_lst, q_dic, q_sub, q_subK, q_subK2, q_slc, q_slcK, q_slcK2, q_slcK3, q_rev, q_call, q_callK, q_bf, q_bfK, q_mt, q_mtK, q_mtK2, q_mt_int, q_lc, q_lcF, q_bfc, q_cfK, q_idx, q_idxK, q_nil, q_cons, q_consK, q_consK2, q_of, q_srcK_tup, q_srcK_str, q_srcK_ref, q_rng1, q_rng1K, q_rng2, q_rng2K, q_zip, q_zipK_tup, q_zipK_ref, q_enum, q_enumK, q_nm, q_tp, q_tpK, q_tpK_ref, q_sb, q_sbK, q_sbK2, q_unK, q_snil, q_scons, q_stoK, q_tnil, q_tcons, q_evtK_t, q_evtK_f, q_mk, q_evcK, q_asg, q_asgK, q_nxK, q_aug, q_augK, q_augK2, q_augK3, q_ife, q_ifeK_t, q_ifeK_f, q_for, q_forG, q_ret, q_retK, q_retn, q_expr, q_dropK, q_pass, q_brk, q_cont, q_try, q_xnil, q_xcons, q_nx, q_rt, q_bk, q_ct, q_tst, q_tstK, q_fin_rt, q_fin_nx, q_t0, q_l0, q_t1, q_l1, q_t2, q_l2, q_t3, q_l3, q_t4, q_l4, q_t5, q_l5, q_t6, q_l6, q_t7, q_l7, q_t8, q_l8, q_t9, q_l9, q_t10, q_l10, q_t11, q_l11, q_t12, q_l12, q_t13, q_l13, q_t14, q_l14, q_t15, q_l15, q_t16, q_l16, q_t17, q_l17, q_t18, q_l18, q_t19, q_l19, q_notK, gets, sets, wipes, cmpop, ofB, isv, eqh_int, eqh_str, eqh_bl, bfn, bInt, bLen, bTup, items, add_int, sub_int, app_at, app_at0, app_put, app_put0, alloc_0, cturn, run_rt, run_nx, run_nil, i1, l2, l3, e3]
    | [a, b], at_ =>
      obtain ⟨⟨n, e1⟩, s1, r1, l1⟩ := at_ 0 a rfl
      obtain ⟨⟨m, e2⟩, s2, r2, l2⟩ := at_ 1 b rfl
      have g1 : subv kd (.tup [a, b]) (.int 0) h = .ok a h := rfl
      have g2 : subv kd (.tup [a, b]) (.int 1) h = .ok b h := rfl
      have p1 := rp (kd := kd) r1 l1
      have p2 := rp (kd := kd) r2 l2
      have q1 : (s1 == [39, 114, 101, 97, 108, 39]) = isTx a REAL := shw_q (t := REAL) r1
      have q2 := inQ (kd := kd) r2
      cases ha : isTx a REAL with
      | false =>
        have e3 : isRealB (.tup [a, b]) = false := real2 fun s t z _ => by subst z; rw [show (s == REAL) = isTx (.str s) REAL from rfl, ha]; rfl
        rw [ha] at q1
        have n1 : (s1 != [39, 114, 101, 97, 108, 39]) = true := by unfold bne; rw [q1]; rfl
        clear q2 ha go hx at_ p1 p2 n1
        rw [run_cons]
        simp [R.bind_ok, R.calm_ok, q_cst, q_var, q_varK, q_bin, q_binK, q_binK2, q_neg, q_negK, q_not, q_and, q_andK_t, q_andK_f, q_or, q_orK_t, q_orK_f, q_cmp, q_cmpK, q_cmpK2, q_cmp2, q_cmp2K, q_cmp2K2, q_cmp2K3_t, q_cmp2K3_f, q_ite, q_iteK_t, q_iteK_f, q_tup, q_lst, q_dic, q_sub, q_subK, q_subK2, q_slc, q_slcK, q_slcK2, q_slcK3, q_rev, q_call, q_callK, q_bf, q_bfK, q_mt, q_mtK, q_mtK2, q_mt_int, q_lc, q_lcF, q_bfc, q_cfK, q_idx, q_idxK, q_nil, q_cons, q_consK, q_consK2, q_of, q_srcK_tup, q_srcK_str, q_srcK_ref, q_rng1, q_rng1K, q_rng2, q_rng2K, q_zip, q_zipK_tup, q_zipK_ref, q_enum, q_enumK, q_nm, q_tp, q_tpK, q_tpK_ref, q_sb, q_sbK, q_sbK2, q_unK, q_snil, q_scons, q_stoK, q_tnil, q_tcons, q_evtK_t, q_evtK_f, q_mk, q_evcK, q_asg, q_asgK, q_nxK, q_aug, q_augK, q_augK2, q_augK3, q_ife, q_ifeK_t, q_ifeK_f, q_for, q_forG, q_ret, q_retK, q_retn, q_expr, q_dropK, q_pass, q_brk, q_cont, q_try, q_xnil, q_xcons, q_nx, q_rt, q_bk, q_ct, q_tst, q_tstK, q_fin_rt, q_fin_nx, q_t0, q_l0, q_t1, q_l1, q_t2, q_l2, q_t3, q_l3, q_t4, q_l4, q_t5, q_l5, q_t6, q_l6, q_t7, q_l7, q_t8, q_l8, q_t9, q_l9, q_t10, q_l10, q_t11, q_l11, q_t12, q_l12, q_t13, q_l13, q_t14, q_l14, q_t15, q_l15, q_t16, q_l16, q_t17, q_l17, q_t18, q_l18, q_t19, q_l19, q_notK, gets, sets, wipes, cmpop, ofB, isv, eqh_int, eqh_str, eqh_bl, bfn, bInt, bLen, bTup, items, add_int, sub_int, app_at, app_at0, app_put, app_put0, alloc_0, cturn, run_rt, run_nx, run_nil, i1, g1, r1, l1, q1, e3]
      | true =>
        have e3 : isRealB (.tup [a, b]) = wordW b := by
          cases a with
          | str s =>
            have hs : (s == REAL) = true := ha
            cases b <;> simp [isRealB, wordW, hs]
          | _ => cases ha
        rw [ha] at q1
        have n1 : (s1 != [39, 114, 101, 97, 108, 39]) = false := by unfold bne; rw [q1]; rfl
        rw [run_cons]
        simp [R.bind_ok, R.calm_ok, q_cst, q_var, q_varK, q_bin, q_binK, q_binK2, q_neg, q_negK, q_not, q_and, q_andK_t, q_andK_f, q_or, q_orK_t, q_orK_f, q_cmp, q_cmpK, q_cmpK2, q_cmp2, q_cmp2K, q_cmp2K2, q_cmp2K3_t, q_cmp2K3_f, q_ite, q_iteK_t, q_iteK_f, q_tup, q_lst, q_dic, q_sub, q_subK, q_subK2, q_slc, q_slcK, q_slcK2, q_slcK3, q_rev, q_call, q_callK, q_bf, q_bfK, q_mt, q_mtK, q_mtK2, q_mt_int, q_lc, q_lcF, q_bfc, q_cfK, q_idx, q_idxK, q_nil, q_cons, q_consK, q_consK2, q_of, q_srcK_tup, q_srcK_str, q_srcK_ref, q_rng1, q_rng1K, q_rng2, q_rng2K, q_zip, q_zipK_tup, q_zipK_ref, q_enum, q_enumK, q_nm, q_tp, q_tpK, q_tpK_ref, q_sb, q_sbK, q_sbK2, q_unK, q_snil, q_scons, q_stoK, q_tnil, q_tcons, q_evtK_t, q_evtK_f, q_mk, q_evcK, q_asg, q_asgK, q_nxK, q_aug, q_augK, q_augK2, q_augK3, q_ife, q_ifeK_t, q_ifeK_f, q_for, q_forG, q_ret, q_retK, q_retn, q_expr, q_dropK, q_pass, q_brk, q_cont, q_try, q_xnil, q_xcons, q_nx, q_rt, q_bk, q_ct, q_tst, q_tstK, q_fin_rt, q_fin_nx, q_t0, q_l0, q_t1, q_l1, q_t2, q_l2, q_t3, q_l3, q_t4, q_l4, q_t5, q_l5, q_t6, q_l6, q_t7, q_l7, q_t8, q_l8, q_t9, q_l9, q_t10, q_l10, q_t11, q_l11, q_t12, q_l12, q_t13, q_l13, q_t14, q_l14, q_t15, q_l15, q_t16, q_l16, q_t17, q_l17, q_t18, q_l18, q_t19, q_l19, q_notK, gets, sets, wipes, cmpop, ofB, isv, eqh_int, eqh_str, eqh_bl, bfn, bInt, bLen, bTup, items, add_int, sub_int, app_at, app_at0, app_put, app_put0, alloc_0, cturn, i1, g1, r1, l1, q1]
        rw [run_nx]
        rw [e3]
        generalize wordW b = bb at *
        have cm : cmpop kd .inn (.str s2) (.tup [.str [39, 45, 48, 39], .str [39, 105, 110, 102, 39], .str [39, 45, 105, 110, 102, 39], .str [39, 110, 97, 110, 39]]) h = .ok (.bl bb) h := by
          simp only [cmpop, q2, ofB]
          rfl
        rw [run_cons]
        simp [R.bind_ok, R.calm_ok, q_cst, q_var, q_varK, q_bin, q_binK, q_binK2, q_neg, q_negK, q_not, q_and, q_andK_t, q_andK_f, q_or, q_orK_t, q_orK_f, q_cmp, q_cmpK, q_cmpK2, q_cmp2, q_cmp2K, q_cmp2K2, q_cmp2K3_t, q_cmp2K3_f, q_ite, q_iteK_t, q_iteK_f, q_tup, q_lst, q_dic, q_sub, q_subK, q_subK2, q_slc, q_slcK, q_slcK2, q_slcK3, q_rev, q_call, q_callK, q_bf, q_bfK, q_mt, q_mtK, q_mtK2, q_mt_int, q_lc, q_lcF, q_bfc, q_cfK, q_idx, q_idxK, q_nil, q_cons, q_consK, q_consK2, q_of, q_srcK_tup, q_srcK_str, q_srcK_ref, q_rng1, q_rng1K, q_rng2, q_rng2K, q_zip, q_zipK_tup, q_zipK_ref, q_enum, q_enumK, q_nm, q_tp, q_tpK, q_tpK_ref, q_sb, q_sbK, q_sbK2, q_unK, q_snil, q_scons, q_stoK, q_tnil, q_tcons, q_evtK_t, q_evtK_f, q_mk, q_evcK, q_asg, q_asgK, q_nxK, q_aug, q_augK, q_augK2, q_augK3, q_ife, q_ifeK_t, q_ifeK_f, q_for, q_forG, q_ret, q_retK, q_retn, q_expr, q_dropK, q_pass, q_brk, q_cont, q_try, q_xnil, q_xcons, q_nx, q_rt, q_bk, q_ct, q_tst, q_tstK, q_fin_rt, q_fin_nx, q_t0, q_l0, q_t1, q_l1, q_t2, q_l2, q_t3, q_l3, q_t4, q_l4, q_t5, q_l5, q_t6, q_l6, q_t7, q_l7, q_t8, q_l8, q_t9, q_l9, q_t10, q_l10, q_t11, q_l11, q_t12, q_l12, q_t13, q_l13, q_t14, q_l14, q_t15, q_l15, q_t16, q_l16, q_t17, q_l17, q_t18, q_l18, q_t19, q_l19, q_notK, gets, sets, wipes, cmpop, ofB, isv, eqh_int, eqh_str, eqh_bl, bfn, bInt, bLen, bTup, items, add_int, sub_int, app_at, app_at0, app_put, app_put0, alloc_0, cturn, run_rt, run_nx, run_nil, g2, r2, l2, q2]
    | [a, b, c], at_ =>
      obtain ⟨⟨n, e1⟩, s1, r1, l1⟩ := at_ 0 a rfl
      obtain ⟨⟨m, e2⟩, _⟩ := at_ 1 b rfl
      obtain ⟨⟨l, e4⟩, _⟩ := at_ 2 c rfl
      have g1 : subv kd (.tup [a, b, c]) (.int 0) h = .ok a h := rfl
      have p1 := rp (kd := kd) r1 l1
      have q1 : (s1 == [39, 114, 101, 97, 108, 39]) = isTx a REAL := shw_q (t := REAL) r1
      cases ha : isTx a REAL with
      | false =>
        have e3 : isRealB (.tup [a, b, c]) = false := real3 fun s t k z _ _ => by subst z; rw [show (s == REAL) = isTx (.str s) REAL from rfl, ha]; rfl
        rw [ha] at q1
        clear ha go hx at_ p1
        rw [run_cons]
        simp [R.bind_ok, R.calm_ok, q_cst, q_var, q_varK, q_bin, q_binK, q_binK2, q_neg, q_negK, q_not, q_and, q_andK_t, q_andK_f, q_or, q_orK_t, q_orK_f, q_cmp, q_cmpK, q_cmpK2, q_cmp2, q_cmp2K, q_cmp2K2, q_cmp2K3_t, q_cmp2K3_f, q_ite, q_iteK_t, q_iteK_f, q_tup, q_lst, q_dic, q_sub, q_subK, q_subK2, q_slc, q_slcK, q_slcK2, q_slcK3, q_rev, q_call, q_callK, q_bf, q_bfK, q_mt, q_mtK, q_mtK2, q_mt_int, q_lc, q_lcF, q_bfc, q_cfK, q_idx, q_idxK, q_nil, q_cons, q_consK, q_consK2, q_of, q_srcK_tup, q_srcK_str, q_srcK_ref, q_rng1, q_rng1K, q_rng2, q_rng2K, q_zip, q_zipK_tup, q_zipK_ref, q_enum, q_enumK, q_nm, q_tp, q_tpK, q_tpK_ref, q_sb, q_sbK, q_sbK2, q_unK, q_snil, q_scons, q_stoK, q_tnil, q_tcons, q_evtK_t, q_evtK_f, q_mk, q_evcK, q_asg, q_asgK, q_nxK, q_aug, q_augK, q_augK2, q_augK3, q_ife, q_ifeK_t, q_ifeK_f, q_for, q_forG, q_ret, q_retK, q_retn, q_expr, q_dropK, q_pass, q_brk, q_cont, q_try, q_xnil, q_xcons, q_nx, q_rt, q_bk, q_ct, q_tst, q_tstK, q_fin_rt, q_fin_nx, q_t0, q_l0, q_t1, q_l1, q_t2, q_l2, q_t3, q_l3, q_t4, q_l4, q_t5, q_l5, q_t6, q_l6, q_t7, q_l7, q_t8, q_l8, q_t9, q_l9, q_t10, q_l10, q_t11, q_l11, q_t12, q_l12, q_t13, q_l13, q_t14, q_l14, q_t15, q_l15, q_t16, q_l16, q_t17, q_l17, q_t18, q_l18, q_t19, q_l19, q_notK, gets, sets, wipes, cmpop, ofB, isv, eqh_int, eqh_str, eqh_bl, bfn, bInt, bLen, bTup, items, add_int, sub_int, app_at, app_at0, app_put, app_put0, alloc_0, cturn, run_rt, run_nx, run_nil, i1, g1, r1, l1, q1, e3]
      | true =>
        rw [ha] at q1
        have sl : slcv (.tup [a, b, c]) (.int 1) .non h = .ok (.tup [b, c]) h := rfl
        have al := all2 (C := call kd P (d + 2)) (kd := kd) (h := h) (x0 := some (.tup [a, b, c])) (x3 := none) e2 e4
        rw [run_cons]
        simp [R.bind_ok, R.calm_ok, q_cst, q_var, q_varK, q_bin, q_binK, q_binK2, q_neg, q_negK, q_not, q_and, q_andK_t, q_andK_f, q_or, q_orK_t, q_orK_f, q_cmp, q_cmpK, q_cmpK2, q_cmp2, q_cmp2K, q_cmp2K2, q_cmp2K3_t, q_cmp2K3_f, q_ite, q_iteK_t, q_iteK_f, q_tup, q_lst, q_dic, q_sub, q_subK, q_subK2, q_slc, q_slcK, q_slcK2, q_slcK3, q_rev, q_call, q_callK, q_bf, q_bfK, q_mt, q_mtK, q_mtK2, q_mt_int, q_lc, q_lcF, q_bfc, q_cfK, q_idx, q_idxK, q_nil, q_cons, q_consK, q_consK2, q_of, q_srcK_tup, q_srcK_str, q_srcK_ref, q_rng1, q_rng1K, q_rng2, q_rng2K, q_zip, q_zipK_tup, q_zipK_ref, q_enum, q_enumK, q_nm, q_tp, q_tpK, q_tpK_ref, q_sb, q_sbK, q_sbK2, q_unK, q_snil, q_scons, q_stoK, q_tnil, q_tcons, q_evtK_t, q_evtK_f, q_mk, q_evcK, q_asg, q_asgK, q_nxK, q_aug, q_augK, q_augK2, q_augK3, q_ife, q_ifeK_t, q_ifeK_f, q_for, q_forG, q_ret, q_retK, q_retn, q_expr, q_dropK, q_pass, q_brk, q_cont, q_try, q_xnil, q_xcons, q_nx, q_rt, q_bk, q_ct, q_tst, q_tstK, q_fin_rt, q_fin_nx, q_t0, q_l0, q_t1, q_l1, q_t2, q_l2, q_t3, q_l3, q_t4, q_l4, q_t5, q_l5, q_t6, q_l6, q_t7, q_l7, q_t8, q_l8, q_t9, q_l9, q_t10, q_l10, q_t11, q_l11, q_t12, q_l12, q_t13, q_l13, q_t14, q_l14, q_t15, q_l15, q_t16, q_l16, q_t17, q_l17, q_t18, q_l18, q_t19, q_l19, q_notK, gets, sets, wipes, cmpop, ofB, isv, eqh_int, eqh_str, eqh_bl, bfn, bInt, bLen, bTup, items, add_int, sub_int, app_at, app_at0, app_put, app_put0, alloc_0, cturn, i1, g1, r1, l1, q1]
        rw [run_nx]
        rw [run_cons]
        simp [R.bind_ok, R.calm_ok, q_cst, q_var, q_varK, q_bin, q_binK, q_binK2, q_neg, q_negK, q_not, q_and, q_andK_t, q_andK_f, q_or, q_orK_t, q_orK_f, q_cmp, q_cmpK, q_cmpK2, q_cmp2, q_cmp2K, q_cmp2K2, q_cmp2K3_t, q_cmp2K3_f, q_ite, q_iteK_t, q_iteK_f, q_tup, q_lst, q_dic, q_sub, q_subK, q_subK2, q_slc, q_slcK, q_slcK2, q_slcK3, q_rev, q_call, q_callK, q_bf, q_bfK, q_mt, q_mtK, q_mtK2, q_mt_int, q_lc, q_lcF, q_bfc, q_cfK, q_idx, q_idxK, q_nil, q_cons, q_consK, q_consK2, q_of, q_srcK_tup, q_srcK_str, q_srcK_ref, q_rng1, q_rng1K, q_rng2, q_rng2K, q_zip, q_zipK_tup, q_zipK_ref, q_enum, q_enumK, q_nm, q_tp, q_tpK, q_tpK_ref, q_sb, q_sbK, q_sbK2, q_unK, q_snil, q_scons, q_stoK, q_tnil, q_tcons, q_evtK_t, q_evtK_f, q_mk, q_evcK, q_asg, q_asgK, q_nxK, q_aug, q_augK, q_augK2, q_augK3, q_ife, q_ifeK_t, q_ifeK_f, q_for, q_forG, q_ret, q_retK, q_retn, q_expr, q_dropK, q_pass, q_brk, q_cont, q_try, q_xnil, q_xcons, q_nx, q_rt, q_bk, q_ct, q_tst, q_tstK, q_fin_rt, q_fin_nx, q_t0, q_l0, q_t1, q_l1, q_t2, q_l2, q_t3, q_l3, q_t4, q_l4, q_t5, q_l5, q_t6, q_l6, q_t7, q_l7, q_t8, q_l8, q_t9, q_l9, q_t10, q_l10, q_t11, q_l11, q_t12, q_l12, q_t13, q_l13, q_t14, q_l14, q_t15, q_l15, q_t16, q_l16, q_t17, q_l17, q_t18, q_l18, q_t19, q_l19, q_notK, gets, sets, wipes, cmpop, ofB, isv, eqh_int, eqh_str, eqh_bl, bfn, bInt, bLen, bTup, items, add_int, sub_int, app_at, app_at0, app_put, app_put0, alloc_0, cturn, i1]
        rw [run_nx]
        rw [run_cons]
        simp [R.bind_ok, R.calm_ok, q_cst, q_var, q_varK, q_bin, q_binK, q_binK2, q_neg, q_negK, q_not, q_and, q_andK_t, q_andK_f, q_or, q_orK_t, q_orK_f, q_cmp, q_cmpK, q_cmpK2, q_cmp2, q_cmp2K, q_cmp2K2, q_cmp2K3_t, q_cmp2K3_f, q_ite, q_iteK_t, q_iteK_f, q_tup, q_lst, q_dic, q_sub, q_subK, q_subK2, q_slc, q_slcK, q_slcK2, q_slcK3, q_rev, q_call, q_callK, q_bf, q_bfK, q_mt, q_mtK, q_mtK2, q_mt_int, q_lc, q_lcF, q_bfc, q_cfK, q_idx, q_idxK, q_nil, q_cons, q_consK, q_consK2, q_of, q_srcK_tup, q_srcK_str, q_srcK_ref, q_rng1, q_rng1K, q_rng2, q_rng2K, q_zip, q_zipK_tup, q_zipK_ref, q_enum, q_enumK, q_nm, q_tp, q_tpK, q_tpK_ref, q_sb, q_sbK, q_sbK2, q_unK, q_snil, q_scons, q_stoK, q_tnil, q_tcons, q_evtK_t, q_evtK_f, q_mk, q_evcK, q_asg, q_asgK, q_nxK, q_aug, q_augK, q_augK2, q_augK3, q_ife, q_ifeK_t, q_ifeK_f, q_for, q_forG, q_ret, q_retK, q_retn, q_expr, q_dropK, q_pass, q_brk, q_cont, q_try, q_xnil, q_xcons, q_nx, q_rt, q_bk, q_ct, q_tst, q_tstK, q_fin_rt, q_fin_nx, q_t0, q_l0, q_t1, q_l1, q_t2, q_l2, q_t3, q_l3, q_t4, q_l4, q_t5, q_l5, q_t6, q_l6, q_t7, q_l7, q_t8, q_l8, q_t9, q_l9, q_t10, q_l10, q_t11, q_l11, q_t12, q_l12, q_t13, q_l13, q_t14, q_l14, q_t15, q_l15, q_t16, q_l16, q_t17, q_l17, q_t18, q_l18, q_t19, q_l19, q_notK, gets, sets, wipes, cmpop, ofB, isv, eqh_int, eqh_str, eqh_bl, bfn, bInt, bLen, bTup, items, add_int, sub_int, app_at, app_at0, app_put, app_put0, alloc_0, cturn, sl]
        rw [run_nx]
        rcases intN e2 with ⟨n1, rfl, rfl⟩ | ⟨b1, rfl, rfl⟩ | ⟨f1, f2, f3⟩
        · rcases intN e4 with ⟨k1, rfl, rfl⟩ | ⟨b2, rfl, rfl⟩ | ⟨f4, f5, f6⟩
          · have e3 : isRealB (.tup [a, .int n1, .int k1]) = fitsB n1 k1 := by
              cases a with
              | str s =>
                have hs : (s == REAL) = true := ha
                simp [isRealB, hs]
              | _ => cases ha
            have al : turns [] (cturn (call kd P (d + 2)) kd [3] (.nm 3) .nil (.and (.bf .isinst (.cons (.var 3) (.cons (.cst (.ty .int)) .nil))) (.not (.bf .isinst (.cons (.var 3) (.cons (.cst (.ty .bool)) .nil))))) [some (.tup [a, .int n1, .int k1]), some (.int n1), some (.int k1), none]) [.int n1, .int k1] h [] = .ok [.bl true, .bl true] h := al
            rw [run_cons]
            simp [R.bind_ok, R.calm_ok, q_cst, q_var, q_varK, q_bin, q_binK, q_binK2, q_neg, q_negK, q_not, q_and, q_andK_t, q_andK_f, q_or, q_orK_t, q_orK_f, q_cmp, q_cmpK, q_cmpK2, q_cmp2, q_cmp2K, q_cmp2K2, q_cmp2K3_t, q_cmp2K3_f, q_ite, q_iteK_t, q_iteK_f, q_tup, q_lst, q_dic, q_sub, q_subK, q_subK2, q_slc, q_slcK, q_slcK2, q_slcK3, q_rev, q_call, q_callK, q_bf, q_bfK, q_mt, q_mtK, q_mtK2, q_mt_int, q_lc, q_lcF, q_bfc, q_cfK, q_idx, q_idxK, q_nil, q_cons, q_consK, q_consK2, q_of, q_srcK_tup, q_srcK_str, q_srcK_ref, q_rng1, q_rng1K, q_rng2, q_rng2K, q_zip, q_zipK_tup, q_zipK_ref, q_enum, q_enumK, q_nm, q_tp, q_tpK, q_tpK_ref, q_sb, q_sbK, q_sbK2, q_unK, q_snil, q_scons, q_stoK, q_tnil, q_tcons, q_evtK_t, q_evtK_f, q_mk, q_evcK, q_asg, q_asgK, q_nxK, q_aug, q_augK, q_augK2, q_augK3, q_ife, q_ifeK_t, q_ifeK_f, q_for, q_forG, q_ret, q_retK, q_retn, q_expr, q_dropK, q_pass, q_brk, q_cont, q_try, q_xnil, q_xcons, q_nx, q_rt, q_bk, q_ct, q_tst, q_tstK, q_fin_rt, q_fin_nx, q_t0, q_l0, q_t1, q_l1, q_t2, q_l2, q_t3, q_l3, q_t4, q_l4, q_t5, q_l5, q_t6, q_l6, q_t7, q_l7, q_t8, q_l8, q_t9, q_l9, q_t10, q_l10, q_t11, q_l11, q_t12, q_l12, q_t13, q_l13, q_t14, q_l14, q_t15, q_l15, q_t16, q_l16, q_t17, q_l17, q_t18, q_l18, q_t19, q_l19, q_notK, gets, sets, wipes, cmpop, ofB, isv, eqh_int, eqh_str, eqh_bl, bfn, bInt, bLen, bTup, items, add_int, sub_int, app_at, app_at0, app_put, app_put0, alloc_0, cturn, al, cfn, boolsW]
            rw [run_nx]
            by_cases h1 : n1 = 0 ∨ k1 < -1074 ∨ 1023 < k1
            · rw [e3, fits_off h1]
              by_cases z1 : n1 = 0
              · subst z1
                rw [run_cons]
                simp [R.bind_ok, R.calm_ok, q_cst, q_var, q_varK, q_bin, q_binK, q_binK2, q_neg, q_negK, q_not, q_and, q_andK_t, q_andK_f, q_or, q_orK_t, q_orK_f, q_cmp, q_cmpK, q_cmpK2, q_cmp2, q_cmp2K, q_cmp2K2, q_cmp2K3_t, q_cmp2K3_f, q_ite, q_iteK_t, q_iteK_f, q_tup, q_lst, q_dic, q_sub, q_subK, q_subK2, q_slc, q_slcK, q_slcK2, q_slcK3, q_rev, q_call, q_callK, q_bf, q_bfK, q_mt, q_mtK, q_mtK2, q_mt_int, q_lc, q_lcF, q_bfc, q_cfK, q_idx, q_idxK, q_nil, q_cons, q_consK, q_consK2, q_of, q_srcK_tup, q_srcK_str, q_srcK_ref, q_rng1, q_rng1K, q_rng2, q_rng2K, q_zip, q_zipK_tup, q_zipK_ref, q_enum, q_enumK, q_nm, q_tp, q_tpK, q_tpK_ref, q_sb, q_sbK, q_sbK2, q_unK, q_snil, q_scons, q_stoK, q_tnil, q_tcons, q_evtK_t, q_evtK_f, q_mk, q_evcK, q_asg, q_asgK, q_nxK, q_aug, q_augK, q_augK2, q_augK3, q_ife, q_ifeK_t, q_ifeK_f, q_for, q_forG, q_ret, q_retK, q_retn, q_expr, q_dropK, q_pass, q_brk, q_cont, q_try, q_xnil, q_xcons, q_nx, q_rt, q_bk, q_ct, q_tst, q_tstK, q_fin_rt, q_fin_nx, q_t0, q_l0, q_t1, q_l1, q_t2, q_l2, q_t3, q_l3, q_t4, q_l4, q_t5, q_l5, q_t6, q_l6, q_t7, q_l7, q_t8, q_l8, q_t9, q_l9, q_t10, q_l10, q_t11, q_l11, q_t12, q_l12, q_t13, q_l13, q_t14, q_l14, q_t15, q_l15, q_t16, q_l16, q_t17, q_l17, q_t18, q_l18, q_t19, q_l19, q_notK, gets, sets, wipes, cmpop, ofB, isv, eqh_int, eqh_str, eqh_bl, bfn, bInt, bLen, bTup, items, add_int, sub_int, app_at, app_at0, app_put, app_put0, alloc_0, cturn, run_rt, run_nx, run_nil]
                rfl
              · have z2 : (n1 == 0) = false := by simpa using z1
                by_cases z3 : k1 < -1074
                · rw [run_cons]
                  simp [R.bind_ok, R.calm_ok, q_cst, q_var, q_varK, q_bin, q_binK, q_binK2, q_neg, q_negK, q_not, q_and, q_andK_t, q_andK_f, q_or, q_orK_t, q_orK_f, q_cmp, q_cmpK, q_cmpK2, q_cmp2, q_cmp2K, q_cmp2K2, q_cmp2K3_t, q_cmp2K3_f, q_ite, q_iteK_t, q_iteK_f, q_tup, q_lst, q_dic, q_sub, q_subK, q_subK2, q_slc, q_slcK, q_slcK2, q_slcK3, q_rev, q_call, q_callK, q_bf, q_bfK, q_mt, q_mtK, q_mtK2, q_mt_int, q_lc, q_lcF, q_bfc, q_cfK, q_idx, q_idxK, q_nil, q_cons, q_consK, q_consK2, q_of, q_srcK_tup, q_srcK_str, q_srcK_ref, q_rng1, q_rng1K, q_rng2, q_rng2K, q_zip, q_zipK_tup, q_zipK_ref, q_enum, q_enumK, q_nm, q_tp, q_tpK, q_tpK_ref, q_sb, q_sbK, q_sbK2, q_unK, q_snil, q_scons, q_stoK, q_tnil, q_tcons, q_evtK_t, q_evtK_f, q_mk, q_evcK, q_asg, q_asgK, q_nxK, q_aug, q_augK, q_augK2, q_augK3, q_ife, q_ifeK_t, q_ifeK_f, q_for, q_forG, q_ret, q_retK, q_retn, q_expr, q_dropK, q_pass, q_brk, q_cont, q_try, q_xnil, q_xcons, q_nx, q_rt, q_bk, q_ct, q_tst, q_tstK, q_fin_rt, q_fin_nx, q_t0, q_l0, q_t1, q_l1, q_t2, q_l2, q_t3, q_l3, q_t4, q_l4, q_t5, q_l5, q_t6, q_l6, q_t7, q_l7, q_t8, q_l8, q_t9, q_l9, q_t10, q_l10, q_t11, q_l11, q_t12, q_l12, q_t13, q_l13, q_t14, q_l14, q_t15, q_l15, q_t16, q_l16, q_t17, q_l17, q_t18, q_l18, q_t19, q_l19, q_notK, gets, sets, wipes, cmpop, ofB, isv, eqh_int, eqh_str, eqh_bl, bfn, bInt, bLen, bTup, items, add_int, sub_int, app_at, app_at0, app_put, app_put0, alloc_0, cturn, run_rt, run_nx, run_nil, z1, z2, z3]
                · have z4 : 1023 < k1 := by omega
                  rw [run_cons]
                  simp [R.bind_ok, R.calm_ok, q_cst, q_var, q_varK, q_bin, q_binK, q_binK2, q_neg, q_negK, q_not, q_and, q_andK_t, q_andK_f, q_or, q_orK_t, q_orK_f, q_cmp, q_cmpK, q_cmpK2, q_cmp2, q_cmp2K, q_cmp2K2, q_cmp2K3_t, q_cmp2K3_f, q_ite, q_iteK_t, q_iteK_f, q_tup, q_lst, q_dic, q_sub, q_subK, q_subK2, q_slc, q_slcK, q_slcK2, q_slcK3, q_rev, q_call, q_callK, q_bf, q_bfK, q_mt, q_mtK, q_mtK2, q_mt_int, q_lc, q_lcF, q_bfc, q_cfK, q_idx, q_idxK, q_nil, q_cons, q_consK, q_consK2, q_of, q_srcK_tup, q_srcK_str, q_srcK_ref, q_rng1, q_rng1K, q_rng2, q_rng2K, q_zip, q_zipK_tup, q_zipK_ref, q_enum, q_enumK, q_nm, q_tp, q_tpK, q_tpK_ref, q_sb, q_sbK, q_sbK2, q_unK, q_snil, q_scons, q_stoK, q_tnil, q_tcons, q_evtK_t, q_evtK_f, q_mk, q_evcK, q_asg, q_asgK, q_nxK, q_aug, q_augK, q_augK2, q_augK3, q_ife, q_ifeK_t, q_ifeK_f, q_for, q_forG, q_ret, q_retK, q_retn, q_expr, q_dropK, q_pass, q_brk, q_cont, q_try, q_xnil, q_xcons, q_nx, q_rt, q_bk, q_ct, q_tst, q_tstK, q_fin_rt, q_fin_nx, q_t0, q_l0, q_t1, q_l1, q_t2, q_l2, q_t3, q_l3, q_t4, q_l4, q_t5, q_l5, q_t6, q_l6, q_t7, q_l7, q_t8, q_l8, q_t9, q_l9, q_t10, q_l10, q_t11, q_l11, q_t12, q_l12, q_t13, q_l13, q_t14, q_l14, q_t15, q_l15, q_t16, q_l16, q_t17, q_l17, q_t18, q_l18, q_t19, q_l19, q_notK, gets, sets, wipes, cmpop, ofB, isv, eqh_int, eqh_str, eqh_bl, bfn, bInt, bLen, bTup, items, add_int, sub_int, app_at, app_at0, app_put, app_put0, alloc_0, cturn, run_rt, run_nx, run_nil, z1, z2, z3, z4]
            · have z1 : ¬ n1 = 0 := fun z => h1 (.inl z)
              have z3 : ¬ k1 < -1074 := fun z => h1 (.inr (.inl z))
              have z4 : ¬ 1023 < k1 := fun z => h1 (.inr (.inr z))
              rw [e3, fits_lem z1 z3 z4]
              have z2 : (n1 == 0) = false := by simpa using z1
              rw [run_cons]
              simp [R.bind_ok, R.calm_ok, q_cst, q_var, q_varK, q_bin, q_binK, q_binK2, q_neg, q_negK, q_not, q_and, q_andK_t, q_andK_f, q_or, q_orK_t, q_orK_f, q_cmp, q_cmpK, q_cmpK2, q_cmp2, q_cmp2K, q_cmp2K2, q_cmp2K3_t, q_cmp2K3_f, q_ite, q_iteK_t, q_iteK_f, q_tup, q_lst, q_dic, q_sub, q_subK, q_subK2, q_slc, q_slcK, q_slcK2, q_slcK3, q_rev, q_call, q_callK, q_bf, q_bfK, q_mt, q_mtK, q_mtK2, q_mt_int, q_lc, q_lcF, q_bfc, q_cfK, q_idx, q_idxK, q_nil, q_cons, q_consK, q_consK2, q_of, q_srcK_tup, q_srcK_str, q_srcK_ref, q_rng1, q_rng1K, q_rng2, q_rng2K, q_zip, q_zipK_tup, q_zipK_ref, q_enum, q_enumK, q_nm, q_tp, q_tpK, q_tpK_ref, q_sb, q_sbK, q_sbK2, q_unK, q_snil, q_scons, q_stoK, q_tnil, q_tcons, q_evtK_t, q_evtK_f, q_mk, q_evcK, q_asg, q_asgK, q_nxK, q_aug, q_augK, q_augK2, q_augK3, q_ife, q_ifeK_t, q_ifeK_f, q_for, q_forG, q_ret, q_retK, q_retn, q_expr, q_dropK, q_pass, q_brk, q_cont, q_try, q_xnil, q_xcons, q_nx, q_rt, q_bk, q_ct, q_tst, q_tstK, q_fin_rt, q_fin_nx, q_t0, q_l0, q_t1, q_l1, q_t2, q_l2, q_t3, q_l3, q_t4, q_l4, q_t5, q_l5, q_t6, q_l6, q_t7, q_l7, q_t8, q_l8, q_t9, q_l9, q_t10, q_l10, q_t11, q_l11, q_t12, q_l12, q_t13, q_l13, q_t14, q_l14, q_t15, q_l15, q_t16, q_l16, q_t17, q_l17, q_t18, q_l18, q_t19, q_l19, q_notK, gets, sets, wipes, cmpop, ofB, isv, eqh_int, eqh_str, eqh_bl, bfn, bInt, bLen, bTup, items, add_int, sub_int, app_at, app_at0, app_put, app_put0, alloc_0, cturn, z2, z3, z4]
              rw [run_nx]
              have md := mod_ok (a := n1) (b := 2) (h := h) (by decide)
              by_cases o1 : n1 % 2 = 1
              · have o2 : (n1 % 2 == 1) = true := by simpa using o1
                have ab : (if n1 < 0 then -n1 else n1) = (n1.natAbs : Int) := by split <;> omega
                have sh : binop .shl (.int 1) (.int 53) h = .ok (.int (2 ^ 53)) h := shl_nat (k := 53) (by decide)
                have cn : ((n1.natAbs : Int) < 2 ^ 53) ↔ n1.natAbs < 2 ^ 53 := by omega
                by_cases o3 : n1.natAbs < 2 ^ 53
                · have hc := compared_t (kd := kd) (P := P) (d := d + 1) (h := h) (m := (n1.natAbs : Int)) (k := k1) (by rw [Int.natAbs_natCast]; exact Nat.lt_of_lt_of_le o3 (Nat.pow_le_pow_right (by decide) (by decide))) (by omega) (by omega)
                  have o4 := cn.mpr o3
                  have cn2 : ((n1.natAbs : Int) - 2 ^ (1024 - k1).toNat < 0) ↔ n1.natAbs < 2 ^ (1024 - k1).toNat := by
                    have : ((2 ^ (1024 - k1).toNat : Nat) : Int) = 2 ^ (1024 - k1).toNat := by simp
                    omega
                  have cn3 : decide ((n1.natAbs : Int) - 2 ^ (1024 - k1).toNat < 0) = decide (n1.natAbs < 2 ^ (1024 - k1).toNat) := decide_eq_decide.mpr cn2
                  rw [decide_eq_true o1, decide_eq_true o3, ← cn3]
                  clear cn cn2 cn3 o3
                  generalize (2 : Int) ^ 53 = w53 at *
                  generalize (2 : Int) ^ (1024 - k1).toNat = wk at *
                  generalize (n1.natAbs : Int) = na at *
                  rw [run_cons]
                  simp [R.bind_ok, R.calm_ok, q_cst, q_var, q_varK, q_bin, q_binK, q_binK2, q_neg, q_negK, q_not, q_and, q_andK_t, q_andK_f, q_or, q_orK_t, q_orK_f, q_cmp, q_cmpK, q_cmpK2, q_cmp2, q_cmp2K, q_cmp2K2, q_cmp2K3_t, q_cmp2K3_f, q_ite, q_iteK_t, q_iteK_f, q_tup, q_lst, q_dic, q_sub, q_subK, q_subK2, q_slc, q_slcK, q_slcK2, q_slcK3, q_rev, q_call, q_callK, q_bf, q_bfK, q_mt, q_mtK, q_mtK2, q_mt_int, q_lc, q_lcF, q_bfc, q_cfK, q_idx, q_idxK, q_nil, q_cons, q_consK, q_consK2, q_of, q_srcK_tup, q_srcK_str, q_srcK_ref, q_rng1, q_rng1K, q_rng2, q_rng2K, q_zip, q_zipK_tup, q_zipK_ref, q_enum, q_enumK, q_nm, q_tp, q_tpK, q_tpK_ref, q_sb, q_sbK, q_sbK2, q_unK, q_snil, q_scons, q_stoK, q_tnil, q_tcons, q_evtK_t, q_evtK_f, q_mk, q_evcK, q_asg, q_asgK, q_nxK, q_aug, q_augK, q_augK2, q_augK3, q_ife, q_ifeK_t, q_ifeK_f, q_for, q_forG, q_ret, q_retK, q_retn, q_expr, q_dropK, q_pass, q_brk, q_cont, q_try, q_xnil, q_xcons, q_nx, q_rt, q_bk, q_ct, q_tst, q_tstK, q_fin_rt, q_fin_nx, q_t0, q_l0, q_t1, q_l1, q_t2, q_l2, q_t3, q_l3, q_t4, q_l4, q_t5, q_l5, q_t6, q_l6, q_t7, q_l7, q_t8, q_l8, q_t9, q_l9, q_t10, q_l10, q_t11, q_l11, q_t12, q_l12, q_t13, q_l13, q_t14, q_l14, q_t15, q_l15, q_t16, q_l16, q_t17, q_l17, q_t18, q_l18, q_t19, q_l19, q_notK, gets, sets, wipes, cmpop, ofB, isv, eqh_int, eqh_str, eqh_bl, bfn, bInt, bLen, bTup, items, add_int, sub_int, app_at, app_at0, app_put, app_put0, alloc_0, cturn, run_rt, run_nx, run_nil, md, o2, ab, sh, o4, hc]
                · have o4 : ¬ ((n1.natAbs : Int) < 2 ^ 53) := fun z => o3 (cn.mp z)
                  rw [decide_eq_true o1, decide_eq_false o3]
                  clear cn o3
                  generalize (2 : Int) ^ 53 = w53 at *
                  generalize (n1.natAbs : Int) = na at *
                  rw [run_cons]
                  simp [R.bind_ok, R.calm_ok, q_cst, q_var, q_varK, q_bin, q_binK, q_binK2, q_neg, q_negK, q_not, q_and, q_andK_t, q_andK_f, q_or, q_orK_t, q_orK_f, q_cmp, q_cmpK, q_cmpK2, q_cmp2, q_cmp2K, q_cmp2K2, q_cmp2K3_t, q_cmp2K3_f, q_ite, q_iteK_t, q_iteK_f, q_tup, q_lst, q_dic, q_sub, q_subK, q_subK2, q_slc, q_slcK, q_slcK2, q_slcK3, q_rev, q_call, q_callK, q_bf, q_bfK, q_mt, q_mtK, q_mtK2, q_mt_int, q_lc, q_lcF, q_bfc, q_cfK, q_idx, q_idxK, q_nil, q_cons, q_consK, q_consK2, q_of, q_srcK_tup, q_srcK_str, q_srcK_ref, q_rng1, q_rng1K, q_rng2, q_rng2K, q_zip, q_zipK_tup, q_zipK_ref, q_enum, q_enumK, q_nm, q_tp, q_tpK, q_tpK_ref, q_sb, q_sbK, q_sbK2, q_unK, q_snil, q_scons, q_stoK, q_tnil, q_tcons, q_evtK_t, q_evtK_f, q_mk, q_evcK, q_asg, q_asgK, q_nxK, q_aug, q_augK, q_augK2, q_augK3, q_ife, q_ifeK_t, q_ifeK_f, q_for, q_forG, q_ret, q_retK, q_retn, q_expr, q_dropK, q_pass, q_brk, q_cont, q_try, q_xnil, q_xcons, q_nx, q_rt, q_bk, q_ct, q_tst, q_tstK, q_fin_rt, q_fin_nx, q_t0, q_l0, q_t1, q_l1, q_t2, q_l2, q_t3, q_l3, q_t4, q_l4, q_t5, q_l5, q_t6, q_l6, q_t7, q_l7, q_t8, q_l8, q_t9, q_l9, q_t10, q_l10, q_t11, q_l11, q_t12, q_l12, q_t13, q_l13, q_t14, q_l14, q_t15, q_l15, q_t16, q_l16, q_t17, q_l17, q_t18, q_l18, q_t19, q_l19, q_notK, gets, sets, wipes, cmpop, ofB, isv, eqh_int, eqh_str, eqh_bl, bfn, bInt, bLen, bTup, items, add_int, sub_int, app_at, app_at0, app_put, app_put0, alloc_0, cturn, run_rt, run_nx, run_nil, md, o2, ab, sh, o4]
              · have o2 : (n1 % 2 == 1) = false := by simpa using o1
                rw [decide_eq_false o1]
                rw [run_cons]
                simp [R.bind_ok, R.calm_ok, q_cst, q_var, q_varK, q_bin, q_binK, q_binK2, q_neg, q_negK, q_not, q_and, q_andK_t, q_andK_f, q_or, q_orK_t, q_orK_f, q_cmp, q_cmpK, q_cmpK2, q_cmp2, q_cmp2K, q_cmp2K2, q_cmp2K3_t, q_cmp2K3_f, q_ite, q_iteK_t, q_iteK_f, q_tup, q_lst, q_dic, q_sub, q_subK, q_subK2, q_slc, q_slcK, q_slcK2, q_slcK3, q_rev, q_call, q_callK, q_bf, q_bfK, q_mt, q_mtK, q_mtK2, q_mt_int, q_lc, q_lcF, q_bfc, q_cfK, q_idx, q_idxK, q_nil, q_cons, q_consK, q_consK2, q_of, q_srcK_tup, q_srcK_str, q_srcK_ref, q_rng1, q_rng1K, q_rng2, q_rng2K, q_zip, q_zipK_tup, q_zipK_ref, q_enum, q_enumK, q_nm, q_tp, q_tpK, q_tpK_ref, q_sb, q_sbK, q_sbK2, q_unK, q_snil, q_scons, q_stoK, q_tnil, q_tcons, q_evtK_t, q_evtK_f, q_mk, q_evcK, q_asg, q_asgK, q_nxK, q_aug, q_augK, q_augK2, q_augK3, q_ife, q_ifeK_t, q_ifeK_f, q_for, q_forG, q_ret, q_retK, q_retn, q_expr, q_dropK, q_pass, q_brk, q_cont, q_try, q_xnil, q_xcons, q_nx, q_rt, q_bk, q_ct, q_tst, q_tstK, q_fin_rt, q_fin_nx, q_t0, q_l0, q_t1, q_l1, q_t2, q_l2, q_t3, q_l3, q_t4, q_l4, q_t5, q_l5, q_t6, q_l6, q_t7, q_l7, q_t8, q_l8, q_t9, q_l9, q_t10, q_l10, q_t11, q_l11, q_t12, q_l12, q_t13, q_l13, q_t14, q_l14, q_t15, q_l15, q_t16, q_l16, q_t17, q_l17, q_t18, q_l18, q_t19, q_l19, q_notK, gets, sets, wipes, cmpop, ofB, isv, eqh_int, eqh_str, eqh_bl, bfn, bInt, bLen, bTup, items, add_int, sub_int, app_at, app_at0, app_put, app_put0, alloc_0, cturn, run_rt, run_nx, run_nil, md, o2]
          · have e3 : isRealB (.tup [a, .int n1, .bl b2]) = false := real3 fun _ _ _ _ _ z => by cases z
            have al : turns [] (cturn (call kd P (d + 2)) kd [3] (.nm 3) .nil (.and (.bf .isinst (.cons (.var 3) (.cons (.cst (.ty .int)) .nil))) (.not (.bf .isinst (.cons (.var 3) (.cons (.cst (.ty .bool)) .nil))))) [some (.tup [a, .int n1, .bl b2]), some (.int n1), some (.bl b2), none]) [.int n1, .bl b2] h [] = .ok [.bl true, .bl false] h := al
            rw [run_cons]
            simp [R.bind_ok, R.calm_ok, q_cst, q_var, q_varK, q_bin, q_binK, q_binK2, q_neg, q_negK, q_not, q_and, q_andK_t, q_andK_f, q_or, q_orK_t, q_orK_f, q_cmp, q_cmpK, q_cmpK2, q_cmp2, q_cmp2K, q_cmp2K2, q_cmp2K3_t, q_cmp2K3_f, q_ite, q_iteK_t, q_iteK_f, q_tup, q_lst, q_dic, q_sub, q_subK, q_subK2, q_slc, q_slcK, q_slcK2, q_slcK3, q_rev, q_call, q_callK, q_bf, q_bfK, q_mt, q_mtK, q_mtK2, q_mt_int, q_lc, q_lcF, q_bfc, q_cfK, q_idx, q_idxK, q_nil, q_cons, q_consK, q_consK2, q_of, q_srcK_tup, q_srcK_str, q_srcK_ref, q_rng1, q_rng1K, q_rng2, q_rng2K, q_zip, q_zipK_tup, q_zipK_ref, q_enum, q_enumK, q_nm, q_tp, q_tpK, q_tpK_ref, q_sb, q_sbK, q_sbK2, q_unK, q_snil, q_scons, q_stoK, q_tnil, q_tcons, q_evtK_t, q_evtK_f, q_mk, q_evcK, q_asg, q_asgK, q_nxK, q_aug, q_augK, q_augK2, q_augK3, q_ife, q_ifeK_t, q_ifeK_f, q_for, q_forG, q_ret, q_retK, q_retn, q_expr, q_dropK, q_pass, q_brk, q_cont, q_try, q_xnil, q_xcons, q_nx, q_rt, q_bk, q_ct, q_tst, q_tstK, q_fin_rt, q_fin_nx, q_t0, q_l0, q_t1, q_l1, q_t2, q_l2, q_t3, q_l3, q_t4, q_l4, q_t5, q_l5, q_t6, q_l6, q_t7, q_l7, q_t8, q_l8, q_t9, q_l9, q_t10, q_l10, q_t11, q_l11, q_t12, q_l12, q_t13, q_l13, q_t14, q_l14, q_t15, q_l15, q_t16, q_l16, q_t17, q_l17, q_t18, q_l18, q_t19, q_l19, q_notK, gets, sets, wipes, cmpop, ofB, isv, eqh_int, eqh_str, eqh_bl, bfn, bInt, bLen, bTup, items, add_int, sub_int, app_at, app_at0, app_put, app_put0, alloc_0, cturn, run_rt, run_nx, run_nil, al, cfn, boolsW, e3]
          · have e3 : isRealB (.tup [a, .int n1, c]) = false := real3 fun _ _ k _ _ z => absurd z (f5 k)
            rw [f4] at al
            have al : turns [] (cturn (call kd P (d + 2)) kd [3] (.nm 3) .nil (.and (.bf .isinst (.cons (.var 3) (.cons (.cst (.ty .int)) .nil))) (.not (.bf .isinst (.cons (.var 3) (.cons (.cst (.ty .bool)) .nil))))) [some (.tup [a, .int n1, c]), some (.int n1), some c, none]) [.int n1, c] h [] = .ok [.bl true, .bl false] h := al
            rw [run_cons]
            simp [R.bind_ok, R.calm_ok, q_cst, q_var, q_varK, q_bin, q_binK, q_binK2, q_neg, q_negK, q_not, q_and, q_andK_t, q_andK_f, q_or, q_orK_t, q_orK_f, q_cmp, q_cmpK, q_cmpK2, q_cmp2, q_cmp2K, q_cmp2K2, q_cmp2K3_t, q_cmp2K3_f, q_ite, q_iteK_t, q_iteK_f, q_tup, q_lst, q_dic, q_sub, q_subK, q_subK2, q_slc, q_slcK, q_slcK2, q_slcK3, q_rev, q_call, q_callK, q_bf, q_bfK, q_mt, q_mtK, q_mtK2, q_mt_int, q_lc, q_lcF, q_bfc, q_cfK, q_idx, q_idxK, q_nil, q_cons, q_consK, q_consK2, q_of, q_srcK_tup, q_srcK_str, q_srcK_ref, q_rng1, q_rng1K, q_rng2, q_rng2K, q_zip, q_zipK_tup, q_zipK_ref, q_enum, q_enumK, q_nm, q_tp, q_tpK, q_tpK_ref, q_sb, q_sbK, q_sbK2, q_unK, q_snil, q_scons, q_stoK, q_tnil, q_tcons, q_evtK_t, q_evtK_f, q_mk, q_evcK, q_asg, q_asgK, q_nxK, q_aug, q_augK, q_augK2, q_augK3, q_ife, q_ifeK_t, q_ifeK_f, q_for, q_forG, q_ret, q_retK, q_retn, q_expr, q_dropK, q_pass, q_brk, q_cont, q_try, q_xnil, q_xcons, q_nx, q_rt, q_bk, q_ct, q_tst, q_tstK, q_fin_rt, q_fin_nx, q_t0, q_l0, q_t1, q_l1, q_t2, q_l2, q_t3, q_l3, q_t4, q_l4, q_t5, q_l5, q_t6, q_l6, q_t7, q_l7, q_t8, q_l8, q_t9, q_l9, q_t10, q_l10, q_t11, q_l11, q_t12, q_l12, q_t13, q_l13, q_t14, q_l14, q_t15, q_l15, q_t16, q_l16, q_t17, q_l17, q_t18, q_l18, q_t19, q_l19, q_notK, gets, sets, wipes, cmpop, ofB, isv, eqh_int, eqh_str, eqh_bl, bfn, bInt, bLen, bTup, items, add_int, sub_int, app_at, app_at0, app_put, app_put0, alloc_0, cturn, run_rt, run_nx, run_nil, al, cfn, boolsW, e3]
        · have e3 : isRealB (.tup [a, .bl b1, c]) = false := real3 fun _ _ _ _ z _ => by cases z
          have al : turns [] (cturn (call kd P (d + 2)) kd [3] (.nm 3) .nil (.and (.bf .isinst (.cons (.var 3) (.cons (.cst (.ty .int)) .nil))) (.not (.bf .isinst (.cons (.var 3) (.cons (.cst (.ty .bool)) .nil))))) [some (.tup [a, .bl b1, c]), some (.bl b1), some c, none]) [.bl b1, c] h [] = .ok [.bl false, .bl (l.is .int && !l.is .bool)] h := al
          generalize (l.is .int && !l.is .bool) = v at *
          rw [run_cons]
          simp [R.bind_ok, R.calm_ok, q_cst, q_var, q_varK, q_bin, q_binK, q_binK2, q_neg, q_negK, q_not, q_and, q_andK_t, q_andK_f, q_or, q_orK_t, q_orK_f, q_cmp, q_cmpK, q_cmpK2, q_cmp2, q_cmp2K, q_cmp2K2, q_cmp2K3_t, q_cmp2K3_f, q_ite, q_iteK_t, q_iteK_f, q_tup, q_lst, q_dic, q_sub, q_subK, q_subK2, q_slc, q_slcK, q_slcK2, q_slcK3, q_rev, q_call, q_callK, q_bf, q_bfK, q_mt, q_mtK, q_mtK2, q_mt_int, q_lc, q_lcF, q_bfc, q_cfK, q_idx, q_idxK, q_nil, q_cons, q_consK, q_consK2, q_of, q_srcK_tup, q_srcK_str, q_srcK_ref, q_rng1, q_rng1K, q_rng2, q_rng2K, q_zip, q_zipK_tup, q_zipK_ref, q_enum, q_enumK, q_nm, q_tp, q_tpK, q_tpK_ref, q_sb, q_sbK, q_sbK2, q_unK, q_snil, q_scons, q_stoK, q_tnil, q_tcons, q_evtK_t, q_evtK_f, q_mk, q_evcK, q_asg, q_asgK, q_nxK, q_aug, q_augK, q_augK2, q_augK3, q_ife, q_ifeK_t, q_ifeK_f, q_for, q_forG, q_ret, q_retK, q_retn, q_expr, q_dropK, q_pass, q_brk, q_cont, q_try, q_xnil, q_xcons, q_nx, q_rt, q_bk, q_ct, q_tst, q_tstK, q_fin_rt, q_fin_nx, q_t0, q_l0, q_t1, q_l1, q_t2, q_l2, q_t3, q_l3, q_t4, q_l4, q_t5, q_l5, q_t6, q_l6, q_t7, q_l7, q_t8, q_l8, q_t9, q_l9, q_t10, q_l10, q_t11, q_l11, q_t12, q_l12, q_t13, q_l13, q_t14, q_l14, q_t15, q_l15, q_t16, q_l16, q_t17, q_l17, q_t18, q_l18, q_t19, q_l19, q_notK, gets, sets, wipes, cmpop, ofB, isv, eqh_int, eqh_str, eqh_bl, bfn, bInt, bLen, bTup, items, add_int, sub_int, app_at, app_at0, app_put, app_put0, alloc_0, cturn, run_rt, run_nx, run_nil, al, cfn, boolsW, e3]
        · have e3 : isRealB (.tup [a, b, c]) = false := real3 fun _ n _ _ z _ => absurd z (f2 n)
          rw [f1] at al
          have al : turns [] (cturn (call kd P (d + 2)) kd [3] (.nm 3) .nil (.and (.bf .isinst (.cons (.var 3) (.cons (.cst (.ty .int)) .nil))) (.not (.bf .isinst (.cons (.var 3) (.cons (.cst (.ty .bool)) .nil))))) [some (.tup [a, b, c]), some b, some c, none]) [b, c] h [] = .ok [.bl false, .bl (l.is .int && !l.is .bool)] h := al
          generalize (l.is .int && !l.is .bool) = v at *
          rw [run_cons]
          simp [R.bind_ok, R.calm_ok, q_cst, q_var, q_varK, q_bin, q_binK, q_binK2, q_neg, q_negK, q_not, q_and, q_andK_t, q_andK_f, q_or, q_orK_t, q_orK_f, q_cmp, q_cmpK, q_cmpK2, q_cmp2, q_cmp2K, q_cmp2K2, q_cmp2K3_t, q_cmp2K3_f, q_ite, q_iteK_t, q_iteK_f, q_tup, q_lst, q_dic, q_sub, q_subK, q_subK2, q_slc, q_slcK, q_slcK2, q_slcK3, q_rev, q_call, q_callK, q_bf, q_bfK, q_mt, q_mtK, q_mtK2, q_mt_int, q_lc, q_lcF, q_bfc, q_cfK, q_idx, q_idxK, q_nil, q_cons, q_consK, q_consK2, q_of, q_srcK_tup, q_srcK_str, q_srcK_ref, q_rng1, q_rng1K, q_rng2, q_rng2K, q_zip, q_zipK_tup, q_zipK_ref, q_enum, q_enumK, q_nm, q_tp, q_tpK, q_tpK_ref, q_sb, q_sbK, q_sbK2, q_unK, q_snil, q_scons, q_stoK, q_tnil, q_tcons, q_evtK_t, q_evtK_f, q_mk, q_evcK, q_asg, q_asgK, q_nxK, q_aug, q_augK, q_augK2, q_augK3, q_ife, q_ifeK_t, q_ifeK_f, q_for, q_forG, q_ret, q_retK, q_retn, q_expr, q_dropK, q_pass, q_brk, q_cont, q_try, q_xnil, q_xcons, q_nx, q_rt, q_bk, q_ct, q_tst, q_tstK, q_fin_rt, q_fin_nx, q_t0, q_l0, q_t1, q_l1, q_t2, q_l2, q_t3, q_l3, q_t4, q_l4, q_t5, q_l5, q_t6, q_l6, q_t7, q_l7, q_t8, q_l8, q_t9, q_l9, q_t10, q_l10, q_t11, q_l11, q_t12, q_l12, q_t13, q_l13, q_t14, q_l14, q_t15, q_l15, q_t16, q_l16, q_t17, q_l17, q_t18, q_l18, q_t19, q_l19, q_notK, gets, sets, wipes, cmpop, ofB, isv, eqh_int, eqh_str, eqh_bl, bfn, bInt, bLen, bTup, items, add_int, sub_int, app_at, app_at0, app_put, app_put0, alloc_0, cturn, run_rt, run_nx, run_nil, al, cfn, boolsW, e3]
  | .non, hx => exact go _ .non rfl rfl rfl
  | .bl b, hx => exact go _ .bool rfl rfl rfl
  | .int i, hx => exact go _ .int rfl rfl rfl
  | .str s, hx => exact go _ .str rfl rfl rfl
  | .ref r, hx =>
    obtain ⟨n, e⟩ := tyN_of (x := .ref r) hx
    refine go _ n e ?_ rfl
    simp only [tyN] at e
    split at e <;> first | (cases e; rfl) | cases e
end
end Vl
set_option maxRecDepth 100000
set_option maxHeartbeats 4000000
namespace Vl
/-! ### drawn REALs -/
theorem ibits_odd {a : Nat} {s : Bool} : ibits (if s then -((2 * a + 1 : Nat) : Int) else ((2 * a + 1 : Nat) : Int)) = (2 * a + 1).log2 + 1 := by
  unfold ibits
  cases s
  · simp only [Bool.false_eq_true, if_false]
    rw [if_neg (by omega)]
    rfl
  · simp only [if_true]
    rw [if_neg (by omega), Int.natAbs_neg]
    rfl
theorem real_odd {a t : Nat} {s : Bool} {k : Int} (hk : -1074 ≤ k) (h53 : 2 * a + 1 < 2 ^ 53) {j : Nat} (hj : (2 * a + 1) * 2 ^ t < 2 ^ j) (hb : (j : Int) + k ≤ 1024) :
    isRealB (.tup [.str sREAL, .int (if s then -((2 * a + 1 : Nat) : Int) else ((2 * a + 1 : Nat) : Int)), .int (k + t)]) = true := by
  have e : isRealB (.tup [.str sREAL, .int (if s then -((2 * a + 1 : Nat) : Int) else ((2 * a + 1 : Nat) : Int)), .int (k + t)]) = fitsB (if s then -((2 * a + 1 : Nat) : Int) else ((2 * a + 1 : Nat) : Int)) (k + t) := rfl
  rw [e]
  unfold fitsB
  rw [ibits_odd]
  have h2 : ¬ (if s then -((2 * a + 1 : Nat) : Int) else ((2 * a + 1 : Nat) : Int)) % 2 = 0 := by cases s <;> simp <;> omega
  rw [if_neg h2]
  have l1 : (2 * a + 1).log2 < 53 := (Nat.log2_lt (by omega)).mpr h53
  have l2 : (2 * a + 1).log2 + t < j := by
    have h1 : 2 ^ (2 * a + 1).log2 ≤ 2 * a + 1 := Nat.log2_self_le (by omega)
    have h3 : 2 ^ ((2 * a + 1).log2 + t) < 2 ^ j := by
      rw [Nat.pow_add]
      exact Nat.lt_of_le_of_lt (Nat.mul_le_mul_right _ h1) hj
    exact (Nat.pow_lt_pow_iff_right (by decide)).mp h3
  rw [decide_eq_true (by omega), decide_eq_true (by omega), decide_eq_true (by omega)]
  rfl
section
variable {kd : Kd} {P : List Fn} [Tab P] [KTab kd] {d : Nat} {h : L} {r q n : Nat}
theorem form_t {m : Nat} {k : Int} {s : Bool} (hm : m < 2 ^ 53) (hk : -1074 ≤ k) {j : Nat} (hj : m < 2 ^ j) (hb : (j : Int) + k ≤ 1024) :
    ∃ v, call kd P (d + 1) F_law_v_form [.int (m : Int), .int k, .bl s] h = .ok v h ∧ isRealB v = true := by
  by_cases h0 : m = 0
  · subst h0
    refine ⟨_, form_zero (h_law_v_form (P := P)) k s, ?_⟩
    cases s <;> rfl
  · obtain ⟨a, t, e⟩ := odd_two m (by omega)
    have ht := two_le e (Nat.lt_of_lt_of_le hm (by decide))
    rw [e] at hj hm ⊢
    refine ⟨_, form_ok (h_law_v_form (P := P)) a t k s (by omega), real_odd hk ?_ hj hb⟩
    exact Nat.lt_of_le_of_lt (Nat.le_mul_of_pos_right _ (Nat.two_pow_pos t)) hm
theorem great_t (S : Strm h r q n) (hn : n ≤ 900000) {m : Int} (hm : 0 < m) :
    ∃ x h', call kd P (d + 2) F_law_v_great [.ref r, .int m] h = .ok (.int x) h' ∧ 0 ≤ x ∧ x < m ∧ Strm h' r q (n + 8) ∧ Grow r q h h' := by
  obtain ⟨v, h', e, x, rfl, x0, x1, S', G'⟩ := great_ok (kd := kd) (d := d) (h_law_v_great (P := P)) h_law_draw S hn hm
  exact ⟨x, h', e, x0, x1, S', G'⟩
theorem pick_str_t (S : Strm h r q n) (hn : n ≤ 1000000) {s : List Nat} (h0 : s ≠ []) (hl : s.length ≤ 1000000) :
    ∃ c h', call kd P (d + 2) F_law_pick [.ref r, .str s] h = .ok (.str [c]) h' ∧ c ∈ s ∧ Strm h' r q (n + 1) ∧ Grow r q h h' := by
  obtain ⟨v, h', e, ⟨c, hc, rfl⟩, S', G'⟩ := pick_str (kd := kd) (d := d) (h_law_pick (P := P)) h_law_draw S hn h0 (Nat.le_trans hl (by decide))
  exact ⟨c, h', e, hc, S', G'⟩
theorem pick_new (S : Strm h r q n) (hn : n ≤ 1000000) (xs : List W) (h0 : xs ≠ []) (hl : xs.length ≤ 1000000) :
    ∃ v h', call kd P (d + 2) F_law_pick [.ref r, .ref h.length] (h ++ [O.lst xs]) = .ok v h' ∧ v ∈ xs ∧ Strm h' r q (n + 1) ∧ Grow r q h h' := by
  have lt := S.lt
  obtain ⟨v, h', e, m, S', G'⟩ := pick_lst_t (kd := kd) (P := P) (d := d) (S.ap (Ap.app (t := [O.lst xs]))) hn app_end (by omega) (by omega) h0 hl
  exact ⟨v, h', e, m, S', Grow.app.trans G'⟩
theorem drawn_real_t (S : Strm h r q n) (hn : n ≤ 800000) : ∃ v h', call kd P (d + 4) F_law_v_drawn_real [.ref r] h = .ok v h' ∧ isRealB v = true ∧ Strm h' r q (n + 20) ∧ Grow r q h h' := by
  obtain ⟨w, h1, e1, w0, w1, S1, G1⟩ := draw_t (kd := kd) (P := P) (d := d + 2) S (m := 8) (by omega) (by decide) (by decide)
  obtain ⟨g, h2, e2, g0, g1, S2, G2⟩ := draw_t (kd := kd) (P := P) (d := d + 2) S1 (m := 2) (by omega) (by decide) (by decide)
  rw [call_run h_law_v_drawn_real rfl]
  show ∃ v h', fin (runs (call kd P (d + 3)) kd (c_law_v_drawn_real F_law_draw F_law_pick F_law_v_form F_law_v_float F_law_v_great F_law_v_at).body [some (.ref r), none, none, none, none, none, none, none, none, none, none, none] h) = .ok v h' ∧ _
  simp only [c_law_v_drawn_real]
  have lt2 := S2.lt
  generalize hs : (g == 1) = s at *
  rw [run_cons]
  simp [R.bind_ok, R.calm_ok, q_cst, q_var, q_varK, q_bin, q_binK, q_binK2, q_neg, q_negK, q_not, q_and, q_andK_t, q_andK_f, q_or, q_orK_t, q_orK_f, q_cmp, q_cmpK, q_cmpK2, q_cmp2, q_cmp2K, q_cmp2K2, q_cmp2K3_t, q_cmp2K3_f, q_ite, q_iteK_t, q_iteK_f, q_tup, q_lst, q_dic, q_sub, q_subK, q_subK2, q_slc, q_slcK, q_slcK2, q_slcK3, q_rev, q_call, q_callK, q_bf, q_bfK, q_mt, q_mtK, q_mtK2, q_mt_int, q_lc, q_lcF, q_bfc, q_cfK, q_idx, q_idxK, q_nil, q_cons, q_consK, q_consK2, q_of, q_srcK_tup, q_srcK_str, q_srcK_ref, q_rng1, q_rng1K, q_rng2, q_rng2K, q_zip, q_zipK_tup, q_zipK_ref, q_enum, q_enumK, q_nm, q_tp, q_tpK, q_tpK_ref, q_sb, q_sbK, q_sbK2, q_unK, q_snil, q_scons, q_stoK, q_tnil, q_tcons, q_evtK_t, q_evtK_f, q_mk, q_evcK, q_asg, q_asgK, q_nxK, q_aug, q_augK, q_augK2, q_augK3, q_ife, q_ifeK_t, q_ifeK_f, q_for, q_forG, q_ret, q_retK, q_retn, q_expr, q_dropK, q_pass, q_brk, q_cont, q_try, q_xnil, q_xcons, q_nx, q_rt, q_bk, q_ct, q_tst, q_tstK, q_fin_rt, q_fin_nx, q_t0, q_l0, q_t1, q_l1, q_t2, q_l2, q_t3, q_l3, q_t4, q_l4, q_t5, q_l5, q_t6, q_l6, q_t7, q_l7, q_t8, q_l8, q_t9, q_l9, q_t10, q_l10, q_t11, q_l11, q_t12, q_l12, q_t13, q_l13, q_t14, q_l14, q_t15, q_l15, q_t16, q_l16, q_t17, q_l17, q_t18, q_l18, q_t19, q_l19, q_notK, gets, sets, wipes, cmpop, ofB, isv, eqh_int, eqh_str, eqh_bl, bfn, bIsi, isT, isTs, tyN, tysOf, TN.is, bInt, bLen, bTup, items, add_int, sub_int, app_at, app_at0, app_put, app_put0, alloc_0, cturn, e1, e2, hs]
  rw [run_nx]
  by_cases w2 : w = 0
  · subst w2
    obtain ⟨v, h3, e3, m3, S3, G3⟩ := pick_new (kd := kd) (P := P) (d := d + 1) S2 (by omega) [.tup [.str REAL, .str [45, 48]], .tup [.str REAL, .str [105, 110, 102]], .tup [.str REAL, .str [45, 105, 110, 102]], .tup [.str REAL, .str [110, 97, 110]], .tup [.str REAL, .int 0, .int 0]] (by simp) (by simp)
    refine ⟨v, h3, ?_, ?_, S3.mono (by omega), (G1.trans G2).trans G3⟩
    · unfold REAL at e3
      rw [run_cons]
      simp [R.bind_ok, R.calm_ok, q_cst, q_var, q_varK, q_bin, q_binK, q_binK2, q_neg, q_negK, q_not, q_and, q_andK_t, q_andK_f, q_or, q_orK_t, q_orK_f, q_cmp, q_cmpK, q_cmpK2, q_cmp2, q_cmp2K, q_cmp2K2, q_cmp2K3_t, q_cmp2K3_f, q_ite, q_iteK_t, q_iteK_f, q_tup, q_lst, q_dic, q_sub, q_subK, q_subK2, q_slc, q_slcK, q_slcK2, q_slcK3, q_rev, q_call, q_callK, q_bf, q_bfK, q_mt, q_mtK, q_mtK2, q_mt_int, q_lc, q_lcF, q_bfc, q_cfK, q_idx, q_idxK, q_nil, q_cons, q_consK, q_consK2, q_of, q_srcK_tup, q_srcK_str, q_srcK_ref, q_rng1, q_rng1K, q_rng2, q_rng2K, q_zip, q_zipK_tup, q_zipK_ref, q_enum, q_enumK, q_nm, q_tp, q_tpK, q_tpK_ref, q_sb, q_sbK, q_sbK2, q_unK, q_snil, q_scons, q_stoK, q_tnil, q_tcons, q_evtK_t, q_evtK_f, q_mk, q_evcK, q_asg, q_asgK, q_nxK, q_aug, q_augK, q_augK2, q_augK3, q_ife, q_ifeK_t, q_ifeK_f, q_for, q_forG, q_ret, q_retK, q_retn, q_expr, q_dropK, q_pass, q_brk, q_cont, q_try, q_xnil, q_xcons, q_nx, q_rt, q_bk, q_ct, q_tst, q_tstK, q_fin_rt, q_fin_nx, q_t0, q_l0, q_t1, q_l1, q_t2, q_l2, q_t3, q_l3, q_t4, q_l4, q_t5, q_l5, q_t6, q_l6, q_t7, q_l7, q_t8, q_l8, q_t9, q_l9, q_t10, q_l10, q_t11, q_l11, q_t12, q_l12, q_t13, q_l13, q_t14, q_l14, q_t15, q_l15, q_t16, q_l16, q_t17, q_l17, q_t18, q_l18, q_t19, q_l19, q_notK, gets, sets, wipes, cmpop, ofB, isv, eqh_int, eqh_str, eqh_bl, bfn, bIsi, isT, isTs, tyN, tysOf, TN.is, bInt, bLen, bTup, items, add_int, sub_int, app_at, app_at0, app_put, app_put0, alloc_0, cturn, run_rt, run_nx, run_nil, e3]
    · simp only [List.mem_cons, List.not_mem_nil, or_false] at m3
      rcases m3 with rfl | rfl | rfl | rfl | rfl <;> rfl
  have w3 : (w == 0) = false := by simpa using w2
  rw [run_cons]
  simp [R.bind_ok, R.calm_ok, q_cst, q_var, q_varK, q_bin, q_binK, q_binK2, q_neg, q_negK, q_not, q_and, q_andK_t, q_andK_f, q_or, q_orK_t, q_orK_f, q_cmp, q_cmpK, q_cmpK2, q_cmp2, q_cmp2K, q_cmp2K2, q_cmp2K3_t, q_cmp2K3_f, q_ite, q_iteK_t, q_iteK_f, q_tup, q_lst, q_dic, q_sub, q_subK, q_subK2, q_slc, q_slcK, q_slcK2, q_slcK3, q_rev, q_call, q_callK, q_bf, q_bfK, q_mt, q_mtK, q_mtK2, q_mt_int, q_lc, q_lcF, q_bfc, q_cfK, q_idx, q_idxK, q_nil, q_cons, q_consK, q_consK2, q_of, q_srcK_tup, q_srcK_str, q_srcK_ref, q_rng1, q_rng1K, q_rng2, q_rng2K, q_zip, q_zipK_tup, q_zipK_ref, q_enum, q_enumK, q_nm, q_tp, q_tpK, q_tpK_ref, q_sb, q_sbK, q_sbK2, q_unK, q_snil, q_scons, q_stoK, q_tnil, q_tcons, q_evtK_t, q_evtK_f, q_mk, q_evcK, q_asg, q_asgK, q_nxK, q_aug, q_augK, q_augK2, q_augK3, q_ife, q_ifeK_t, q_ifeK_f, q_for, q_forG, q_ret, q_retK, q_retn, q_expr, q_dropK, q_pass, q_brk, q_cont, q_try, q_xnil, q_xcons, q_nx, q_rt, q_bk, q_ct, q_tst, q_tstK, q_fin_rt, q_fin_nx, q_t0, q_l0, q_t1, q_l1, q_t2, q_l2, q_t3, q_l3, q_t4, q_l4, q_t5, q_l5, q_t6, q_l6, q_t7, q_l7, q_t8, q_l8, q_t9, q_l9, q_t10, q_l10, q_t11, q_l11, q_t12, q_l12, q_t13, q_l13, q_t14, q_l14, q_t15, q_l15, q_t16, q_l16, q_t17, q_l17, q_t18, q_l18, q_t19, q_l19, q_notK, gets, sets, wipes, cmpop, ofB, isv, eqh_int, eqh_str, eqh_bl, bfn, bIsi, isT, isTs, tyN, tysOf, TN.is, bInt, bLen, bTup, items, add_int, sub_int, app_at, app_at0, app_put, app_put0, alloc_0, cturn, w3]
  rw [run_nx]
  by_cases w4 : w = 1
  · subst w4
    obtain ⟨x, h3, e3, x0, x1, S3, G3⟩ := draw_t (kd := kd) (P := P) (d := d + 2) S2 (m := 40) (by omega) (by decide) (by decide)
    obtain ⟨y, h4, e4, y0, y1, S4, G4⟩ := draw_t (kd := kd) (P := P) (d := d + 2) S3 (m := 9) (by omega) (by decide) (by decide)
    obtain ⟨x, rfl⟩ := Int.eq_ofNat_of_zero_le x0
    obtain ⟨v, e5, hv⟩ := form_t (kd := kd) (P := P) (d := d + 2) (h := h4) (m := x) (k := y - 4) (s := s) (j := 6) (by omega) (by omega) (by omega) (by omega)
    refine ⟨v, h4, ?_, hv, S4.mono (by omega), (G1.trans G2).trans (G3.trans G4)⟩
    rw [run_cons]
    simp [R.bind_ok, R.calm_ok, q_cst, q_var, q_varK, q_bin, q_binK, q_binK2, q_neg, q_negK, q_not, q_and, q_andK_t, q_andK_f, q_or, q_orK_t, q_orK_f, q_cmp, q_cmpK, q_cmpK2, q_cmp2, q_cmp2K, q_cmp2K2, q_cmp2K3_t, q_cmp2K3_f, q_ite, q_iteK_t, q_iteK_f, q_tup, q_lst, q_dic, q_sub, q_subK, q_subK2, q_slc, q_slcK, q_slcK2, q_slcK3, q_rev, q_call, q_callK, q_bf, q_bfK, q_mt, q_mtK, q_mtK2, q_mt_int, q_lc, q_lcF, q_bfc, q_cfK, q_idx, q_idxK, q_nil, q_cons, q_consK, q_consK2, q_of, q_srcK_tup, q_srcK_str, q_srcK_ref, q_rng1, q_rng1K, q_rng2, q_rng2K, q_zip, q_zipK_tup, q_zipK_ref, q_enum, q_enumK, q_nm, q_tp, q_tpK, q_tpK_ref, q_sb, q_sbK, q_sbK2, q_unK, q_snil, q_scons, q_stoK, q_tnil, q_tcons, q_evtK_t, q_evtK_f, q_mk, q_evcK, q_asg, q_asgK, q_nxK, q_aug, q_augK, q_augK2, q_augK3, q_ife, q_ifeK_t, q_ifeK_f, q_for, q_forG, q_ret, q_retK, q_retn, q_expr, q_dropK, q_pass, q_brk, q_cont, q_try, q_xnil, q_xcons, q_nx, q_rt, q_bk, q_ct, q_tst, q_tstK, q_fin_rt, q_fin_nx, q_t0, q_l0, q_t1, q_l1, q_t2, q_l2, q_t3, q_l3, q_t4, q_l4, q_t5, q_l5, q_t6, q_l6, q_t7, q_l7, q_t8, q_l8, q_t9, q_l9, q_t10, q_l10, q_t11, q_l11, q_t12, q_l12, q_t13, q_l13, q_t14, q_l14, q_t15, q_l15, q_t16, q_l16, q_t17, q_l17, q_t18, q_l18, q_t19, q_l19, q_notK, gets, sets, wipes, cmpop, ofB, isv, eqh_int, eqh_str, eqh_bl, bfn, bIsi, isT, isTs, tyN, tysOf, TN.is, bInt, bLen, bTup, items, add_int, sub_int, app_at, app_at0, app_put, app_put0, alloc_0, cturn, run_rt, run_nx, run_nil, e3, e4, e5]
  have w5 : (w == 1) = false := by simpa using w4
  rw [run_cons]
  simp [R.bind_ok, R.calm_ok, q_cst, q_var, q_varK, q_bin, q_binK, q_binK2, q_neg, q_negK, q_not, q_and, q_andK_t, q_andK_f, q_or, q_orK_t, q_orK_f, q_cmp, q_cmpK, q_cmpK2, q_cmp2, q_cmp2K, q_cmp2K2, q_cmp2K3_t, q_cmp2K3_f, q_ite, q_iteK_t, q_iteK_f, q_tup, q_lst, q_dic, q_sub, q_subK, q_subK2, q_slc, q_slcK, q_slcK2, q_slcK3, q_rev, q_call, q_callK, q_bf, q_bfK, q_mt, q_mtK, q_mtK2, q_mt_int, q_lc, q_lcF, q_bfc, q_cfK, q_idx, q_idxK, q_nil, q_cons, q_consK, q_consK2, q_of, q_srcK_tup, q_srcK_str, q_srcK_ref, q_rng1, q_rng1K, q_rng2, q_rng2K, q_zip, q_zipK_tup, q_zipK_ref, q_enum, q_enumK, q_nm, q_tp, q_tpK, q_tpK_ref, q_sb, q_sbK, q_sbK2, q_unK, q_snil, q_scons, q_stoK, q_tnil, q_tcons, q_evtK_t, q_evtK_f, q_mk, q_evcK, q_asg, q_asgK, q_nxK, q_aug, q_augK, q_augK2, q_augK3, q_ife, q_ifeK_t, q_ifeK_f, q_for, q_forG, q_ret, q_retK, q_retn, q_expr, q_dropK, q_pass, q_brk, q_cont, q_try, q_xnil, q_xcons, q_nx, q_rt, q_bk, q_ct, q_tst, q_tstK, q_fin_rt, q_fin_nx, q_t0, q_l0, q_t1, q_l1, q_t2, q_l2, q_t3, q_l3, q_t4, q_l4, q_t5, q_l5, q_t6, q_l6, q_t7, q_l7, q_t8, q_l8, q_t9, q_l9, q_t10, q_l10, q_t11, q_l11, q_t12, q_l12, q_t13, q_l13, q_t14, q_l14, q_t15, q_l15, q_t16, q_l16, q_t17, q_l17, q_t18, q_l18, q_t19, q_l19, q_notK, gets, sets, wipes, cmpop, ofB, isv, eqh_int, eqh_str, eqh_bl, bfn, bIsi, isT, isTs, tyN, tysOf, TN.is, bInt, bLen, bTup, items, add_int, sub_int, app_at, app_at0, app_put, app_put0, alloc_0, cturn, w5]
  rw [run_nx]
  obtain ⟨c0, h3, e3, m3, S3, G3⟩ := pick_str_t (kd := kd) (P := P) (d := d + 1) S2 (s := [101, 101, 102, 102, 102, 100]) (by omega) (by simp) (by simp)
  rw [run_cons]
  simp [R.bind_ok, R.calm_ok, q_cst, q_var, q_varK, q_bin, q_binK, q_binK2, q_neg, q_negK, q_not, q_and, q_andK_t, q_andK_f, q_or, q_orK_t, q_orK_f, q_cmp, q_cmpK, q_cmpK2, q_cmp2, q_cmp2K, q_cmp2K2, q_cmp2K3_t, q_cmp2K3_f, q_ite, q_iteK_t, q_iteK_f, q_tup, q_lst, q_dic, q_sub, q_subK, q_subK2, q_slc, q_slcK, q_slcK2, q_slcK3, q_rev, q_call, q_callK, q_bf, q_bfK, q_mt, q_mtK, q_mtK2, q_mt_int, q_lc, q_lcF, q_bfc, q_cfK, q_idx, q_idxK, q_nil, q_cons, q_consK, q_consK2, q_of, q_srcK_tup, q_srcK_str, q_srcK_ref, q_rng1, q_rng1K, q_rng2, q_rng2K, q_zip, q_zipK_tup, q_zipK_ref, q_enum, q_enumK, q_nm, q_tp, q_tpK, q_tpK_ref, q_sb, q_sbK, q_sbK2, q_unK, q_snil, q_scons, q_stoK, q_tnil, q_tcons, q_evtK_t, q_evtK_f, q_mk, q_evcK, q_asg, q_asgK, q_nxK, q_aug, q_augK, q_augK2, q_augK3, q_ife, q_ifeK_t, q_ifeK_f, q_for, q_forG, q_ret, q_retK, q_retn, q_expr, q_dropK, q_pass, q_brk, q_cont, q_try, q_xnil, q_xcons, q_nx, q_rt, q_bk, q_ct, q_tst, q_tstK, q_fin_rt, q_fin_nx, q_t0, q_l0, q_t1, q_l1, q_t2, q_l2, q_t3, q_l3, q_t4, q_l4, q_t5, q_l5, q_t6, q_l6, q_t7, q_l7, q_t8, q_l8, q_t9, q_l9, q_t10, q_l10, q_t11, q_l11, q_t12, q_l12, q_t13, q_l13, q_t14, q_l14, q_t15, q_l15, q_t16, q_l16, q_t17, q_l17, q_t18, q_l18, q_t19, q_l19, q_notK, gets, sets, wipes, cmpop, ofB, isv, eqh_int, eqh_str, eqh_bl, bfn, bIsi, isT, isTs, tyN, tysOf, TN.is, bInt, bLen, bTup, items, add_int, sub_int, app_at, app_at0, app_put, app_put0, alloc_0, cturn, e3]
  rw [run_nx]
  have hc : ∃ p w l bd, FC [c0] p w l bd ∧ ((c0 == 100) = false → p ≤ 23 ∧ bd ≤ 128 ∧ -149 ≤ l) := by
    simp only [List.mem_cons, List.not_mem_nil, or_false] at m3
    rcases m3 with rfl | rfl | rfl | rfl | rfl | rfl
    · exact ⟨_, _, _, _, .e, fun _ => by decide⟩
    · exact ⟨_, _, _, _, .e, fun _ => by decide⟩
    · exact ⟨_, _, _, _, .f, fun _ => by decide⟩
    · exact ⟨_, _, _, _, .f, fun _ => by decide⟩
    · exact ⟨_, _, _, _, .f, fun _ => by decide⟩
    · exact ⟨_, _, _, _, .d, fun z => by cases z⟩
  obtain ⟨p, wd, l, bd, c, hsm⟩ := hc
  obtain ⟨c1, c2, c3, c4, c5, c6, c7, c8, c9⟩ := c.small
  obtain ⟨h4, e4, a4⟩ := v_float_ok (kd := kd) (d := d + 2) (h := h3) (h_law_v_float (P := P)) c
  have e4 : call kd P (d + 3) F_law_v_float [.str [c0]] h3 = _ := e4
  rw [run_cons]
  simp [R.bind_ok, R.calm_ok, q_cst, q_var, q_varK, q_bin, q_binK, q_binK2, q_neg, q_negK, q_not, q_and, q_andK_t, q_andK_f, q_or, q_orK_t, q_orK_f, q_cmp, q_cmpK, q_cmpK2, q_cmp2, q_cmp2K, q_cmp2K2, q_cmp2K3_t, q_cmp2K3_f, q_ite, q_iteK_t, q_iteK_f, q_tup, q_lst, q_dic, q_sub, q_subK, q_subK2, q_slc, q_slcK, q_slcK2, q_slcK3, q_rev, q_call, q_callK, q_bf, q_bfK, q_mt, q_mtK, q_mtK2, q_mt_int, q_lc, q_lcF, q_bfc, q_cfK, q_idx, q_idxK, q_nil, q_cons, q_consK, q_consK2, q_of, q_srcK_tup, q_srcK_str, q_srcK_ref, q_rng1, q_rng1K, q_rng2, q_rng2K, q_zip, q_zipK_tup, q_zipK_ref, q_enum, q_enumK, q_nm, q_tp, q_tpK, q_tpK_ref, q_sb, q_sbK, q_sbK2, q_unK, q_snil, q_scons, q_stoK, q_tnil, q_tcons, q_evtK_t, q_evtK_f, q_mk, q_evcK, q_asg, q_asgK, q_nxK, q_aug, q_augK, q_augK2, q_augK3, q_ife, q_ifeK_t, q_ifeK_f, q_for, q_forG, q_ret, q_retK, q_retn, q_expr, q_dropK, q_pass, q_brk, q_cont, q_try, q_xnil, q_xcons, q_nx, q_rt, q_bk, q_ct, q_tst, q_tstK, q_fin_rt, q_fin_nx, q_t0, q_l0, q_t1, q_l1, q_t2, q_l2, q_t3, q_l3, q_t4, q_l4, q_t5, q_l5, q_t6, q_l6, q_t7, q_l7, q_t8, q_l8, q_t9, q_l9, q_t10, q_l10, q_t11, q_l11, q_t12, q_l12, q_t13, q_l13, q_t14, q_l14, q_t15, q_l15, q_t16, q_l16, q_t17, q_l17, q_t18, q_l18, q_t19, q_l19, q_notK, gets, sets, wipes, cmpop, ofB, isv, eqh_int, eqh_str, eqh_bl, bfn, bIsi, isT, isTs, tyN, tysOf, TN.is, bInt, bLen, bTup, items, add_int, sub_int, app_at, app_at0, app_put, app_put0, alloc_0, cturn, e4]
  rw [run_nx]
  have hp2 := Nat.two_pow_pos p
  have hw4 : 2 ^ 2 ≤ 2 ^ wd := Nat.pow_le_pow_right (by decide) c3
  have sw : ∀ h, binop .shl (.int 1) (.int (wd : Int)) h = .ok (.int ((2 ^ wd : Nat) : Int)) h := fun h => shl_nat (by omega)
  have sp : ∀ h, binop .shl (.int 1) (.int (p : Int)) h = .ok (.int ((2 ^ p : Nat) : Int)) h := fun h => shl_nat (by omega)
  have w64 : 2 ^ wd ≤ 2 ^ 11 := Nat.pow_le_pow_right (by decide) c4
  have sq : ∀ h, binop .shl (.int (((2 ^ wd : Nat) : Int) - 1)) (.int (p : Int)) h = .ok (.int ((((2 ^ wd : Nat) : Int) - 1) * ((2 ^ p : Nat) : Int))) h := fun h => shl_w c2 (by omega)
  have bits1 : ((p : Int) + 1 - 1) = p := by omega
  obtain ⟨fu, hfu, hfm⟩ : ∃ fu : Nat, (((2 ^ wd : Nat) : Int) - 1) * ((2 ^ p : Nat) : Int) = (fu : Int) ∧ fu = (2 ^ wd - 1) * 2 ^ p := ⟨(2 ^ wd - 1) * 2 ^ p, by
    rw [Int.natCast_mul, Int.natCast_sub (by omega)]
    rfl, rfl⟩
  have fu3 : 3 ≤ fu ∧ 2 ^ p ≤ fu := by
    have h1 : 3 * 2 ^ p ≤ fu := by rw [hfm]; exact Nat.mul_le_mul_right _ (by omega)
    have h2 : 2 ^ 1 ≤ 2 ^ p := Nat.pow_le_pow_right (by decide) c1
    omega
  rw [hfu] at sq
  obtain ⟨Q, hQ⟩ : ∃ Q : Nat, Q = 2 ^ p := ⟨_, rfl⟩
  rw [← hQ] at sp fu3
  clear hfu
  generalize ((2 ^ wd : Nat) : Int) = Wd at sw sq
  rw [run_cons]
  simp [R.bind_ok, R.calm_ok, q_cst, q_var, q_varK, q_bin, q_binK, q_binK2, q_neg, q_negK, q_not, q_and, q_andK_t, q_andK_f, q_or, q_orK_t, q_orK_f, q_cmp, q_cmpK, q_cmpK2, q_cmp2, q_cmp2K, q_cmp2K2, q_cmp2K3_t, q_cmp2K3_f, q_ite, q_iteK_t, q_iteK_f, q_tup, q_lst, q_dic, q_sub, q_subK, q_subK2, q_slc, q_slcK, q_slcK2, q_slcK3, q_rev, q_call, q_callK, q_bf, q_bfK, q_mt, q_mtK, q_mtK2, q_mt_int, q_lc, q_lcF, q_bfc, q_cfK, q_idx, q_idxK, q_nil, q_cons, q_consK, q_consK2, q_of, q_srcK_tup, q_srcK_str, q_srcK_ref, q_rng1, q_rng1K, q_rng2, q_rng2K, q_zip, q_zipK_tup, q_zipK_ref, q_enum, q_enumK, q_nm, q_tp, q_tpK, q_tpK_ref, q_sb, q_sbK, q_sbK2, q_unK, q_snil, q_scons, q_stoK, q_tnil, q_tcons, q_evtK_t, q_evtK_f, q_mk, q_evcK, q_asg, q_asgK, q_nxK, q_aug, q_augK, q_augK2, q_augK3, q_ife, q_ifeK_t, q_ifeK_f, q_for, q_forG, q_ret, q_retK, q_retn, q_expr, q_dropK, q_pass, q_brk, q_cont, q_try, q_xnil, q_xcons, q_nx, q_rt, q_bk, q_ct, q_tst, q_tstK, q_fin_rt, q_fin_nx, q_t0, q_l0, q_t1, q_l1, q_t2, q_l2, q_t3, q_l3, q_t4, q_l4, q_t5, q_l5, q_t6, q_l6, q_t7, q_l7, q_t8, q_l8, q_t9, q_l9, q_t10, q_l10, q_t11, q_l11, q_t12, q_l12, q_t13, q_l13, q_t14, q_l14, q_t15, q_l15, q_t16, q_l16, q_t17, q_l17, q_t18, q_l18, q_t19, q_l19, q_notK, gets, sets, wipes, cmpop, ofB, isv, eqh_int, eqh_str, eqh_bl, bfn, bIsi, isT, isTs, tyN, tysOf, TN.is, bInt, bLen, bTup, items, add_int, sub_int, app_at, app_at0, app_put, app_put0, alloc_0, cturn, sw, sp, sq, bits1]
  rw [run_nx]
  have S4 := S3.ap a4
  obtain ⟨gr, h5, e5, r0, r1, S5, G5⟩ := great_t (kd := kd) (P := P) (d := d + 1) S4 (m := (fu : Int)) (by omega) (by omega)
  have lt5 := S5.lt
  obtain ⟨v, h6, e6, m6, S6, G6⟩ := pick_new (kd := kd) (P := P) (d := d + 1) S5 (by omega) [.int 0, .int 1, .int 2, .int ((fu : Int) - 1), .int ((fu : Int) - 2), .int (Q : Int), .int ((Q : Int) - 1), .int gr] (by simp) (by simp)
  obtain ⟨B, rfl, hB⟩ : ∃ B : Nat, v = .int (B : Int) ∧ B < fu := by
    simp only [List.mem_cons, List.not_mem_nil, or_false] at m6
    rcases m6 with rfl | rfl | rfl | rfl | rfl | rfl | rfl | rfl
    · exact ⟨0, rfl, by omega⟩
    · exact ⟨1, rfl, by omega⟩
    · exact ⟨2, rfl, by omega⟩
    · exact ⟨fu - 1, by congr 1; omega, by omega⟩
    · exact ⟨fu - 2, by congr 1; omega, by omega⟩
    · refine ⟨Q, rfl, ?_⟩
      have : 3 * 2 ^ p ≤ fu := by rw [hfm]; exact Nat.mul_le_mul_right _ (by omega)
      omega
    · exact ⟨Q - 1, by congr 1; omega, by omega⟩
    · obtain ⟨z, rfl⟩ := Int.eq_ofNat_of_zero_le r0
      exact ⟨z, rfl, by omega⟩
  rw [run_cons]
  simp [R.bind_ok, R.calm_ok, q_cst, q_var, q_varK, q_bin, q_binK, q_binK2, q_neg, q_negK, q_not, q_and, q_andK_t, q_andK_f, q_or, q_orK_t, q_orK_f, q_cmp, q_cmpK, q_cmpK2, q_cmp2, q_cmp2K, q_cmp2K2, q_cmp2K3_t, q_cmp2K3_f, q_ite, q_iteK_t, q_iteK_f, q_tup, q_lst, q_dic, q_sub, q_subK, q_subK2, q_slc, q_slcK, q_slcK2, q_slcK3, q_rev, q_call, q_callK, q_bf, q_bfK, q_mt, q_mtK, q_mtK2, q_mt_int, q_lc, q_lcF, q_bfc, q_cfK, q_idx, q_idxK, q_nil, q_cons, q_consK, q_consK2, q_of, q_srcK_tup, q_srcK_str, q_srcK_ref, q_rng1, q_rng1K, q_rng2, q_rng2K, q_zip, q_zipK_tup, q_zipK_ref, q_enum, q_enumK, q_nm, q_tp, q_tpK, q_tpK_ref, q_sb, q_sbK, q_sbK2, q_unK, q_snil, q_scons, q_stoK, q_tnil, q_tcons, q_evtK_t, q_evtK_f, q_mk, q_evcK, q_asg, q_asgK, q_nxK, q_aug, q_augK, q_augK2, q_augK3, q_ife, q_ifeK_t, q_ifeK_f, q_for, q_forG, q_ret, q_retK, q_retn, q_expr, q_dropK, q_pass, q_brk, q_cont, q_try, q_xnil, q_xcons, q_nx, q_rt, q_bk, q_ct, q_tst, q_tstK, q_fin_rt, q_fin_nx, q_t0, q_l0, q_t1, q_l1, q_t2, q_l2, q_t3, q_l3, q_t4, q_l4, q_t5, q_l5, q_t6, q_l6, q_t7, q_l7, q_t8, q_l8, q_t9, q_l9, q_t10, q_l10, q_t11, q_l11, q_t12, q_l12, q_t13, q_l13, q_t14, q_l14, q_t15, q_l15, q_t16, q_l16, q_t17, q_l17, q_t18, q_l18, q_t19, q_l19, q_notK, gets, sets, wipes, cmpop, ofB, isv, eqh_int, eqh_str, eqh_bl, bfn, bIsi, isT, isTs, tyN, tysOf, TN.is, bInt, bLen, bTup, items, add_int, sub_int, app_at, app_at0, app_put, app_put0, alloc_0, cturn, e5, e6]
  rw [run_nx]
  have hF : B / 2 ^ p < 2 ^ wd - 1 := (Nat.div_lt_iff_lt_mul hp2).mpr (by rw [← hfm]; exact hB)
  have hfr : B % 2 ^ p < 2 ^ p := Nat.mod_lt _ hp2
  have hBe : B / 2 ^ p * 2 ^ p + B % 2 ^ p = B := Nat.div_add_mod' B (2 ^ p)
  obtain ⟨h7, e7, a7⟩ := v_at_ok (kd := kd) (d := d + 1) (h := h6) (h_law_v_at (P := P)) h_law_v_float c hfr (F := B / 2 ^ p)
  rw [hBe] at e7
  have e7 : call kd P (d + 3) F_law_v_at [.str [c0], .int (B : Int)] h6 = _ := e7
  rw [run_cons]
  simp [R.bind_ok, R.calm_ok, q_cst, q_var, q_varK, q_bin, q_binK, q_binK2, q_neg, q_negK, q_not, q_and, q_andK_t, q_andK_f, q_or, q_orK_t, q_orK_f, q_cmp, q_cmpK, q_cmpK2, q_cmp2, q_cmp2K, q_cmp2K2, q_cmp2K3_t, q_cmp2K3_f, q_ite, q_iteK_t, q_iteK_f, q_tup, q_lst, q_dic, q_sub, q_subK, q_subK2, q_slc, q_slcK, q_slcK2, q_slcK3, q_rev, q_call, q_callK, q_bf, q_bfK, q_mt, q_mtK, q_mtK2, q_mt_int, q_lc, q_lcF, q_bfc, q_cfK, q_idx, q_idxK, q_nil, q_cons, q_consK, q_consK2, q_of, q_srcK_tup, q_srcK_str, q_srcK_ref, q_rng1, q_rng1K, q_rng2, q_rng2K, q_zip, q_zipK_tup, q_zipK_ref, q_enum, q_enumK, q_nm, q_tp, q_tpK, q_tpK_ref, q_sb, q_sbK, q_sbK2, q_unK, q_snil, q_scons, q_stoK, q_tnil, q_tcons, q_evtK_t, q_evtK_f, q_mk, q_evcK, q_asg, q_asgK, q_nxK, q_aug, q_augK, q_augK2, q_augK3, q_ife, q_ifeK_t, q_ifeK_f, q_for, q_forG, q_ret, q_retK, q_retn, q_expr, q_dropK, q_pass, q_brk, q_cont, q_try, q_xnil, q_xcons, q_nx, q_rt, q_bk, q_ct, q_tst, q_tstK, q_fin_rt, q_fin_nx, q_t0, q_l0, q_t1, q_l1, q_t2, q_l2, q_t3, q_l3, q_t4, q_l4, q_t5, q_l5, q_t6, q_l6, q_t7, q_l7, q_t8, q_l8, q_t9, q_l9, q_t10, q_l10, q_t11, q_l11, q_t12, q_l12, q_t13, q_l13, q_t14, q_l14, q_t15, q_l15, q_t16, q_l16, q_t17, q_l17, q_t18, q_l18, q_t19, q_l19, q_notK, gets, sets, wipes, cmpop, ofB, isv, eqh_int, eqh_str, eqh_bl, bfn, bIsi, isT, isTs, tyN, tysOf, TN.is, bInt, bLen, bTup, items, add_int, sub_int, app_at, app_at0, app_put, app_put0, alloc_0, cturn, e7]
  rw [run_nx]
  have mm := mant_lt (F := B / 2 ^ p) hfr
  have S7 := S6.ap a7
  have GG := (G1.trans G2).trans (G3.trans (a4.grow.trans (G5.trans (G6.trans a7.grow))))
  have hFi : (((B / 2 ^ p - 1 : Nat) : Int)) ≤ (2 ^ wd : Nat) - 3 := by omega
  generalize B / 2 ^ p - 1 = F1 at *
  generalize mant p (B / 2 ^ p) (B % 2 ^ p) = m at *
  have m53 : m < 2 ^ 53 := Nat.lt_of_lt_of_le mm (Nat.pow_le_pow_right (by decide) (by omega))
  generalize hcd : (c0 == 100) = isd at *
  obtain ⟨v1, e8, hv1⟩ := form_t (kd := kd) (P := P) (d := d + 2) (h := h7) (m := m) (k := l + (F1 : Int)) (s := s) (j := p + 1) m53 (by omega) mm (by omega)
  by_cases w6 : isd = true ∨ w < 4
  · refine ⟨v1, h7, ?_, hv1, S7.mono (by omega), GG⟩
    cases isd with
    | true =>
      rw [run_cons]
      simp [R.bind_ok, R.calm_ok, q_cst, q_var, q_varK, q_bin, q_binK, q_binK2, q_neg, q_negK, q_not, q_and, q_andK_t, q_andK_f, q_or, q_orK_t, q_orK_f, q_cmp, q_cmpK, q_cmpK2, q_cmp2, q_cmp2K, q_cmp2K2, q_cmp2K3_t, q_cmp2K3_f, q_ite, q_iteK_t, q_iteK_f, q_tup, q_lst, q_dic, q_sub, q_subK, q_subK2, q_slc, q_slcK, q_slcK2, q_slcK3, q_rev, q_call, q_callK, q_bf, q_bfK, q_mt, q_mtK, q_mtK2, q_mt_int, q_lc, q_lcF, q_bfc, q_cfK, q_idx, q_idxK, q_nil, q_cons, q_consK, q_consK2, q_of, q_srcK_tup, q_srcK_str, q_srcK_ref, q_rng1, q_rng1K, q_rng2, q_rng2K, q_zip, q_zipK_tup, q_zipK_ref, q_enum, q_enumK, q_nm, q_tp, q_tpK, q_tpK_ref, q_sb, q_sbK, q_sbK2, q_unK, q_snil, q_scons, q_stoK, q_tnil, q_tcons, q_evtK_t, q_evtK_f, q_mk, q_evcK, q_asg, q_asgK, q_nxK, q_aug, q_augK, q_augK2, q_augK3, q_ife, q_ifeK_t, q_ifeK_f, q_for, q_forG, q_ret, q_retK, q_retn, q_expr, q_dropK, q_pass, q_brk, q_cont, q_try, q_xnil, q_xcons, q_nx, q_rt, q_bk, q_ct, q_tst, q_tstK, q_fin_rt, q_fin_nx, q_t0, q_l0, q_t1, q_l1, q_t2, q_l2, q_t3, q_l3, q_t4, q_l4, q_t5, q_l5, q_t6, q_l6, q_t7, q_l7, q_t8, q_l8, q_t9, q_l9, q_t10, q_l10, q_t11, q_l11, q_t12, q_l12, q_t13, q_l13, q_t14, q_l14, q_t15, q_l15, q_t16, q_l16, q_t17, q_l17, q_t18, q_l18, q_t19, q_l19, q_notK, gets, sets, wipes, cmpop, ofB, isv, eqh_int, eqh_str, eqh_bl, bfn, bIsi, isT, isTs, tyN, tysOf, TN.is, bInt, bLen, bTup, items, add_int, sub_int, app_at, app_at0, app_put, app_put0, alloc_0, cturn, run_rt, run_nx, run_nil, hcd, e8]
    | false =>
      have w7 : w < 4 := by rcases w6 with z | z; cases z; exact z
      rw [run_cons]
      simp [R.bind_ok, R.calm_ok, q_cst, q_var, q_varK, q_bin, q_binK, q_binK2, q_neg, q_negK, q_not, q_and, q_andK_t, q_andK_f, q_or, q_orK_t, q_orK_f, q_cmp, q_cmpK, q_cmpK2, q_cmp2, q_cmp2K, q_cmp2K2, q_cmp2K3_t, q_cmp2K3_f, q_ite, q_iteK_t, q_iteK_f, q_tup, q_lst, q_dic, q_sub, q_subK, q_subK2, q_slc, q_slcK, q_slcK2, q_slcK3, q_rev, q_call, q_callK, q_bf, q_bfK, q_mt, q_mtK, q_mtK2, q_mt_int, q_lc, q_lcF, q_bfc, q_cfK, q_idx, q_idxK, q_nil, q_cons, q_consK, q_consK2, q_of, q_srcK_tup, q_srcK_str, q_srcK_ref, q_rng1, q_rng1K, q_rng2, q_rng2K, q_zip, q_zipK_tup, q_zipK_ref, q_enum, q_enumK, q_nm, q_tp, q_tpK, q_tpK_ref, q_sb, q_sbK, q_sbK2, q_unK, q_snil, q_scons, q_stoK, q_tnil, q_tcons, q_evtK_t, q_evtK_f, q_mk, q_evcK, q_asg, q_asgK, q_nxK, q_aug, q_augK, q_augK2, q_augK3, q_ife, q_ifeK_t, q_ifeK_f, q_for, q_forG, q_ret, q_retK, q_retn, q_expr, q_dropK, q_pass, q_brk, q_cont, q_try, q_xnil, q_xcons, q_nx, q_rt, q_bk, q_ct, q_tst, q_tstK, q_fin_rt, q_fin_nx, q_t0, q_l0, q_t1, q_l1, q_t2, q_l2, q_t3, q_l3, q_t4, q_l4, q_t5, q_l5, q_t6, q_l6, q_t7, q_l7, q_t8, q_l8, q_t9, q_l9, q_t10, q_l10, q_t11, q_l11, q_t12, q_l12, q_t13, q_l13, q_t14, q_l14, q_t15, q_l15, q_t16, q_l16, q_t17, q_l17, q_t18, q_l18, q_t19, q_l19, q_notK, gets, sets, wipes, cmpop, ofB, isv, eqh_int, eqh_str, eqh_bl, bfn, bIsi, isT, isTs, tyN, tysOf, TN.is, bInt, bLen, bTup, items, add_int, sub_int, app_at, app_at0, app_put, app_put0, alloc_0, cturn, run_rt, run_nx, run_nil, hcd, e8, w7]
  · have i0 : isd = false := by
      cases isd with
      | true => exact absurd (.inl rfl) w6
      | false => rfl
    have w7 : ¬ w < 4 := fun z => w6 (.inr z)
    subst i0
    obtain ⟨b1, b2, b3⟩ := hsm rfl
    rw [run_cons]
    simp [R.bind_ok, R.calm_ok, q_cst, q_var, q_varK, q_bin, q_binK, q_binK2, q_neg, q_negK, q_not, q_and, q_andK_t, q_andK_f, q_or, q_orK_t, q_orK_f, q_cmp, q_cmpK, q_cmpK2, q_cmp2, q_cmp2K, q_cmp2K2, q_cmp2K3_t, q_cmp2K3_f, q_ite, q_iteK_t, q_iteK_f, q_tup, q_lst, q_dic, q_sub, q_subK, q_subK2, q_slc, q_slcK, q_slcK2, q_slcK3, q_rev, q_call, q_callK, q_bf, q_bfK, q_mt, q_mtK, q_mtK2, q_mt_int, q_lc, q_lcF, q_bfc, q_cfK, q_idx, q_idxK, q_nil, q_cons, q_consK, q_consK2, q_of, q_srcK_tup, q_srcK_str, q_srcK_ref, q_rng1, q_rng1K, q_rng2, q_rng2K, q_zip, q_zipK_tup, q_zipK_ref, q_enum, q_enumK, q_nm, q_tp, q_tpK, q_tpK_ref, q_sb, q_sbK, q_sbK2, q_unK, q_snil, q_scons, q_stoK, q_tnil, q_tcons, q_evtK_t, q_evtK_f, q_mk, q_evcK, q_asg, q_asgK, q_nxK, q_aug, q_augK, q_augK2, q_augK3, q_ife, q_ifeK_t, q_ifeK_f, q_for, q_forG, q_ret, q_retK, q_retn, q_expr, q_dropK, q_pass, q_brk, q_cont, q_try, q_xnil, q_xcons, q_nx, q_rt, q_bk, q_ct, q_tst, q_tstK, q_fin_rt, q_fin_nx, q_t0, q_l0, q_t1, q_l1, q_t2, q_l2, q_t3, q_l3, q_t4, q_l4, q_t5, q_l5, q_t6, q_l6, q_t7, q_l7, q_t8, q_l8, q_t9, q_l9, q_t10, q_l10, q_t11, q_l11, q_t12, q_l12, q_t13, q_l13, q_t14, q_l14, q_t15, q_l15, q_t16, q_l16, q_t17, q_l17, q_t18, q_l18, q_t19, q_l19, q_notK, gets, sets, wipes, cmpop, ofB, isv, eqh_int, eqh_str, eqh_bl, bfn, bIsi, isT, isTs, tyN, tysOf, TN.is, bInt, bLen, bTup, items, add_int, sub_int, app_at, app_at0, app_put, app_put0, alloc_0, cturn, hcd, w7]
    rw [run_nx]
    obtain ⟨v, h8, e9, m9, S8, G8⟩ := pick_new (kd := kd) (P := P) (d := d + 1) S7 (by omega) [.int 0, .int 0, .int 1, .int (-1)] (by simp) (by simp)
    obtain ⟨δ, rfl, d0⟩ : ∃ δ : Int, v = .int δ ∧ (-1 ≤ δ ∧ δ ≤ 1) := by
      simp only [List.mem_cons, List.not_mem_nil, or_false] at m9
      rcases m9 with rfl | rfl | rfl | rfl <;> exact ⟨_, rfl, by decide⟩
    have m24 : m < 2 ^ 24 := Nat.lt_of_lt_of_le mm (Nat.pow_le_pow_right (by decide) (by omega))
    have ml : ∀ h, binop .mul (.int 2) (.int (m : Int)) h = .ok (.int (2 * (m : Int))) h := fun h => mul_ok (by decide) (by omega)
    have sl : ∀ h, binop .shl (.int (2 * (m : Int) + 1)) (.int 20) h = .ok (.int ((2 * (m : Int) + 1) * 2 ^ 20)) h := fun h => shl_int (k := 20) (by omega) (by decide)
    obtain ⟨M, hM⟩ : ∃ M : Nat, (2 * (m : Int) + 1) * 2 ^ 20 + δ = (M : Int) := Int.eq_ofNat_of_zero_le (by omega)
    have hj : M < 2 ^ (p + 23) := by
      have : 2 ^ (p + 23) = 2 ^ (p + 1) * 2 ^ 22 := by rw [← Nat.pow_add]
      omega
    obtain ⟨v2, e10, hv2⟩ := form_t (kd := kd) (P := P) (d := d + 2) (h := h8) (m := M) (k := l + (F1 : Int) - 21) (s := s) (j := p + 23) (by omega) (by omega) hj (by omega)
    refine ⟨v2, h8, ?_, hv2, S8.mono (by omega), GG.trans G8⟩
    generalize (2 * (m : Int) + 1) * 2 ^ 20 = m20 at *
    rw [run_cons]
    simp [R.bind_ok, R.calm_ok, q_cst, q_var, q_varK, q_bin, q_binK, q_binK2, q_neg, q_negK, q_not, q_and, q_andK_t, q_andK_f, q_or, q_orK_t, q_orK_f, q_cmp, q_cmpK, q_cmpK2, q_cmp2, q_cmp2K, q_cmp2K2, q_cmp2K3_t, q_cmp2K3_f, q_ite, q_iteK_t, q_iteK_f, q_tup, q_lst, q_dic, q_sub, q_subK, q_subK2, q_slc, q_slcK, q_slcK2, q_slcK3, q_rev, q_call, q_callK, q_bf, q_bfK, q_mt, q_mtK, q_mtK2, q_mt_int, q_lc, q_lcF, q_bfc, q_cfK, q_idx, q_idxK, q_nil, q_cons, q_consK, q_consK2, q_of, q_srcK_tup, q_srcK_str, q_srcK_ref, q_rng1, q_rng1K, q_rng2, q_rng2K, q_zip, q_zipK_tup, q_zipK_ref, q_enum, q_enumK, q_nm, q_tp, q_tpK, q_tpK_ref, q_sb, q_sbK, q_sbK2, q_unK, q_snil, q_scons, q_stoK, q_tnil, q_tcons, q_evtK_t, q_evtK_f, q_mk, q_evcK, q_asg, q_asgK, q_nxK, q_aug, q_augK, q_augK2, q_augK3, q_ife, q_ifeK_t, q_ifeK_f, q_for, q_forG, q_ret, q_retK, q_retn, q_expr, q_dropK, q_pass, q_brk, q_cont, q_try, q_xnil, q_xcons, q_nx, q_rt, q_bk, q_ct, q_tst, q_tstK, q_fin_rt, q_fin_nx, q_t0, q_l0, q_t1, q_l1, q_t2, q_l2, q_t3, q_l3, q_t4, q_l4, q_t5, q_l5, q_t6, q_l6, q_t7, q_l7, q_t8, q_l8, q_t9, q_l9, q_t10, q_l10, q_t11, q_l11, q_t12, q_l12, q_t13, q_l13, q_t14, q_l14, q_t15, q_l15, q_t16, q_l16, q_t17, q_l17, q_t18, q_l18, q_t19, q_l19, q_notK, gets, sets, wipes, cmpop, ofB, isv, eqh_int, eqh_str, eqh_bl, bfn, bIsi, isT, isTs, tyN, tysOf, TN.is, bInt, bLen, bTup, items, add_int, sub_int, app_at, app_at0, app_put, app_put0, alloc_0, cturn, run_rt, run_nx, run_nil, ml, sl, e9, hM, e10]
end
end Vl
set_option maxRecDepth 100000
set_option maxHeartbeats 4000000
namespace Vl
/-! ### small things are known and shown -/
@[simp] theorem le_LINE13 : 13 ≤ LINE := by decide
@[simp] theorem le_LINE14 : 14 ≤ LINE := by decide
@[simp] theorem le_LINE15 : 15 ≤ LINE := by decide
@[simp] theorem le_LINE16 : 16 ≤ LINE := by decide
@[simp] theorem le_LINE17 : 17 ≤ LINE := by decide
@[simp] theorem le_LINE18 : 18 ≤ LINE := by decide
@[simp] theorem le_LINE19 : 19 ≤ LINE := by decide
@[simp] theorem le_LINE20 : 20 ≤ LINE := by decide
@[simp] theorem le_LINE21 : 21 ≤ LINE := by decide
@[simp] theorem le_LINE22 : 22 ≤ LINE := by decide
@[simp] theorem le_LINE23 : 23 ≤ LINE := by decide
@[simp] theorem le_LINE24 : 24 ≤ LINE := by decide
@[simp] theorem le_LINE25 : 25 ≤ LINE := by decide
@[simp] theorem le_LINE26 : 26 ≤ LINE := by decide
@[simp] theorem le_LINE27 : 27 ≤ LINE := by decide
@[simp] theorem le_LINE28 : 28 ≤ LINE := by decide
@[simp] theorem le_LINE29 : 29 ≤ LINE := by decide
@[simp] theorem le_LINE30 : 30 ≤ LINE := by decide
@[simp] theorem le_LINE31 : 31 ≤ LINE := by decide
@[simp] theorem le_LINE32 : 32 ≤ LINE := by decide
@[simp] theorem le_LINE33 : 33 ≤ LINE := by decide
@[simp] theorem le_LINE34 : 34 ≤ LINE := by decide
@[simp] theorem le_LINE35 : 35 ≤ LINE := by decide
@[simp] theorem le_LINE36 : 36 ≤ LINE := by decide
@[simp] theorem le_LINE37 : 37 ≤ LINE := by decide
@[simp] theorem le_LINE38 : 38 ≤ LINE := by decide
@[simp] theorem le_LINE39 : 39 ≤ LINE := by decide
@[simp] theorem le_LINE40 : 40 ≤ LINE := by decide
@[simp] theorem le_LINE41 : 41 ≤ LINE := by decide
@[simp] theorem le_LINE42 : 42 ≤ LINE := by decide
@[simp] theorem le_LINE43 : 43 ≤ LINE := by decide
@[simp] theorem le_LINE44 : 44 ≤ LINE := by decide
@[simp] theorem le_LINE45 : 45 ≤ LINE := by decide
@[simp] theorem le_LINE46 : 46 ≤ LINE := by decide
@[simp] theorem le_LINE47 : 47 ≤ LINE := by decide
@[simp] theorem le_LINE48 : 48 ≤ LINE := by decide
@[simp] theorem le_LINE49 : 49 ≤ LINE := by decide
@[simp] theorem le_LINE50 : 50 ≤ LINE := by decide
@[simp] theorem le_LINE51 : 51 ≤ LINE := by decide
@[simp] theorem le_LINE52 : 52 ≤ LINE := by decide
@[simp] theorem le_LINE53 : 53 ≤ LINE := by decide
@[simp] theorem le_LINE54 : 54 ≤ LINE := by decide
@[simp] theorem le_LINE55 : 55 ≤ LINE := by decide
@[simp] theorem le_LINE56 : 56 ≤ LINE := by decide
@[simp] theorem le_LINE57 : 57 ≤ LINE := by decide
@[simp] theorem le_LINE58 : 58 ≤ LINE := by decide
@[simp] theorem le_LINE59 : 59 ≤ LINE := by decide
@[simp] theorem le_LINE60 : 60 ≤ LINE := by decide
def lfB : W → Bool
  | .non => true
  | .bl _ => true
  | .int i => decide (i.natAbs < 2 ^ 200)
  | .str s => (strT s).isSome && decide (s.length ≤ 1000)
  | _ => false
theorem strI_len {i : Int} (h : i.natAbs < 2 ^ 200) : (strI i).length ≤ 1100 ∧ i.natAbs.log2 < 1920 := by
  have dl : ∀ n : Nat, n < 2 ^ 200 → (toString n).toList.length ≤ 1000 := by
    intro n hn
    have e : (toString n).toList = Nat.toDigits 10 n := by
      show (Nat.repr n).toList = _
      unfold Nat.repr
      simp
    rw [e, Nat.length_toDigits_le_iff (by decide) (by decide)]
    refine Nat.lt_of_lt_of_le hn ?_
    exact Nat.le_trans (Nat.pow_le_pow_left (by decide) 200) (Nat.pow_le_pow_right (by decide) (by decide))
  constructor
  · unfold strI
    rw [List.length_map]
    cases i with
    | ofNat n => exact Nat.le_trans (dl n h) (by decide)
    | negSucc n =>
      have e : (toString (Int.negSucc n)) = "-" ++ toString (n + 1) := rfl
      rw [e]
      have := dl (n + 1) h
      simp only [String.toList_append, List.length_append]
      have : "-".toList.length = 1 := rfl
      omega
  · by_cases z : i.natAbs = 0
    · rw [z]; decide
    · exact (Nat.log2_lt z).mpr (Nat.lt_of_lt_of_le h (Nat.pow_le_pow_right (by decide) (by decide)))
theorem lf_shw {y : W} (h : L) (n : Nat) (e : lfB y = true) : (tyN y h).isSome = true ∧ ∃ s, shw h n y = some s ∧ s.length ≤ 1100 := by
  cases y with
  | non => exact ⟨rfl, _, by cases n <;> rfl, by decide⟩
  | bl b => cases b <;> exact ⟨rfl, _, by cases n <;> rfl, by decide⟩
  | int i =>
    obtain ⟨l1, l2⟩ := strI_len (of_decide_eq_true e)
    refine ⟨rfl, strI i, ?_, l1⟩
    have : (if i.natAbs.log2 < 1920 then some (strI i) else none) = some (strI i) := if_pos l2
    cases n <;> exact this
  | str s =>
    simp only [lfB, Bool.and_eq_true, decide_eq_true_eq] at e
    obtain ⟨t, et⟩ := Option.isSome_iff_exists.mp e.1
    refine ⟨rfl, t, by cases n <;> exact et, ?_⟩
    rw [strT_q et]
    simp
    omega
  | _ => cases e
theorem joinC_len {N : Nat} : ∀ {ts : List (List Nat)}, (∀ t ∈ ts, t.length ≤ N) → (joinC ts).length ≤ ts.length * (N + 2)
  | [], _ => by simp [joinC]
  | [x], hx => by
    have := hx x List.mem_cons_self
    simp [joinC]
    omega
  | x :: y :: r, hx => by
    have h1 := hx x List.mem_cons_self
    have h2 := joinC_len (ts := y :: r) (fun t ht => hx t (List.mem_cons_of_mem _ ht))
    simp only [joinC, List.length_append, List.length_cons, List.length_nil] at h2 ⊢
    rw [Nat.succ_mul]
    omega
theorem mapO_all {α β : Type} {f : α → Option β} {p : β → Prop} : ∀ {xs : List α}, (∀ x ∈ xs, ∃ y, f x = some y ∧ p y) → ∃ ys, mapO f xs = some ys ∧ ys.length = xs.length ∧ ∀ y ∈ ys, p y
  | [], _ => ⟨[], rfl, rfl, by simp⟩
  | x :: xs, hx => by
    obtain ⟨y, e, py⟩ := hx x List.mem_cons_self
    obtain ⟨ys, e2, l, q⟩ := mapO_all (xs := xs) fun z hz => hx z (List.mem_cons_of_mem _ hz)
    refine ⟨y :: ys, ?_, by simp [l], fun z hz => ?_⟩
    · simp only [mapO, e, e2]
      rfl
    · rcases List.mem_cons.mp hz with rfl | hz
      · exact py
      · exact q z hz
theorem tup_shw {xs : List W} {h : L} {n N : Nat} (e : ∀ x ∈ xs, ∃ s, shw h n x = some s ∧ s.length ≤ N) : ∃ s, shw h (n + 1) (.tup xs) = some s ∧ s.length ≤ xs.length * (N + 2) + 3 := by
  obtain ⟨ts, e1, l, q⟩ := mapO_all e
  refine ⟨tupT ts, ?_, ?_⟩
  · simp only [shw, e1]
    rfl
  · have := joinC_len q
    rw [l] at this
    unfold tupT
    simp only [List.length_append, List.length_cons, List.length_nil]
    split <;> simp <;> omega
theorem lst_shw {xs : List W} {h : L} {r n N : Nat} (hr : h[r]? = some (.lst xs)) (e : ∀ x ∈ xs, ∃ s, shw h n x = some s ∧ s.length ≤ N) : ∃ s, shw h (n + 1) (.ref r) = some s ∧ s.length ≤ xs.length * (N + 2) + 3 := by
  obtain ⟨ts, e1, l, q⟩ := mapO_all e
  refine ⟨lstT ts, ?_, ?_⟩
  · simp only [shw, hr, e1]
    rfl
  · have := joinC_len q
    rw [l] at this
    unfold lstT
    simp only [List.length_append, List.length_cons, List.length_nil]
    omega
/-- a leaf, or a short tuple of leaves -/
def x1B : W → Bool
  | .tup xs => decide (xs.length ≤ 10) && xs.all lfB
  | y => lfB y
theorem x1_shw {y : W} (h : L) (n : Nat) (e : x1B y = true) : (tyN y h).isSome = true ∧ ∃ s, shw h (n + 1) y = some s ∧ s.length ≤ 12000 := by
  have lf : ∀ z, lfB z = true → (tyN z h).isSome = true ∧ ∃ s, shw h (n + 1) z = some s ∧ s.length ≤ 12000 := fun z hz => by
    obtain ⟨t, s, e1, l⟩ := lf_shw h (n + 1) hz
    exact ⟨t, s, e1, by omega⟩
  cases y with
  | tup xs =>
    simp only [x1B, Bool.and_eq_true, decide_eq_true_eq] at e
    obtain ⟨s, e1, l⟩ := tup_shw (N := 1100) (n := n) (h := h) (xs := xs) fun x hx => (lf_shw h n (List.all_eq_true.mp e.2 x hx)).2
    refine ⟨rfl, s, e1, ?_⟩
    have := Nat.mul_le_mul_right (1100 + 2) e.1
    omega
  | _ => exact lf _ e
/-- an object that is known and shown -/
structure OkT (h : L) (v : W) : Prop where
  r : okR h v = true
  s : ∃ s, shw h 60 v = some s ∧ s.length ≤ LINE
def x2B : W → Bool
  | .tup xs => decide (xs.length ≤ 10) && xs.all x1B
  | y => lfB y
theorem okT_x2 {h : L} {v : W} (e : x2B v = true) : OkT h v := by
  have lf : ∀ z, lfB z = true → okR h z = true → OkT h z := fun z hz r => by
    obtain ⟨t, s, e1, l⟩ := lf_shw h 60 hz
    exact ⟨r, s, e1, Nat.le_trans l (by decide)⟩
  cases v with
  | tup xs =>
    simp only [x2B, Bool.and_eq_true, decide_eq_true_eq] at e
    have hx : ∀ x ∈ xs, x1B x = true := fun x hx => List.all_eq_true.mp e.2 x hx
    refine ⟨List.all_eq_true.mpr fun x hm => ?_, ?_⟩
    · obtain ⟨t, s, e1, l⟩ := x1_shw h 59 (hx x hm)
      unfold shB
      rw [t, e1]
      simp only [Bool.true_and, decide_eq_true_eq]
      omega
    · obtain ⟨s, e1, l⟩ := tup_shw (N := 12000) (n := 59) (h := h) (xs := xs) fun x hm => (x1_shw h 58 (hx x hm)).2
      refine ⟨s, e1, Nat.le_trans l ?_⟩
      have := Nat.mul_le_mul_right (12000 + 2) e.1
      unfold LINE
      omega
  | non => exact lf _ e rfl
  | bl _ => exact lf _ e rfl
  | int _ => exact lf _ e rfl
  | str _ => exact lf _ e rfl
  | _ => cases e
theorem okT_lst {h : L} {r : Nat} {xs : List W} (hr : h[r]? = some (.lst xs)) (l : xs.length ≤ 10) (e : xs.all lfB = true) : OkT h (.ref r) := by
  refine ⟨by simp only [okR, tyN, hr]; rfl, ?_⟩
  obtain ⟨s, e1, l1⟩ := lst_shw (N := 1100) (n := 59) hr fun x hx => (lf_shw h 59 (List.all_eq_true.mp e x hx)).2
  refine ⟨s, e1, Nat.le_trans l1 ?_⟩
  have := Nat.mul_le_mul_right (1100 + 2) l
  unfold LINE
  omega
section
variable {kd : Kd} {P : List Fn} [Tab P] [KTab kd] {d : Nat} {h : L} {r q n : Nat}
theorem pick_app {T : List O} {j : Nat} {xs : List W} (S : Strm h r q n) (hn : n ≤ 1000000) (hj : T[j]? = some (.lst xs)) (h0 : xs ≠ []) (hl : xs.length ≤ 1000000) :
    ∃ v h', call kd P (d + 2) F_law_pick [.ref r, .ref (h.length + j)] (h ++ T) = .ok v h' ∧ v ∈ xs ∧ Strm h' r q (n + 1) ∧ Grow r q h h' ∧ ∀ i o, T[i]? = some o → h'[h.length + i]? = some o := by
  have lt := S.lt
  obtain ⟨v, h', e, m, S', G'⟩ := pick_lst_t (kd := kd) (P := P) (d := d) (S.ap (Ap.app (t := T))) hn (p := h.length + j) (xs := xs) (by rw [app_at]; exact hj) (by omega) (by omega) h0 hl
  exact ⟨v, h', e, m, S', Grow.app.trans G', fun i o e => G'.at (by rw [app_at]; exact e) (by omega) (by omega)⟩
theorem pick_end {C : Orc} {T : List O} {j : Nat} {xs : List W} {p : L → W → Prop} {g : L} {m : Nat} (S : Strm h r q n) (G0 : Grow r q g h) (hm : n + 1 ≤ m) (hn : n ≤ 1000000) (hj : T[j]? = some (.lst xs)) (h0 : xs ≠ []) (hl : xs.length ≤ 1000000)
    (good : ∀ h' : L, (∀ i o, T[i]? = some o → h'[h.length + i]? = some o) → ∀ v ∈ xs, p h' v) :
    ∃ v h', fin (((call kd P (d + 2) F_law_pick [.ref r, .ref (h.length + j)] (h ++ T)).bind retK).bind (contX C kd .nil)) = .ok v h' ∧ p h' v ∧ Strm h' r q m ∧ Grow r q g h' := by
  obtain ⟨v, h', e, m, S', G', k⟩ := pick_app (kd := kd) (P := P) (d := d) S hn hj h0 hl
  refine ⟨v, h', ?_, good h' k v m, S'.mono hm, G0.trans G'⟩
  rw [e]
  rfl
theorem pick_end2 {C : Orc} {T : List O} {j : Nat} {xs : List W} {p : L → W → Prop} {g : L} {m : Nat} {sa sb : Ss} (S : Strm h r q n) (G0 : Grow r q g h) (hm : n + 1 ≤ m) (hn : n ≤ 1000000) (hj : T[j]? = some (.lst xs)) (h0 : xs ≠ []) (hl : xs.length ≤ 1000000)
    (good : ∀ h' : L, (∀ i o, T[i]? = some o → h'[h.length + i]? = some o) → ∀ v ∈ xs, p h' v) :
    ∃ v h', fin ((((call kd P (d + 2) F_law_pick [.ref r, .ref (h.length + j)] (h ++ T)).bind retK).bind (contR C kd sa)).bind (contX C kd sb)) = .ok v h' ∧ p h' v ∧ Strm h' r q m ∧ Grow r q g h' := by
  obtain ⟨v, h', e, m, S', G', k⟩ := pick_app (kd := kd) (P := P) (d := d) S hn hj h0 hl
  refine ⟨v, h', ?_, good h' k v m, S'.mono hm, G0.trans G'⟩
  rw [e]
  rfl
theorem v_odd_t (S : Strm h r q n) (hn : n ≤ 900000) : ∃ v h', call kd P (d + 3) F_law_v_odd [.ref r] h = .ok v h' ∧ OkT h' v ∧ Strm h' r q (n + 1) ∧ Grow r q h h' := by
  rw [call_run h_law_v_odd rfl]
  show ∃ v h', fin (runs (call kd P (d + 2)) kd (c_law_v_odd F_law_pick).body [some (.ref r), none] h) = .ok v h' ∧ _
  simp only [c_law_v_odd]
  have pw : ∀ h, binop .pow (.int 10) (.int 29) h = .ok (.int 100000000000000000000000000000) h := fun h => pow_ok (a := 10) (b := 29) (by decide) (by decide)
  rw [run_cons]
  simp [R.bind_ok, R.calm_ok, q_cst, q_var, q_varK, q_bin, q_binK, q_binK2, q_neg, q_negK, q_not, q_and, q_andK_t, q_andK_f, q_or, q_orK_t, q_orK_f, q_cmp, q_cmpK, q_cmpK2, q_cmp2, q_cmp2K, q_cmp2K2, q_cmp2K3_t, q_cmp2K3_f, q_ite, q_iteK_t, q_iteK_f, q_tup, q_lst, q_dic, q_sub, q_subK, q_subK2, q_slc, q_slcK, q_slcK2, q_slcK3, q_rev, q_call, q_callK, q_bf, q_bfK, q_mt, q_mtK, q_mtK2, q_mt_int, q_lc, q_lcF, q_bfc, q_cfK, q_idx, q_idxK, q_nil, q_cons, q_consK, q_consK2, q_of, q_srcK_tup, q_srcK_str, q_srcK_ref, q_rng1, q_rng1K, q_rng2, q_rng2K, q_zip, q_zipK_tup, q_zipK_ref, q_enum, q_enumK, q_nm, q_tp, q_tpK, q_tpK_ref, q_sb, q_sbK, q_sbK2, q_unK, q_snil, q_scons, q_stoK, q_tnil, q_tcons, q_evtK_t, q_evtK_f, q_mk, q_evcK, q_asg, q_asgK, q_nxK, q_aug, q_augK, q_augK2, q_augK3, q_ife, q_ifeK_t, q_ifeK_f, q_for, q_forG, q_ret, q_retK, q_retn, q_expr, q_dropK, q_pass, q_brk, q_cont, q_try, q_xnil, q_xcons, q_nx, q_rt, q_bk, q_ct, q_tst, q_tstK, q_fin_rt, q_fin_nx, q_t0, q_l0, q_t1, q_l1, q_t2, q_l2, q_t3, q_l3, q_t4, q_l4, q_t5, q_l5, q_t6, q_l6, q_t7, q_l7, q_t8, q_l8, q_t9, q_l9, q_t10, q_l10, q_t11, q_l11, q_t12, q_l12, q_t13, q_l13, q_t14, q_l14, q_t15, q_l15, q_t16, q_l16, q_t17, q_l17, q_t18, q_l18, q_t19, q_l19, q_notK, gets, sets, wipes, cmpop, ofB, isv, eqh_int, eqh_str, eqh_bl, bfn, bIsi, isT, isTs, tyN, tysOf, TN.is, bInt, bLen, bTup, items, add_int, sub_int, app_at, app_at0, app_put, app_put0, alloc_0, cturn, pw]
  rw [run_nx]
  rw [run_cons]
  simp [R.bind_ok, R.calm_ok, q_cst, q_var, q_varK, q_bin, q_binK, q_binK2, q_neg, q_negK, q_not, q_and, q_andK_t, q_andK_f, q_or, q_orK_t, q_orK_f, q_cmp, q_cmpK, q_cmpK2, q_cmp2, q_cmp2K, q_cmp2K2, q_cmp2K3_t, q_cmp2K3_f, q_ite, q_iteK_t, q_iteK_f, q_tup, q_lst, q_dic, q_sub, q_subK, q_subK2, q_slc, q_slcK, q_slcK2, q_slcK3, q_rev, q_call, q_callK, q_bf, q_bfK, q_mt, q_mtK, q_mtK2, q_mt_int, q_lc, q_lcF, q_bfc, q_cfK, q_idx, q_idxK, q_nil, q_cons, q_consK, q_consK2, q_of, q_srcK_tup, q_srcK_str, q_srcK_ref, q_rng1, q_rng1K, q_rng2, q_rng2K, q_zip, q_zipK_tup, q_zipK_ref, q_enum, q_enumK, q_nm, q_tp, q_tpK, q_tpK_ref, q_sb, q_sbK, q_sbK2, q_unK, q_snil, q_scons, q_stoK, q_tnil, q_tcons, q_evtK_t, q_evtK_f, q_mk, q_evcK, q_asg, q_asgK, q_nxK, q_aug, q_augK, q_augK2, q_augK3, q_ife, q_ifeK_t, q_ifeK_f, q_for, q_forG, q_ret, q_retK, q_retn, q_expr, q_dropK, q_pass, q_brk, q_cont, q_try, q_xnil, q_xcons, q_nx, q_rt, q_bk, q_ct, q_tst, q_tstK, q_fin_rt, q_fin_nx, q_t0, q_l0, q_t1, q_l1, q_t2, q_l2, q_t3, q_l3, q_t4, q_l4, q_t5, q_l5, q_t6, q_l6, q_t7, q_l7, q_t8, q_l8, q_t9, q_l9, q_t10, q_l10, q_t11, q_l11, q_t12, q_l12, q_t13, q_l13, q_t14, q_l14, q_t15, q_l15, q_t16, q_l16, q_t17, q_l17, q_t18, q_l18, q_t19, q_l19, q_notK, gets, sets, wipes, cmpop, ofB, isv, eqh_int, eqh_str, eqh_bl, bfn, bIsi, isT, isTs, tyN, tysOf, TN.is, bInt, bLen, bTup, items, add_int, sub_int, app_at, app_at0, app_put, app_put0, alloc_0, cturn, binop]
  rw [run_nx]
  rw [run_cons]
  simp [R.bind_ok, R.calm_ok, q_cst, q_var, q_varK, q_bin, q_binK, q_binK2, q_neg, q_negK, q_not, q_and, q_andK_t, q_andK_f, q_or, q_orK_t, q_orK_f, q_cmp, q_cmpK, q_cmpK2, q_cmp2, q_cmp2K, q_cmp2K2, q_cmp2K3_t, q_cmp2K3_f, q_ite, q_iteK_t, q_iteK_f, q_tup, q_lst, q_dic, q_sub, q_subK, q_subK2, q_slc, q_slcK, q_slcK2, q_slcK3, q_rev, q_call, q_callK, q_bf, q_bfK, q_mt, q_mtK, q_mtK2, q_mt_int, q_lc, q_lcF, q_bfc, q_cfK, q_idx, q_idxK, q_nil, q_cons, q_consK, q_consK2, q_of, q_srcK_tup, q_srcK_str, q_srcK_ref, q_rng1, q_rng1K, q_rng2, q_rng2K, q_zip, q_zipK_tup, q_zipK_ref, q_enum, q_enumK, q_nm, q_tp, q_tpK, q_tpK_ref, q_sb, q_sbK, q_sbK2, q_unK, q_snil, q_scons, q_stoK, q_tnil, q_tcons, q_evtK_t, q_evtK_f, q_mk, q_evcK, q_asg, q_asgK, q_nxK, q_aug, q_augK, q_augK2, q_augK3, q_ife, q_ifeK_t, q_ifeK_f, q_for, q_forG, q_ret, q_retK, q_retn, q_expr, q_dropK, q_pass, q_brk, q_cont, q_try, q_xnil, q_xcons, q_nx, q_rt, q_bk, q_ct, q_tst, q_tstK, q_fin_rt, q_fin_nx, q_t0, q_l0, q_t1, q_l1, q_t2, q_l2, q_t3, q_l3, q_t4, q_l4, q_t5, q_l5, q_t6, q_l6, q_t7, q_l7, q_t8, q_l8, q_t9, q_l9, q_t10, q_l10, q_t11, q_l11, q_t12, q_l12, q_t13, q_l13, q_t14, q_l14, q_t15, q_l15, q_t16, q_l16, q_t17, q_l17, q_t18, q_l18, q_t19, q_l19, q_notK, gets, sets, wipes, cmpop, ofB, isv, eqh_int, eqh_str, eqh_bl, bfn, bIsi, isT, isTs, tyN, tysOf, TN.is, bInt, bLen, bTup, items, add_int, sub_int, app_at, app_at0, app_put, app_put0, alloc_0, cturn, binop]
  rw [run_nx]
  rw [run_cons]
  simp [R.bind_ok, R.calm_ok, q_cst, q_var, q_varK, q_bin, q_binK, q_binK2, q_neg, q_negK, q_not, q_and, q_andK_t, q_andK_f, q_or, q_orK_t, q_orK_f, q_cmp, q_cmpK, q_cmpK2, q_cmp2, q_cmp2K, q_cmp2K2, q_cmp2K3_t, q_cmp2K3_f, q_ite, q_iteK_t, q_iteK_f, q_tup, q_lst, q_dic, q_sub, q_subK, q_subK2, q_slc, q_slcK, q_slcK2, q_slcK3, q_rev, q_call, q_callK, q_bf, q_bfK, q_mt, q_mtK, q_mtK2, q_mt_int, q_lc, q_lcF, q_bfc, q_cfK, q_idx, q_idxK, q_nil, q_cons, q_consK, q_consK2, q_of, q_srcK_tup, q_srcK_str, q_srcK_ref, q_rng1, q_rng1K, q_rng2, q_rng2K, q_zip, q_zipK_tup, q_zipK_ref, q_enum, q_enumK, q_nm, q_tp, q_tpK, q_tpK_ref, q_sb, q_sbK, q_sbK2, q_unK, q_snil, q_scons, q_stoK, q_tnil, q_tcons, q_evtK_t, q_evtK_f, q_mk, q_evcK, q_asg, q_asgK, q_nxK, q_aug, q_augK, q_augK2, q_augK3, q_ife, q_ifeK_t, q_ifeK_f, q_for, q_forG, q_ret, q_retK, q_retn, q_expr, q_dropK, q_pass, q_brk, q_cont, q_try, q_xnil, q_xcons, q_nx, q_rt, q_bk, q_ct, q_tst, q_tstK, q_fin_rt, q_fin_nx, q_t0, q_l0, q_t1, q_l1, q_t2, q_l2, q_t3, q_l3, q_t4, q_l4, q_t5, q_l5, q_t6, q_l6, q_t7, q_l7, q_t8, q_l8, q_t9, q_l9, q_t10, q_l10, q_t11, q_l11, q_t12, q_l12, q_t13, q_l13, q_t14, q_l14, q_t15, q_l15, q_t16, q_l16, q_t17, q_l17, q_t18, q_l18, q_t19, q_l19, q_notK, gets, sets, wipes, cmpop, ofB, isv, eqh_int, eqh_str, eqh_bl, bfn, bIsi, isT, isTs, tyN, tysOf, TN.is, bInt, bLen, bTup, items, add_int, sub_int, app_at, app_at0, app_put, app_put0, alloc_0, cturn, binop]
  rw [run_nx]
  rw [run_cons]
  simp [R.bind_ok, R.calm_ok, q_cst, q_var, q_varK, q_bin, q_binK, q_binK2, q_neg, q_negK, q_not, q_and, q_andK_t, q_andK_f, q_or, q_orK_t, q_orK_f, q_cmp, q_cmpK, q_cmpK2, q_cmp2, q_cmp2K, q_cmp2K2, q_cmp2K3_t, q_cmp2K3_f, q_ite, q_iteK_t, q_iteK_f, q_tup, q_lst, q_dic, q_sub, q_subK, q_subK2, q_slc, q_slcK, q_slcK2, q_slcK3, q_rev, q_call, q_callK, q_bf, q_bfK, q_mt, q_mtK, q_mtK2, q_mt_int, q_lc, q_lcF, q_bfc, q_cfK, q_idx, q_idxK, q_nil, q_cons, q_consK, q_consK2, q_of, q_srcK_tup, q_srcK_str, q_srcK_ref, q_rng1, q_rng1K, q_rng2, q_rng2K, q_zip, q_zipK_tup, q_zipK_ref, q_enum, q_enumK, q_nm, q_tp, q_tpK, q_tpK_ref, q_sb, q_sbK, q_sbK2, q_unK, q_snil, q_scons, q_stoK, q_tnil, q_tcons, q_evtK_t, q_evtK_f, q_mk, q_evcK, q_asg, q_asgK, q_nxK, q_aug, q_augK, q_augK2, q_augK3, q_ife, q_ifeK_t, q_ifeK_f, q_for, q_forG, q_ret, q_retK, q_retn, q_expr, q_dropK, q_pass, q_brk, q_cont, q_try, q_xnil, q_xcons, q_nx, q_rt, q_bk, q_ct, q_tst, q_tstK, q_fin_rt, q_fin_nx, q_t0, q_l0, q_t1, q_l1, q_t2, q_l2, q_t3, q_l3, q_t4, q_l4, q_t5, q_l5, q_t6, q_l6, q_t7, q_l7, q_t8, q_l8, q_t9, q_l9, q_t10, q_l10, q_t11, q_l11, q_t12, q_l12, q_t13, q_l13, q_t14, q_l14, q_t15, q_l15, q_t16, q_l16, q_t17, q_l17, q_t18, q_l18, q_t19, q_l19, q_notK, gets, sets, wipes, cmpop, ofB, isv, eqh_int, eqh_str, eqh_bl, bfn, bIsi, isT, isTs, tyN, tysOf, TN.is, bInt, bLen, bTup, items, add_int, sub_int, app_at, app_at0, app_put, app_put0, alloc_0, cturn, binop]
  refine pick_end (p := OkT) S Grow.refl (by omega) (by omega) (j := 11) rfl (by simp) (by simp) ?_
  intro h' k v m
  have k0 := k 0 _ rfl
  have k1 := k 1 _ rfl
  have k5 := k 5 _ rfl
  clear k
  simp only [List.mem_cons, List.not_mem_nil, or_false] at m
  rcases m with rfl | rfl | rfl | rfl | rfl | rfl | rfl | rfl | rfl | rfl | rfl | rfl | rfl | rfl | rfl | rfl | rfl | rfl | rfl | rfl | rfl | rfl | rfl | rfl | rfl | rfl | rfl | rfl | rfl | rfl | rfl | rfl | rfl | rfl
  all_goals first
    | exact okT_x2 (by decide)
    | exact okT_lst k0 (by decide) (by decide)
    | exact okT_lst k1 (by decide) (by decide)
    | exact okT_lst k5 (by decide) (by decide)
end
end Vl
set_option maxRecDepth 100000
set_option maxHeartbeats 4000000
namespace Vl
theorem real_cases {x : W} (e : isRealB x = true) : (∃ b, x = .tup [.str REAL, .str b] ∧ wordB b = true) ∨ ∃ n k, x = .tup [.str REAL, .int n, .int k] ∧ fitsB n k = true := by
  unfold isRealB at e
  split at e
  · rename_i a b
    obtain ⟨e1, e2⟩ := Bool.and_eq_true_iff.mp e
    rw [eq_of_beq e1]
    exact .inl ⟨b, rfl, e2⟩
  · rename_i a n k
    obtain ⟨e1, e2⟩ := Bool.and_eq_true_iff.mp e
    rw [eq_of_beq e1]
    exact .inr ⟨n, k, rfl, e2⟩
  · cases e
theorem word_cases {b : List Nat} (e : wordB b = true) : b = [45, 48] ∨ b = [105, 110, 102] ∨ b = [45, 105, 110, 102] ∨ b = [110, 97, 110] := by
  unfold wordB at e
  simp only [Bool.or_eq_true, beq_iff_eq, or_assoc] at e
  exact e
theorem fits_bd {n k : Int} (e : fitsB n k = true) : n.natAbs < 2 ^ 53 ∧ -1074 ≤ k ∧ k ≤ 1024 ∧ (n = 0 → k = 0) ∧ (n ≠ 0 → n % 2 = 1 ∧ (ibits n : Int) + k ≤ 1024) := by
  unfold fitsB at e
  split at e
  · simp only [Bool.and_eq_true, decide_eq_true_eq] at e
    obtain ⟨rfl, rfl⟩ := e
    exact ⟨by decide, by decide, by decide, fun _ => rfl, fun z => absurd rfl z⟩
  · simp only [Bool.and_eq_true, decide_eq_true_eq] at e
    refine ⟨ibits_iff.mp (by omega), e.2.1, by omega, fun z => ?_, fun _ => ⟨by omega, e.2.2⟩⟩
    subst z
    simp at *
theorem lf_int {i : Int} (h : i.natAbs < 2 ^ 200) : lfB (.int i) = true := decide_eq_true h
theorem digs_strT : ∀ s : List Nat, (∀ c ∈ s, 45 ≤ c ∧ c ≤ 57) → (strT s).isSome = true := by
  intro s hs
  unfold strT
  rw [if_pos]
  · rfl
  · refine List.all_eq_true.mpr fun c hc => ?_
    have := hs c hc
    have h1 : c ≠ 39 := by omega
    have h2 : c ≠ 92 := by omega
    simp only [Bool.and_eq_true, decide_eq_true_eq, bne_iff_ne]
    exact ⟨⟨⟨by omega, by omega⟩, h1⟩, h2⟩
theorem strI_dig (i : Int) : ∀ c ∈ strI i, 45 ≤ c ∧ c ≤ 57 := by
  have dg : ∀ c : Char, c.isDigit = true → 45 ≤ c.toNat ∧ c.toNat ≤ 57 := fun c h => by
    unfold Char.isDigit at h
    simp only [Bool.and_eq_true, decide_eq_true_eq] at h
    have h1 : (48 : Nat) ≤ c.toNat := h.1
    have h2 : c.toNat ≤ (57 : Nat) := h.2
    omega
  intro c hc
  unfold strI at hc
  obtain ⟨ch, hch, rfl⟩ := List.mem_map.mp hc
  cases i with
  | ofNat n => exact dg _ (digs_ok n ch hch)
  | negSucc n =>
    have e : (toString (Int.negSucc n)) = "-" ++ toString (n + 1) := rfl
    rw [e] at hch
    simp at hch
    rcases hch with rfl | hch
    · decide
    · exact dg _ (digs_ok (n + 1) ch (by simpa using hch))
theorem lf_strI {i : Int} (h : i.natAbs < 2 ^ 100) : lfB (.str (strI i)) = true := by
  have l : (strI i).length ≤ 1000 := by
    have dl : ∀ n : Nat, n < 2 ^ 100 → (toString n).toList.length ≤ 500 := by
      intro n hn
      have e : (toString n).toList = Nat.toDigits 10 n := by
        show (Nat.repr n).toList = _
        unfold Nat.repr
        simp
      rw [e, Nat.length_toDigits_le_iff (by decide) (by decide)]
      exact Nat.lt_of_lt_of_le hn (Nat.le_trans (Nat.pow_le_pow_left (by decide) 100) (Nat.pow_le_pow_right (by decide) (by decide)))
    unfold strI
    rw [List.length_map]
    cases i with
    | ofNat n => exact Nat.le_trans (dl n h) (by decide)
    | negSucc n =>
      have e : (toString (Int.negSucc n)) = "-" ++ toString (n + 1) := rfl
      rw [e]
      have := dl (n + 1) h
      simp only [String.toList_append, List.length_append]
      have : "-".toList.length = 1 := rfl
      omega
  simp only [lfB, digs_strT _ (strI_dig i), Bool.true_and, decide_eq_true_eq]
  exact l
section
variable {kd : Kd} {P : List Fn} [Tab P] [KTab kd] {d : Nat} {h : L} {r q n : Nat}
theorem sub_mem {h : L} {i : Nat} {xs : List W} (e : h[i]? = some (.lst xs)) {w : Int} (w0 : 0 ≤ w) (w1 : w < xs.length) : ∃ v, v ∈ xs ∧ subv kd (.ref i) (.int w) h = .ok v h := by
  obtain ⟨k, rfl⟩ := Int.eq_ofNat_of_zero_le w0
  have hk : k < xs.length := by omega
  exact ⟨xs[k], List.getElem_mem hk, sub_lst e k (List.getElem?_eq_getElem hk)⟩
/-- a list of the parts, or a tuple -/
theorem bent_some {a : W} {y : List W} (ha : lfB a = true) (hy : y.all lfB = true) (hl : y.length ≤ 2) (h0 : h[d]? = some (.lst (a :: y))) (v : W)
    (m : v ∈ [.ref d, .tup (a :: y ++ [.int 0]), .tup ((a :: y).take y.length), .tup y, .tup (.str [82, 101, 97, 108] :: y), .tup (.tup [.str REAL] :: y)]) : OkT h v := by
  have l1 : ∀ z, lfB z = true → x1B z = true := fun z hz => by cases z <;> first | exact hz | cases hz
  have ly : y.all x1B = true := List.all_eq_true.mpr fun z hz => l1 z (List.all_eq_true.mp hy z hz)
  simp only [List.mem_cons, List.not_mem_nil, or_false] at m
  rcases m with rfl | rfl | rfl | rfl | rfl | rfl
  · exact okT_lst h0 (by simp; omega) (by simp [ha]; simpa using hy)
  · refine okT_x2 ?_
    simp only [x2B, List.length_append, List.length_cons, List.length_nil, List.all_append, List.all_cons, List.all_nil, l1 a ha, ly, Bool.true_and, Bool.and_true, Bool.and_eq_true, decide_eq_true_eq]
    exact ⟨by omega, rfl⟩
  · refine okT_x2 ?_
    simp only [x2B, Bool.and_eq_true, decide_eq_true_eq]
    refine ⟨by simp; omega, List.all_eq_true.mpr fun z hz => ?_⟩
    rcases List.mem_cons.mp (List.mem_of_mem_take hz) with rfl | hz
    · exact l1 _ ha
    · exact List.all_eq_true.mp ly z hz
  · refine okT_x2 ?_
    simp only [x2B, ly, Bool.and_true, decide_eq_true_eq]
    omega
  · refine okT_x2 ?_
    simp only [x2B, List.length_cons, List.all_cons, ly, Bool.and_true, Bool.and_eq_true, decide_eq_true_eq]
    exact ⟨by omega, by decide⟩
  · refine okT_x2 ?_
    simp only [x2B, List.length_cons, List.all_cons, ly, Bool.and_true, Bool.and_eq_true, decide_eq_true_eq]
    exact ⟨by omega, by decide⟩
theorem bent_t {x : W} (hx : isRealB x = true) (S : Strm h r q n) (hn : n ≤ 900000) : ∃ v h', call kd P (d + 3) F_law_bent [.ref r, x] h = .ok v h' ∧ OkT h' v ∧ Strm h' r q (n + 3) ∧ Grow r q h h' := by
  obtain ⟨w, h1, e1, w0, w1, S1, G1⟩ := draw_t (kd := kd) (P := P) (d := d + 1) S (m := 12) (by omega) (by decide) (by decide)
  rw [call_run h_law_bent rfl]
  show ∃ v h', fin (runs (call kd P (d + 2)) kd (c_law_bent F_law_draw F_law_pick).body [some (.ref r), some x, none, none, none, none, none] h) = .ok v h' ∧ _
  simp only [c_law_bent]
  have e1 : call kd P (d + 2) F_law_draw [.ref r, .int 12] h = _ := e1
  rw [run_cons]
  simp [R.bind_ok, R.calm_ok, q_cst, q_var, q_varK, q_bin, q_binK, q_binK2, q_neg, q_negK, q_not, q_and, q_andK_t, q_andK_f, q_or, q_orK_t, q_orK_f, q_cmp, q_cmpK, q_cmpK2, q_cmp2, q_cmp2K, q_cmp2K2, q_cmp2K3_t, q_cmp2K3_f, q_ite, q_iteK_t, q_iteK_f, q_tup, q_lst, q_dic, q_sub, q_subK, q_subK2, q_slc, q_slcK, q_slcK2, q_slcK3, q_rev, q_call, q_callK, q_bf, q_bfK, q_mt, q_mtK, q_mtK2, q_mt_int, q_lc, q_lcF, q_bfc, q_cfK, q_idx, q_idxK, q_nil, q_cons, q_consK, q_consK2, q_of, q_srcK_tup, q_srcK_str, q_srcK_ref, q_rng1, q_rng1K, q_rng2, q_rng2K, q_zip, q_zipK_tup, q_zipK_ref, q_enum, q_enumK, q_nm, q_tp, q_tpK, q_tpK_ref, q_sb, q_sbK, q_sbK2, q_unK, q_snil, q_scons, q_stoK, q_tnil, q_tcons, q_evtK_t, q_evtK_f, q_mk, q_evcK, q_asg, q_asgK, q_nxK, q_aug, q_augK, q_augK2, q_augK3, q_ife, q_ifeK_t, q_ifeK_f, q_for, q_forG, q_ret, q_retK, q_retn, q_expr, q_dropK, q_pass, q_brk, q_cont, q_try, q_xnil, q_xcons, q_nx, q_rt, q_bk, q_ct, q_tst, q_tstK, q_fin_rt, q_fin_nx, q_t0, q_l0, q_t1, q_l1, q_t2, q_l2, q_t3, q_l3, q_t4, q_l4, q_t5, q_l5, q_t6, q_l6, q_t7, q_l7, q_t8, q_l8, q_t9, q_l9, q_t10, q_l10, q_t11, q_l11, q_t12, q_l12, q_t13, q_l13, q_t14, q_l14, q_t15, q_l15, q_t16, q_l16, q_t17, q_l17, q_t18, q_l18, q_t19, q_l19, q_notK, gets, sets, wipes, cmpop, ofB, isv, eqh_int, eqh_str, eqh_bl, bfn, bIsi, isT, isTs, tyN, tysOf, TN.is, bInt, bLen, bTup, items, add_int, sub_int, app_at, app_at0, app_put, app_put0, alloc_0, cturn, e1]
  rw [run_nx]
  rcases real_cases hx with ⟨b, rfl, hb⟩ | ⟨m, k, rfl, hf⟩
  · have s1 : ∀ h, slcv (.tup [.str REAL, .str b]) .non (.int (-1)) h = .ok (.tup [.str REAL]) h := fun _ => rfl
    have s2 : ∀ h, slcv (.tup [.str REAL, .str b]) (.int 1) .non h = .ok (.tup [.str b]) h := fun _ => rfl
    have lb : lfB (.str b) = true := by rcases word_cases hb with rfl | rfl | rfl | rfl <;> decide
    rw [run_cons]
    simp [R.bind_ok, R.calm_ok, q_cst, q_var, q_varK, q_bin, q_binK, q_binK2, q_neg, q_negK, q_not, q_and, q_andK_t, q_andK_f, q_or, q_orK_t, q_orK_f, q_cmp, q_cmpK, q_cmpK2, q_cmp2, q_cmp2K, q_cmp2K2, q_cmp2K3_t, q_cmp2K3_f, q_ite, q_iteK_t, q_iteK_f, q_tup, q_lst, q_dic, q_sub, q_subK, q_subK2, q_slc, q_slcK, q_slcK2, q_slcK3, q_rev, q_call, q_callK, q_bf, q_bfK, q_mt, q_mtK, q_mtK2, q_mt_int, q_lc, q_lcF, q_bfc, q_cfK, q_idx, q_idxK, q_nil, q_cons, q_consK, q_consK2, q_of, q_srcK_tup, q_srcK_str, q_srcK_ref, q_rng1, q_rng1K, q_rng2, q_rng2K, q_zip, q_zipK_tup, q_zipK_ref, q_enum, q_enumK, q_nm, q_tp, q_tpK, q_tpK_ref, q_sb, q_sbK, q_sbK2, q_unK, q_snil, q_scons, q_stoK, q_tnil, q_tcons, q_evtK_t, q_evtK_f, q_mk, q_evcK, q_asg, q_asgK, q_nxK, q_aug, q_augK, q_augK2, q_augK3, q_ife, q_ifeK_t, q_ifeK_f, q_for, q_forG, q_ret, q_retK, q_retn, q_expr, q_dropK, q_pass, q_brk, q_cont, q_try, q_xnil, q_xcons, q_nx, q_rt, q_bk, q_ct, q_tst, q_tstK, q_fin_rt, q_fin_nx, q_t0, q_l0, q_t1, q_l1, q_t2, q_l2, q_t3, q_l3, q_t4, q_l4, q_t5, q_l5, q_t6, q_l6, q_t7, q_l7, q_t8, q_l8, q_t9, q_l9, q_t10, q_l10, q_t11, q_l11, q_t12, q_l12, q_t13, q_l13, q_t14, q_l14, q_t15, q_l15, q_t16, q_l16, q_t17, q_l17, q_t18, q_l18, q_t19, q_l19, q_notK, gets, sets, wipes, cmpop, ofB, isv, eqh_int, eqh_str, eqh_bl, bfn, bIsi, isT, isTs, tyN, tysOf, TN.is, bInt, bLen, bTup, items, add_int, sub_int, app_at, app_at0, app_put, app_put0, alloc_0, cturn, s1, s2, binop]
    rw [run_nx]
    by_cases w2 : w < 6
    · obtain ⟨v, mv, e2⟩ := sub_mem (kd := kd) (h := h1 ++ [O.lst [.str REAL, .str b], O.lst [.ref h1.length, .tup [.str REAL, .str b, .int 0], .tup [.str REAL], .tup [.str b], .tup [.str [82, 101, 97, 108], .str b], .tup [.tup [.str REAL], .str b]]]) (i := h1.length + 1) (xs := [.ref h1.length, .tup [.str REAL, .str b, .int 0], .tup [.str REAL], .tup [.str b], .tup [.str [82, 101, 97, 108], .str b], .tup [.tup [.str REAL], .str b]]) (by rw [app_at]; rfl) w0 w2
      refine ⟨v, h1 ++ [O.lst [.str REAL, .str b], O.lst [.ref h1.length, .tup [.str REAL, .str b, .int 0], .tup [.str REAL], .tup [.str b], .tup [.str [82, 101, 97, 108], .str b], .tup [.tup [.str REAL], .str b]]], ?_, bent_some (a := .str REAL) (y := [.str b]) (by decide) (by simp [lb]) (by simp) (d := h1.length) (by rw [app_at0]; rfl) v mv, ((S1.ap Ap.app).mono (by omega)), G1.trans Grow.app⟩
      unfold REAL at e2 ⊢
      rw [run_cons]
      simp [R.bind_ok, R.calm_ok, q_cst, q_var, q_varK, q_bin, q_binK, q_binK2, q_neg, q_negK, q_not, q_and, q_andK_t, q_andK_f, q_or, q_orK_t, q_orK_f, q_cmp, q_cmpK, q_cmpK2, q_cmp2, q_cmp2K, q_cmp2K2, q_cmp2K3_t, q_cmp2K3_f, q_ite, q_iteK_t, q_iteK_f, q_tup, q_lst, q_dic, q_sub, q_subK, q_subK2, q_slc, q_slcK, q_slcK2, q_slcK3, q_rev, q_call, q_callK, q_bf, q_bfK, q_mt, q_mtK, q_mtK2, q_mt_int, q_lc, q_lcF, q_bfc, q_cfK, q_idx, q_idxK, q_nil, q_cons, q_consK, q_consK2, q_of, q_srcK_tup, q_srcK_str, q_srcK_ref, q_rng1, q_rng1K, q_rng2, q_rng2K, q_zip, q_zipK_tup, q_zipK_ref, q_enum, q_enumK, q_nm, q_tp, q_tpK, q_tpK_ref, q_sb, q_sbK, q_sbK2, q_unK, q_snil, q_scons, q_stoK, q_tnil, q_tcons, q_evtK_t, q_evtK_f, q_mk, q_evcK, q_asg, q_asgK, q_nxK, q_aug, q_augK, q_augK2, q_augK3, q_ife, q_ifeK_t, q_ifeK_f, q_for, q_forG, q_ret, q_retK, q_retn, q_expr, q_dropK, q_pass, q_brk, q_cont, q_try, q_xnil, q_xcons, q_nx, q_rt, q_bk, q_ct, q_tst, q_tstK, q_fin_rt, q_fin_nx, q_t0, q_l0, q_t1, q_l1, q_t2, q_l2, q_t3, q_l3, q_t4, q_l4, q_t5, q_l5, q_t6, q_l6, q_t7, q_l7, q_t8, q_l8, q_t9, q_l9, q_t10, q_l10, q_t11, q_l11, q_t12, q_l12, q_t13, q_l13, q_t14, q_l14, q_t15, q_l15, q_t16, q_l16, q_t17, q_l17, q_t18, q_l18, q_t19, q_l19, q_notK, gets, sets, wipes, cmpop, ofB, isv, eqh_int, eqh_str, eqh_bl, bfn, bIsi, isT, isTs, tyN, tysOf, TN.is, bInt, bLen, bTup, items, add_int, sub_int, app_at, app_at0, app_put, app_put0, alloc_0, cturn, run_rt, run_nx, run_nil, w2, e2]
    · rw [run_cons]
      simp [R.bind_ok, R.calm_ok, q_cst, q_var, q_varK, q_bin, q_binK, q_binK2, q_neg, q_negK, q_not, q_and, q_andK_t, q_andK_f, q_or, q_orK_t, q_orK_f, q_cmp, q_cmpK, q_cmpK2, q_cmp2, q_cmp2K, q_cmp2K2, q_cmp2K3_t, q_cmp2K3_f, q_ite, q_iteK_t, q_iteK_f, q_tup, q_lst, q_dic, q_sub, q_subK, q_subK2, q_slc, q_slcK, q_slcK2, q_slcK3, q_rev, q_call, q_callK, q_bf, q_bfK, q_mt, q_mtK, q_mtK2, q_mt_int, q_lc, q_lcF, q_bfc, q_cfK, q_idx, q_idxK, q_nil, q_cons, q_consK, q_consK2, q_of, q_srcK_tup, q_srcK_str, q_srcK_ref, q_rng1, q_rng1K, q_rng2, q_rng2K, q_zip, q_zipK_tup, q_zipK_ref, q_enum, q_enumK, q_nm, q_tp, q_tpK, q_tpK_ref, q_sb, q_sbK, q_sbK2, q_unK, q_snil, q_scons, q_stoK, q_tnil, q_tcons, q_evtK_t, q_evtK_f, q_mk, q_evcK, q_asg, q_asgK, q_nxK, q_aug, q_augK, q_augK2, q_augK3, q_ife, q_ifeK_t, q_ifeK_f, q_for, q_forG, q_ret, q_retK, q_retn, q_expr, q_dropK, q_pass, q_brk, q_cont, q_try, q_xnil, q_xcons, q_nx, q_rt, q_bk, q_ct, q_tst, q_tstK, q_fin_rt, q_fin_nx, q_t0, q_l0, q_t1, q_l1, q_t2, q_l2, q_t3, q_l3, q_t4, q_l4, q_t5, q_l5, q_t6, q_l6, q_t7, q_l7, q_t8, q_l8, q_t9, q_l9, q_t10, q_l10, q_t11, q_l11, q_t12, q_l12, q_t13, q_l13, q_t14, q_l14, q_t15, q_l15, q_t16, q_l16, q_t17, q_l17, q_t18, q_l18, q_t19, q_l19, q_notK, gets, sets, wipes, cmpop, ofB, isv, eqh_int, eqh_str, eqh_bl, bfn, bIsi, isT, isTs, tyN, tysOf, TN.is, bInt, bLen, bTup, items, add_int, sub_int, app_at, app_at0, app_put, app_put0, alloc_0, cturn, w2]
      rw [run_nx]
      rw [run_cons]
      unfold REAL
      simp [R.bind_ok, R.calm_ok, q_cst, q_var, q_varK, q_bin, q_binK, q_binK2, q_neg, q_negK, q_not, q_and, q_andK_t, q_andK_f, q_or, q_orK_t, q_orK_f, q_cmp, q_cmpK, q_cmpK2, q_cmp2, q_cmp2K, q_cmp2K2, q_cmp2K3_t, q_cmp2K3_f, q_ite, q_iteK_t, q_iteK_f, q_tup, q_lst, q_dic, q_sub, q_subK, q_subK2, q_slc, q_slcK, q_slcK2, q_slcK3, q_rev, q_call, q_callK, q_bf, q_bfK, q_mt, q_mtK, q_mtK2, q_mt_int, q_lc, q_lcF, q_bfc, q_cfK, q_idx, q_idxK, q_nil, q_cons, q_consK, q_consK2, q_of, q_srcK_tup, q_srcK_str, q_srcK_ref, q_rng1, q_rng1K, q_rng2, q_rng2K, q_zip, q_zipK_tup, q_zipK_ref, q_enum, q_enumK, q_nm, q_tp, q_tpK, q_tpK_ref, q_sb, q_sbK, q_sbK2, q_unK, q_snil, q_scons, q_stoK, q_tnil, q_tcons, q_evtK_t, q_evtK_f, q_mk, q_evcK, q_asg, q_asgK, q_nxK, q_aug, q_augK, q_augK2, q_augK3, q_ife, q_ifeK_t, q_ifeK_f, q_for, q_forG, q_ret, q_retK, q_retn, q_expr, q_dropK, q_pass, q_brk, q_cont, q_try, q_xnil, q_xcons, q_nx, q_rt, q_bk, q_ct, q_tst, q_tstK, q_fin_rt, q_fin_nx, q_t0, q_l0, q_t1, q_l1, q_t2, q_l2, q_t3, q_l3, q_t4, q_l4, q_t5, q_l5, q_t6, q_l6, q_t7, q_l7, q_t8, q_l8, q_t9, q_l9, q_t10, q_l10, q_t11, q_l11, q_t12, q_l12, q_t13, q_l13, q_t14, q_l14, q_t15, q_l15, q_t16, q_l16, q_t17, q_l17, q_t18, q_l18, q_t19, q_l19, q_notK, gets, sets, wipes, cmpop, ofB, isv, eqh_int, eqh_str, eqh_bl, bfn, bIsi, isT, isTs, tyN, tysOf, TN.is, bInt, bLen, bTup, items, add_int, sub_int, app_at, app_at0, app_put, app_put0, alloc_0, cturn]
      refine pick_end2 (p := OkT) S1 G1 (by omega) (by omega) (j := 2) rfl (by simp) (by simp) ?_
      intro h' _ v m
      simp only [List.mem_cons, List.not_mem_nil, or_false] at m
      rcases m with rfl | rfl | rfl | rfl | rfl | rfl
      · refine okT_x2 ?_
        have l1 : x1B (.str b) = true := lb
        simp only [x2B, List.all_cons, List.all_nil, l1]
        rfl
      all_goals exact okT_x2 (by decide)
  · obtain ⟨f1, f2, f3, f4, f5⟩ := fits_bd hf
    have s1 : ∀ h, slcv (.tup [.str REAL, .int m, .int k]) .non (.int (-1)) h = .ok (.tup [.str REAL, .int m]) h := fun _ => rfl
    have s2 : ∀ h, slcv (.tup [.str REAL, .int m, .int k]) (.int 1) .non h = .ok (.tup [.int m, .int k]) h := fun _ => rfl
    have lm : lfB (.int m) = true := lf_int (Nat.lt_of_lt_of_le f1 (Nat.pow_le_pow_right (by decide) (by decide)))
    have lk : lfB (.int k) = true := lf_int (Nat.lt_of_lt_of_le (show k.natAbs < 2 ^ 12 by omega) (Nat.pow_le_pow_right (by decide) (by decide)))
    have x1 : ∀ i, lfB (.int i) = true → x1B (.int i) = true := fun _ z => z
    rw [run_cons]
    simp [R.bind_ok, R.calm_ok, q_cst, q_var, q_varK, q_bin, q_binK, q_binK2, q_neg, q_negK, q_not, q_and, q_andK_t, q_andK_f, q_or, q_orK_t, q_orK_f, q_cmp, q_cmpK, q_cmpK2, q_cmp2, q_cmp2K, q_cmp2K2, q_cmp2K3_t, q_cmp2K3_f, q_ite, q_iteK_t, q_iteK_f, q_tup, q_lst, q_dic, q_sub, q_subK, q_subK2, q_slc, q_slcK, q_slcK2, q_slcK3, q_rev, q_call, q_callK, q_bf, q_bfK, q_mt, q_mtK, q_mtK2, q_mt_int, q_lc, q_lcF, q_bfc, q_cfK, q_idx, q_idxK, q_nil, q_cons, q_consK, q_consK2, q_of, q_srcK_tup, q_srcK_str, q_srcK_ref, q_rng1, q_rng1K, q_rng2, q_rng2K, q_zip, q_zipK_tup, q_zipK_ref, q_enum, q_enumK, q_nm, q_tp, q_tpK, q_tpK_ref, q_sb, q_sbK, q_sbK2, q_unK, q_snil, q_scons, q_stoK, q_tnil, q_tcons, q_evtK_t, q_evtK_f, q_mk, q_evcK, q_asg, q_asgK, q_nxK, q_aug, q_augK, q_augK2, q_augK3, q_ife, q_ifeK_t, q_ifeK_f, q_for, q_forG, q_ret, q_retK, q_retn, q_expr, q_dropK, q_pass, q_brk, q_cont, q_try, q_xnil, q_xcons, q_nx, q_rt, q_bk, q_ct, q_tst, q_tstK, q_fin_rt, q_fin_nx, q_t0, q_l0, q_t1, q_l1, q_t2, q_l2, q_t3, q_l3, q_t4, q_l4, q_t5, q_l5, q_t6, q_l6, q_t7, q_l7, q_t8, q_l8, q_t9, q_l9, q_t10, q_l10, q_t11, q_l11, q_t12, q_l12, q_t13, q_l13, q_t14, q_l14, q_t15, q_l15, q_t16, q_l16, q_t17, q_l17, q_t18, q_l18, q_t19, q_l19, q_notK, gets, sets, wipes, cmpop, ofB, isv, eqh_int, eqh_str, eqh_bl, bfn, bIsi, isT, isTs, tyN, tysOf, TN.is, bInt, bLen, bTup, items, add_int, sub_int, app_at, app_at0, app_put, app_put0, alloc_0, cturn, s1, s2, binop]
    rw [run_nx]
    by_cases w2 : w < 6
    · obtain ⟨v, mv, e2⟩ := sub_mem (kd := kd) (h := h1 ++ [O.lst [.str REAL, .int m, .int k], O.lst [.ref h1.length, .tup [.str REAL, .int m, .int k, .int 0], .tup [.str REAL, .int m], .tup [.int m, .int k], .tup [.str [82, 101, 97, 108], .int m, .int k], .tup [.tup [.str REAL], .int m, .int k]]]) (i := h1.length + 1) (xs := [.ref h1.length, .tup [.str REAL, .int m, .int k, .int 0], .tup [.str REAL, .int m], .tup [.int m, .int k], .tup [.str [82, 101, 97, 108], .int m, .int k], .tup [.tup [.str REAL], .int m, .int k]]) (by rw [app_at]; rfl) w0 w2
      refine ⟨v, h1 ++ [O.lst [.str REAL, .int m, .int k], O.lst [.ref h1.length, .tup [.str REAL, .int m, .int k, .int 0], .tup [.str REAL, .int m], .tup [.int m, .int k], .tup [.str [82, 101, 97, 108], .int m, .int k], .tup [.tup [.str REAL], .int m, .int k]]], ?_, bent_some (a := .str REAL) (y := [.int m, .int k]) (by decide) (by simp [lm, lk]) (by simp) (d := h1.length) (by rw [app_at0]; rfl) v mv, ((S1.ap Ap.app).mono (by omega)), G1.trans Grow.app⟩
      unfold REAL at e2 ⊢
      rw [run_cons]
      simp [R.bind_ok, R.calm_ok, q_cst, q_var, q_varK, q_bin, q_binK, q_binK2, q_neg, q_negK, q_not, q_and, q_andK_t, q_andK_f, q_or, q_orK_t, q_orK_f, q_cmp, q_cmpK, q_cmpK2, q_cmp2, q_cmp2K, q_cmp2K2, q_cmp2K3_t, q_cmp2K3_f, q_ite, q_iteK_t, q_iteK_f, q_tup, q_lst, q_dic, q_sub, q_subK, q_subK2, q_slc, q_slcK, q_slcK2, q_slcK3, q_rev, q_call, q_callK, q_bf, q_bfK, q_mt, q_mtK, q_mtK2, q_mt_int, q_lc, q_lcF, q_bfc, q_cfK, q_idx, q_idxK, q_nil, q_cons, q_consK, q_consK2, q_of, q_srcK_tup, q_srcK_str, q_srcK_ref, q_rng1, q_rng1K, q_rng2, q_rng2K, q_zip, q_zipK_tup, q_zipK_ref, q_enum, q_enumK, q_nm, q_tp, q_tpK, q_tpK_ref, q_sb, q_sbK, q_sbK2, q_unK, q_snil, q_scons, q_stoK, q_tnil, q_tcons, q_evtK_t, q_evtK_f, q_mk, q_evcK, q_asg, q_asgK, q_nxK, q_aug, q_augK, q_augK2, q_augK3, q_ife, q_ifeK_t, q_ifeK_f, q_for, q_forG, q_ret, q_retK, q_retn, q_expr, q_dropK, q_pass, q_brk, q_cont, q_try, q_xnil, q_xcons, q_nx, q_rt, q_bk, q_ct, q_tst, q_tstK, q_fin_rt, q_fin_nx, q_t0, q_l0, q_t1, q_l1, q_t2, q_l2, q_t3, q_l3, q_t4, q_l4, q_t5, q_l5, q_t6, q_l6, q_t7, q_l7, q_t8, q_l8, q_t9, q_l9, q_t10, q_l10, q_t11, q_l11, q_t12, q_l12, q_t13, q_l13, q_t14, q_l14, q_t15, q_l15, q_t16, q_l16, q_t17, q_l17, q_t18, q_l18, q_t19, q_l19, q_notK, gets, sets, wipes, cmpop, ofB, isv, eqh_int, eqh_str, eqh_bl, bfn, bIsi, isT, isTs, tyN, tysOf, TN.is, bInt, bLen, bTup, items, add_int, sub_int, app_at, app_at0, app_put, app_put0, alloc_0, cturn, run_rt, run_nx, run_nil, w2, e2]
    · rw [run_cons]
      simp [R.bind_ok, R.calm_ok, q_cst, q_var, q_varK, q_bin, q_binK, q_binK2, q_neg, q_negK, q_not, q_and, q_andK_t, q_andK_f, q_or, q_orK_t, q_orK_f, q_cmp, q_cmpK, q_cmpK2, q_cmp2, q_cmp2K, q_cmp2K2, q_cmp2K3_t, q_cmp2K3_f, q_ite, q_iteK_t, q_iteK_f, q_tup, q_lst, q_dic, q_sub, q_subK, q_subK2, q_slc, q_slcK, q_slcK2, q_slcK3, q_rev, q_call, q_callK, q_bf, q_bfK, q_mt, q_mtK, q_mtK2, q_mt_int, q_lc, q_lcF, q_bfc, q_cfK, q_idx, q_idxK, q_nil, q_cons, q_consK, q_consK2, q_of, q_srcK_tup, q_srcK_str, q_srcK_ref, q_rng1, q_rng1K, q_rng2, q_rng2K, q_zip, q_zipK_tup, q_zipK_ref, q_enum, q_enumK, q_nm, q_tp, q_tpK, q_tpK_ref, q_sb, q_sbK, q_sbK2, q_unK, q_snil, q_scons, q_stoK, q_tnil, q_tcons, q_evtK_t, q_evtK_f, q_mk, q_evcK, q_asg, q_asgK, q_nxK, q_aug, q_augK, q_augK2, q_augK3, q_ife, q_ifeK_t, q_ifeK_f, q_for, q_forG, q_ret, q_retK, q_retn, q_expr, q_dropK, q_pass, q_brk, q_cont, q_try, q_xnil, q_xcons, q_nx, q_rt, q_bk, q_ct, q_tst, q_tstK, q_fin_rt, q_fin_nx, q_t0, q_l0, q_t1, q_l1, q_t2, q_l2, q_t3, q_l3, q_t4, q_l4, q_t5, q_l5, q_t6, q_l6, q_t7, q_l7, q_t8, q_l8, q_t9, q_l9, q_t10, q_l10, q_t11, q_l11, q_t12, q_l12, q_t13, q_l13, q_t14, q_l14, q_t15, q_l15, q_t16, q_l16, q_t17, q_l17, q_t18, q_l18, q_t19, q_l19, q_notK, gets, sets, wipes, cmpop, ofB, isv, eqh_int, eqh_str, eqh_bl, bfn, bIsi, isT, isTs, tyN, tysOf, TN.is, bInt, bLen, bTup, items, add_int, sub_int, app_at, app_at0, app_put, app_put0, alloc_0, cturn, w2]
      rw [run_nx]
      by_cases w3 : 9 < w
      · rw [run_cons]
        unfold REAL
        simp [R.bind_ok, R.calm_ok, q_cst, q_var, q_varK, q_bin, q_binK, q_binK2, q_neg, q_negK, q_not, q_and, q_andK_t, q_andK_f, q_or, q_orK_t, q_orK_f, q_cmp, q_cmpK, q_cmpK2, q_cmp2, q_cmp2K, q_cmp2K2, q_cmp2K3_t, q_cmp2K3_f, q_ite, q_iteK_t, q_iteK_f, q_tup, q_lst, q_dic, q_sub, q_subK, q_subK2, q_slc, q_slcK, q_slcK2, q_slcK3, q_rev, q_call, q_callK, q_bf, q_bfK, q_mt, q_mtK, q_mtK2, q_mt_int, q_lc, q_lcF, q_bfc, q_cfK, q_idx, q_idxK, q_nil, q_cons, q_consK, q_consK2, q_of, q_srcK_tup, q_srcK_str, q_srcK_ref, q_rng1, q_rng1K, q_rng2, q_rng2K, q_zip, q_zipK_tup, q_zipK_ref, q_enum, q_enumK, q_nm, q_tp, q_tpK, q_tpK_ref, q_sb, q_sbK, q_sbK2, q_unK, q_snil, q_scons, q_stoK, q_tnil, q_tcons, q_evtK_t, q_evtK_f, q_mk, q_evcK, q_asg, q_asgK, q_nxK, q_aug, q_augK, q_augK2, q_augK3, q_ife, q_ifeK_t, q_ifeK_f, q_for, q_forG, q_ret, q_retK, q_retn, q_expr, q_dropK, q_pass, q_brk, q_cont, q_try, q_xnil, q_xcons, q_nx, q_rt, q_bk, q_ct, q_tst, q_tstK, q_fin_rt, q_fin_nx, q_t0, q_l0, q_t1, q_l1, q_t2, q_l2, q_t3, q_l3, q_t4, q_l4, q_t5, q_l5, q_t6, q_l6, q_t7, q_l7, q_t8, q_l8, q_t9, q_l9, q_t10, q_l10, q_t11, q_l11, q_t12, q_l12, q_t13, q_l13, q_t14, q_l14, q_t15, q_l15, q_t16, q_l16, q_t17, q_l17, q_t18, q_l18, q_t19, q_l19, q_notK, gets, sets, wipes, cmpop, ofB, isv, eqh_int, eqh_str, eqh_bl, bfn, bIsi, isT, isTs, tyN, tysOf, TN.is, bInt, bLen, bTup, items, add_int, sub_int, app_at, app_at0, app_put, app_put0, alloc_0, cturn, w3]
        refine pick_end2 (p := OkT) S1 G1 (by omega) (by omega) (j := 2) rfl (by simp) (by simp) ?_
        intro h' _ v m
        simp only [List.mem_cons, List.not_mem_nil, or_false] at m
        rcases m with rfl | rfl | rfl | rfl | rfl | rfl
        · refine okT_x2 ?_
          simp only [x2B, List.all_cons, List.all_nil, x1 _ lm, x1 _ lk]
          rfl
        all_goals exact okT_x2 (by decide)
      · rw [run_cons]
        simp [R.bind_ok, R.calm_ok, q_cst, q_var, q_varK, q_bin, q_binK, q_binK2, q_neg, q_negK, q_not, q_and, q_andK_t, q_andK_f, q_or, q_orK_t, q_orK_f, q_cmp, q_cmpK, q_cmpK2, q_cmp2, q_cmp2K, q_cmp2K2, q_cmp2K3_t, q_cmp2K3_f, q_ite, q_iteK_t, q_iteK_f, q_tup, q_lst, q_dic, q_sub, q_subK, q_subK2, q_slc, q_slcK, q_slcK2, q_slcK3, q_rev, q_call, q_callK, q_bf, q_bfK, q_mt, q_mtK, q_mtK2, q_mt_int, q_lc, q_lcF, q_bfc, q_cfK, q_idx, q_idxK, q_nil, q_cons, q_consK, q_consK2, q_of, q_srcK_tup, q_srcK_str, q_srcK_ref, q_rng1, q_rng1K, q_rng2, q_rng2K, q_zip, q_zipK_tup, q_zipK_ref, q_enum, q_enumK, q_nm, q_tp, q_tpK, q_tpK_ref, q_sb, q_sbK, q_sbK2, q_unK, q_snil, q_scons, q_stoK, q_tnil, q_tcons, q_evtK_t, q_evtK_f, q_mk, q_evcK, q_asg, q_asgK, q_nxK, q_aug, q_augK, q_augK2, q_augK3, q_ife, q_ifeK_t, q_ifeK_f, q_for, q_forG, q_ret, q_retK, q_retn, q_expr, q_dropK, q_pass, q_brk, q_cont, q_try, q_xnil, q_xcons, q_nx, q_rt, q_bk, q_ct, q_tst, q_tstK, q_fin_rt, q_fin_nx, q_t0, q_l0, q_t1, q_l1, q_t2, q_l2, q_t3, q_l3, q_t4, q_l4, q_t5, q_l5, q_t6, q_l6, q_t7, q_l7, q_t8, q_l8, q_t9, q_l9, q_t10, q_l10, q_t11, q_l11, q_t12, q_l12, q_t13, q_l13, q_t14, q_l14, q_t15, q_l15, q_t16, q_l16, q_t17, q_l17, q_t18, q_l18, q_t19, q_l19, q_notK, gets, sets, wipes, cmpop, ofB, isv, eqh_int, eqh_str, eqh_bl, bfn, bIsi, isT, isTs, tyN, tysOf, TN.is, bInt, bLen, bTup, items, add_int, sub_int, app_at, app_at0, app_put, app_put0, alloc_0, cturn, w3]
        rw [run_nx]
        rw [run_cons]
        simp [R.bind_ok, R.calm_ok, q_cst, q_var, q_varK, q_bin, q_binK, q_binK2, q_neg, q_negK, q_not, q_and, q_andK_t, q_andK_f, q_or, q_orK_t, q_orK_f, q_cmp, q_cmpK, q_cmpK2, q_cmp2, q_cmp2K, q_cmp2K2, q_cmp2K3_t, q_cmp2K3_f, q_ite, q_iteK_t, q_iteK_f, q_tup, q_lst, q_dic, q_sub, q_subK, q_subK2, q_slc, q_slcK, q_slcK2, q_slcK3, q_rev, q_call, q_callK, q_bf, q_bfK, q_mt, q_mtK, q_mtK2, q_mt_int, q_lc, q_lcF, q_bfc, q_cfK, q_idx, q_idxK, q_nil, q_cons, q_consK, q_consK2, q_of, q_srcK_tup, q_srcK_str, q_srcK_ref, q_rng1, q_rng1K, q_rng2, q_rng2K, q_zip, q_zipK_tup, q_zipK_ref, q_enum, q_enumK, q_nm, q_tp, q_tpK, q_tpK_ref, q_sb, q_sbK, q_sbK2, q_unK, q_snil, q_scons, q_stoK, q_tnil, q_tcons, q_evtK_t, q_evtK_f, q_mk, q_evcK, q_asg, q_asgK, q_nxK, q_aug, q_augK, q_augK2, q_augK3, q_ife, q_ifeK_t, q_ifeK_f, q_for, q_forG, q_ret, q_retK, q_retn, q_expr, q_dropK, q_pass, q_brk, q_cont, q_try, q_xnil, q_xcons, q_nx, q_rt, q_bk, q_ct, q_tst, q_tstK, q_fin_rt, q_fin_nx, q_t0, q_l0, q_t1, q_l1, q_t2, q_l2, q_t3, q_l3, q_t4, q_l4, q_t5, q_l5, q_t6, q_l6, q_t7, q_l7, q_t8, q_l8, q_t9, q_l9, q_t10, q_l10, q_t11, q_l11, q_t12, q_l12, q_t13, q_l13, q_t14, q_l14, q_t15, q_l15, q_t16, q_l16, q_t17, q_l17, q_t18, q_l18, q_t19, q_l19, q_notK, gets, sets, wipes, cmpop, ofB, isv, eqh_int, eqh_str, eqh_bl, bfn, bIsi, isT, isTs, tyN, tysOf, TN.is, bInt, bLen, bTup, items, add_int, sub_int, app_at, app_at0, app_put, app_put0, alloc_0, cturn]
        rw [run_nx]
        have sh : ∀ h, binop .shl (.int 1) (.int 53) h = .ok (.int 9007199254740992) h := fun h => shl_nat (k := 53) (by decide)
        have ml : ∀ h, binop .mul (.int m) (.int 2) h = .ok (.int (m * 2)) h := fun h => mul_ok (by omega) (by decide)
        have ts : (m.natAbs.log2 < 1920) := by
          by_cases z : m.natAbs = 0
          · rw [z]; decide
          · exact (Nat.log2_lt z).mpr (Nat.lt_of_lt_of_le f1 (Nat.pow_le_pow_right (by decide) (by decide)))
        have pw : ∀ h, binop .pow (.int 10) (.int 29) h = .ok (.int 100000000000000000000000000000) h := fun h => pow_ok (a := 10) (b := 29) (by decide) (by decide)
        rw [run_cons]
        simp [R.bind_ok, R.calm_ok, q_cst, q_var, q_varK, q_bin, q_binK, q_binK2, q_neg, q_negK, q_not, q_and, q_andK_t, q_andK_f, q_or, q_orK_t, q_orK_f, q_cmp, q_cmpK, q_cmpK2, q_cmp2, q_cmp2K, q_cmp2K2, q_cmp2K3_t, q_cmp2K3_f, q_ite, q_iteK_t, q_iteK_f, q_tup, q_lst, q_dic, q_sub, q_subK, q_subK2, q_slc, q_slcK, q_slcK2, q_slcK3, q_rev, q_call, q_callK, q_bf, q_bfK, q_mt, q_mtK, q_mtK2, q_mt_int, q_lc, q_lcF, q_bfc, q_cfK, q_idx, q_idxK, q_nil, q_cons, q_consK, q_consK2, q_of, q_srcK_tup, q_srcK_str, q_srcK_ref, q_rng1, q_rng1K, q_rng2, q_rng2K, q_zip, q_zipK_tup, q_zipK_ref, q_enum, q_enumK, q_nm, q_tp, q_tpK, q_tpK_ref, q_sb, q_sbK, q_sbK2, q_unK, q_snil, q_scons, q_stoK, q_tnil, q_tcons, q_evtK_t, q_evtK_f, q_mk, q_evcK, q_asg, q_asgK, q_nxK, q_aug, q_augK, q_augK2, q_augK3, q_ife, q_ifeK_t, q_ifeK_f, q_for, q_forG, q_ret, q_retK, q_retn, q_expr, q_dropK, q_pass, q_brk, q_cont, q_try, q_xnil, q_xcons, q_nx, q_rt, q_bk, q_ct, q_tst, q_tstK, q_fin_rt, q_fin_nx, q_t0, q_l0, q_t1, q_l1, q_t2, q_l2, q_t3, q_l3, q_t4, q_l4, q_t5, q_l5, q_t6, q_l6, q_t7, q_l7, q_t8, q_l8, q_t9, q_l9, q_t10, q_l10, q_t11, q_l11, q_t12, q_l12, q_t13, q_l13, q_t14, q_l14, q_t15, q_l15, q_t16, q_l16, q_t17, q_l17, q_t18, q_l18, q_t19, q_l19, q_notK, gets, sets, wipes, cmpop, ofB, isv, eqh_int, eqh_str, eqh_bl, bfn, bIsi, isT, isTs, tyN, tysOf, TN.is, bInt, bLen, bTup, items, add_int, sub_int, app_at, app_at0, app_put, app_put0, alloc_0, cturn, sh, ml, ts]
        obtain ⟨v, h3, e3, m3, S3, G3, _⟩ := pick_app (kd := kd) (P := P) (d := d) S1 (by omega) (j := 2) (T := [O.lst [.str REAL, .int m, .int k], O.lst [.ref h1.length, .tup [.str REAL, .int m, .int k, .int 0], .tup [.str REAL, .int m], .tup [.int m, .int k], .tup [.str [82, 101, 97, 108], .int m, .int k], .tup [.tup [.str [114, 101, 97, 108]], .int m, .int k]], O.lst [.int (m * 2), .int (m + 9007199254740992), .int (-9007199254740991), .int 9007199254740993, .bl true, .str (strI m), .int 0, .int (-m), .int m]]) rfl (by simp) (by simp)
        have lv : lfB v = true := by
          simp only [List.mem_cons, List.not_mem_nil, or_false] at m3
          have b200 : ∀ i : Int, i.natAbs < 2 ^ 60 → lfB (.int i) = true := fun i z => lf_int (Nat.lt_of_lt_of_le z (Nat.pow_le_pow_right (by decide) (by decide)))
          rcases m3 with rfl | rfl | rfl | rfl | rfl | rfl | rfl | rfl | rfl
          · exact b200 _ (by omega)
          · exact b200 _ (by omega)
          · exact b200 _ (by decide)
          · exact b200 _ (by decide)
          · rfl
          · exact lf_strI (Nat.lt_of_lt_of_le f1 (Nat.pow_le_pow_right (by decide) (by decide)))
          · exact b200 _ (by decide)
          · exact b200 _ (by omega)
          · exact lm
        have ok : ∀ h' z, lfB z = true → OkT h' (.tup [.str REAL, v, z]) := fun h' z hz => okT_x2 (by
          have l1 : ∀ z, lfB z = true → x1B z = true := fun z hz => by cases z <;> first | exact hz | cases hz
          simp only [x2B, List.all_cons, List.all_nil, l1 _ lv, l1 _ hz]
          rfl)
        rw [e3]
        simp only [R.bind_ok, R.calm_ok, q_cst, q_var, q_varK, q_bin, q_binK, q_binK2, q_neg, q_negK, q_not, q_and, q_andK_t, q_andK_f, q_or, q_orK_t, q_orK_f, q_cmp, q_cmpK, q_cmpK2, q_cmp2, q_cmp2K, q_cmp2K2, q_cmp2K3_t, q_cmp2K3_f, q_ite, q_iteK_t, q_iteK_f, q_tup, q_lst, q_dic, q_sub, q_subK, q_subK2, q_slc, q_slcK, q_slcK2, q_slcK3, q_rev, q_call, q_callK, q_bf, q_bfK, q_mt, q_mtK, q_mtK2, q_mt_int, q_lc, q_lcF, q_bfc, q_cfK, q_idx, q_idxK, q_nil, q_cons, q_consK, q_consK2, q_of, q_srcK_tup, q_srcK_str, q_srcK_ref, q_rng1, q_rng1K, q_rng2, q_rng2K, q_zip, q_zipK_tup, q_zipK_ref, q_enum, q_enumK, q_nm, q_tp, q_tpK, q_tpK_ref, q_sb, q_sbK, q_sbK2, q_unK, q_snil, q_scons, q_stoK, q_tnil, q_tcons, q_evtK_t, q_evtK_f, q_mk, q_evcK, q_asg, q_asgK, q_nxK, q_aug, q_augK, q_augK2, q_augK3, q_ife, q_ifeK_t, q_ifeK_f, q_for, q_forG, q_ret, q_retK, q_retn, q_expr, q_dropK, q_pass, q_brk, q_cont, q_try, q_xnil, q_xcons, q_nx, q_rt, q_bk, q_ct, q_tst, q_tstK, q_fin_rt, q_fin_nx, q_t0, q_l0, q_t1, q_l1, q_t2, q_l2, q_t3, q_l3, q_t4, q_l4, q_t5, q_l5, q_t6, q_l6, q_t7, q_l7, q_t8, q_l8, q_t9, q_l9, q_t10, q_l10, q_t11, q_l11, q_t12, q_l12, q_t13, q_l13, q_t14, q_l14, q_t15, q_l15, q_t16, q_l16, q_t17, q_l17, q_t18, q_l18, q_t19, q_l19, q_notK, gets, sets, wipes, cmpop, ofB, isv, eqh_int, eqh_str, eqh_bl, bfn, bIsi, isT, isTs, tyN, tysOf, TN.is, bInt, bLen, bTup, items, add_int, sub_int, app_at, app_at0, app_put, app_put0, alloc_0, cturn]
        rw [run_nx]
        by_cases w4 : w = 6
        · subst w4
          refine ⟨_, h3, ?_, ok h3 _ lk, S3.mono (by omega), G1.trans G3⟩
          rw [run_cons]
          simp [R.bind_ok, R.calm_ok, q_cst, q_var, q_varK, q_bin, q_binK, q_binK2, q_neg, q_negK, q_not, q_and, q_andK_t, q_andK_f, q_or, q_orK_t, q_orK_f, q_cmp, q_cmpK, q_cmpK2, q_cmp2, q_cmp2K, q_cmp2K2, q_cmp2K3_t, q_cmp2K3_f, q_ite, q_iteK_t, q_iteK_f, q_tup, q_lst, q_dic, q_sub, q_subK, q_subK2, q_slc, q_slcK, q_slcK2, q_slcK3, q_rev, q_call, q_callK, q_bf, q_bfK, q_mt, q_mtK, q_mtK2, q_mt_int, q_lc, q_lcF, q_bfc, q_cfK, q_idx, q_idxK, q_nil, q_cons, q_consK, q_consK2, q_of, q_srcK_tup, q_srcK_str, q_srcK_ref, q_rng1, q_rng1K, q_rng2, q_rng2K, q_zip, q_zipK_tup, q_zipK_ref, q_enum, q_enumK, q_nm, q_tp, q_tpK, q_tpK_ref, q_sb, q_sbK, q_sbK2, q_unK, q_snil, q_scons, q_stoK, q_tnil, q_tcons, q_evtK_t, q_evtK_f, q_mk, q_evcK, q_asg, q_asgK, q_nxK, q_aug, q_augK, q_augK2, q_augK3, q_ife, q_ifeK_t, q_ifeK_f, q_for, q_forG, q_ret, q_retK, q_retn, q_expr, q_dropK, q_pass, q_brk, q_cont, q_try, q_xnil, q_xcons, q_nx, q_rt, q_bk, q_ct, q_tst, q_tstK, q_fin_rt, q_fin_nx, q_t0, q_l0, q_t1, q_l1, q_t2, q_l2, q_t3, q_l3, q_t4, q_l4, q_t5, q_l5, q_t6, q_l6, q_t7, q_l7, q_t8, q_l8, q_t9, q_l9, q_t10, q_l10, q_t11, q_l11, q_t12, q_l12, q_t13, q_l13, q_t14, q_l14, q_t15, q_l15, q_t16, q_l16, q_t17, q_l17, q_t18, q_l18, q_t19, q_l19, q_notK, gets, sets, wipes, cmpop, ofB, isv, eqh_int, eqh_str, eqh_bl, bfn, bIsi, isT, isTs, tyN, tysOf, TN.is, bInt, bLen, bTup, items, add_int, sub_int, app_at, app_at0, app_put, app_put0, alloc_0, cturn, run_rt, run_nx, run_nil]
        · have w5 : (w == 6) = false := by simpa using w4
          obtain ⟨u, h4, e4, m4, S4, G4⟩ := pick_new (kd := kd) (P := P) (d := d) S3 (by omega) [.int k, .int 0, .int (-1074), .int (-1075), .int 971, .int 972, .int 1023, .int 1024, .bl false, .int 100000000000000000000000000000] (by simp) (by simp)
          have lu : lfB u = true := by
            simp only [List.mem_cons, List.not_mem_nil, or_false] at m4
            rcases m4 with rfl | rfl | rfl | rfl | rfl | rfl | rfl | rfl | rfl | rfl
            · exact lk
            all_goals first | rfl | exact lf_int (Nat.lt_of_lt_of_le (show _ < 2 ^ 110 by decide) (Nat.pow_le_pow_right (by decide) (by decide)))
          refine ⟨_, h4, ?_, ok h4 _ lu, S4.mono (by omega), G1.trans (G3.trans G4)⟩
          rw [run_cons]
          simp [R.bind_ok, R.calm_ok, q_cst, q_var, q_varK, q_bin, q_binK, q_binK2, q_neg, q_negK, q_not, q_and, q_andK_t, q_andK_f, q_or, q_orK_t, q_orK_f, q_cmp, q_cmpK, q_cmpK2, q_cmp2, q_cmp2K, q_cmp2K2, q_cmp2K3_t, q_cmp2K3_f, q_ite, q_iteK_t, q_iteK_f, q_tup, q_lst, q_dic, q_sub, q_subK, q_subK2, q_slc, q_slcK, q_slcK2, q_slcK3, q_rev, q_call, q_callK, q_bf, q_bfK, q_mt, q_mtK, q_mtK2, q_mt_int, q_lc, q_lcF, q_bfc, q_cfK, q_idx, q_idxK, q_nil, q_cons, q_consK, q_consK2, q_of, q_srcK_tup, q_srcK_str, q_srcK_ref, q_rng1, q_rng1K, q_rng2, q_rng2K, q_zip, q_zipK_tup, q_zipK_ref, q_enum, q_enumK, q_nm, q_tp, q_tpK, q_tpK_ref, q_sb, q_sbK, q_sbK2, q_unK, q_snil, q_scons, q_stoK, q_tnil, q_tcons, q_evtK_t, q_evtK_f, q_mk, q_evcK, q_asg, q_asgK, q_nxK, q_aug, q_augK, q_augK2, q_augK3, q_ife, q_ifeK_t, q_ifeK_f, q_for, q_forG, q_ret, q_retK, q_retn, q_expr, q_dropK, q_pass, q_brk, q_cont, q_try, q_xnil, q_xcons, q_nx, q_rt, q_bk, q_ct, q_tst, q_tstK, q_fin_rt, q_fin_nx, q_t0, q_l0, q_t1, q_l1, q_t2, q_l2, q_t3, q_l3, q_t4, q_l4, q_t5, q_l5, q_t6, q_l6, q_t7, q_l7, q_t8, q_l8, q_t9, q_l9, q_t10, q_l10, q_t11, q_l11, q_t12, q_l12, q_t13, q_l13, q_t14, q_l14, q_t15, q_l15, q_t16, q_l16, q_t17, q_l17, q_t18, q_l18, q_t19, q_l19, q_notK, gets, sets, wipes, cmpop, ofB, isv, eqh_int, eqh_str, eqh_bl, bfn, bIsi, isT, isTs, tyN, tysOf, TN.is, bInt, bLen, bTup, items, add_int, sub_int, app_at, app_at0, app_put, app_put0, alloc_0, cturn, run_rt, run_nx, run_nil, w5, pw, e4]
end
end Vl
set_option maxRecDepth 100000
set_option maxHeartbeats 4000000
namespace Vl
theorem okT_real {h : L} {x : W} (hx : isRealB x = true) : OkT h x := by
  rcases real_cases hx with ⟨b, rfl, hb⟩ | ⟨m, k, rfl, hf⟩
  · rcases word_cases hb with rfl | rfl | rfl | rfl <;> exact okT_x2 (by decide)
  · obtain ⟨f1, f2, f3, f4, f5⟩ := fits_bd hf
    have lm : x1B (.int m) = true := lf_int (Nat.lt_of_lt_of_le f1 (Nat.pow_le_pow_right (by decide) (by decide)))
    have lk : x1B (.int k) = true := lf_int (Nat.lt_of_lt_of_le (show k.natAbs < 2 ^ 12 by omega) (Nat.pow_le_pow_right (by decide) (by decide)))
    refine okT_x2 ?_
    simp only [x2B, List.all_cons, List.all_nil, lm, lk]
    rfl
section
variable {kd : Kd} {P : List Fn} [Tab P] [KTab kd] {d : Nat} {h H : L} {n : Nat}
abbrev k02 : Fn := c_law F_law_start F_law_v_drawn_real F_law_draw F_law_bent F_law_v_odd F_law_same F_law_v_is_real F_is_real
theorem turn02 {x0 x2 x3 x4 : Option W} (S : Strm h 1 0 n) (hn : n ≤ 10000) :
    ∃ y3 y4 h', exs (call kd P (d + 4)) kd (loopB (nthS k02.body 1)) [x0, some (.ref 1), x2, x3, x4] h = .ok (.nx [x0, some (.ref 1), x2, y3, y4]) h' ∧ Strm h' 1 0 (n + 30) := by
  obtain ⟨x, h1, e1, hx, S1, G1⟩ := drawn_real_t (kd := kd) (P := P) (d := d) S (by omega)
  obtain ⟨y, h2, e2, y0, y1, S2, G2⟩ := draw_t (kd := kd) (P := P) (d := d + 3) S1 (m := 3) (by omega) (by decide) (by decide)
  have e2 : call kd P (d + 4) F_law_draw [.ref 1, .int 3] h1 = _ := e2
  have tail : ∀ (v : W) (hA : L) (s2 : Option W), OkT hA v → ∃ y4, runs (call kd P (d + 4)) kd (.cons (.asg (.nm 4) (.bf .repr (.cons (.var 3) .nil))) (.cons (.ife (.or (.not (.call F_law_same (.cons (.call F_is_real (.cons (.var 3) .nil)) (.cons (.call F_law_v_is_real (.cons (.var 3) .nil)) .nil)))) (.cmp .ne (.bf .repr (.cons (.var 3) .nil)) (.var 4))) (.cons (.ret (.cst (.bl false))) .nil) .nil) .nil)) [x0, some (.ref 1), x2, some v, s2] hA
      = .ok (.nx [x0, some (.ref 1), x2, some v, y4]) hA := by
    intro v hA s2 o
    obtain ⟨s, es, ls⟩ := o.s
    have i1 := is_real_t (kd := kd) (P := P) (d := d + 1) (okR_V o.r)
    have i2 := v_is_real_t (kd := kd) (P := P) (d := d + 1) o.r
    have i1 : call kd P (d + 4) F_is_real [v] hA = _ := i1
    have i2 : call kd P (d + 4) F_law_v_is_real [v] hA = _ := i2
    have sm : call kd P (d + 4) F_law_same [.bl (isRealB v), .bl (isRealB v)] hA = .ok (.bl true) hA := same_t (kd := kd) (P := P) 1 (dat_same 1 _ _ rfl) (by omega)
    refine ⟨some (.str s), ?_⟩
    generalize isRealB v = bb at *
    rw [run_cons]
    simp [R.bind_ok, R.calm_ok, q_cst, q_var, q_varK, q_bin, q_binK, q_binK2, q_neg, q_negK, q_not, q_and, q_andK_t, q_andK_f, q_or, q_orK_t, q_orK_f, q_cmp, q_cmpK, q_cmpK2, q_cmp2, q_cmp2K, q_cmp2K2, q_cmp2K3_t, q_cmp2K3_f, q_ite, q_iteK_t, q_iteK_f, q_tup, q_lst, q_dic, q_sub, q_subK, q_subK2, q_slc, q_slcK, q_slcK2, q_slcK3, q_rev, q_call, q_callK, q_bf, q_bfK, q_mt, q_mtK, q_mtK2, q_mt_int, q_lc, q_lcF, q_bfc, q_cfK, q_idx, q_idxK, q_nil, q_cons, q_consK, q_consK2, q_of, q_srcK_tup, q_srcK_str, q_srcK_ref, q_rng1, q_rng1K, q_rng2, q_rng2K, q_zip, q_zipK_tup, q_zipK_ref, q_enum, q_enumK, q_nm, q_tp, q_tpK, q_tpK_ref, q_sb, q_sbK, q_sbK2, q_unK, q_snil, q_scons, q_stoK, q_tnil, q_tcons, q_evtK_t, q_evtK_f, q_mk, q_evcK, q_asg, q_asgK, q_nxK, q_aug, q_augK, q_augK2, q_augK3, q_ife, q_ifeK_t, q_ifeK_f, q_for, q_forG, q_ret, q_retK, q_retn, q_expr, q_dropK, q_pass, q_brk, q_cont, q_try, q_xnil, q_xcons, q_nx, q_rt, q_bk, q_ct, q_tst, q_tstK, q_fin_rt, q_fin_nx, q_t0, q_l0, q_t1, q_l1, q_t2, q_l2, q_t3, q_l3, q_t4, q_l4, q_t5, q_l5, q_t6, q_l6, q_t7, q_l7, q_t8, q_l8, q_t9, q_l9, q_t10, q_l10, q_t11, q_l11, q_t12, q_l12, q_t13, q_l13, q_t14, q_l14, q_t15, q_l15, q_t16, q_l16, q_t17, q_l17, q_t18, q_l18, q_t19, q_l19, q_notK, gets, sets, wipes, cmpop, ofB, isv, eqh_int, eqh_str, eqh_bl, bfn, bIsi, isT, isTs, tyN, tysOf, TN.is, bInt, bLen, bTup, items, add_int, sub_int, app_at, app_at0, app_put, app_put0, alloc_0, cturn, es, ls]
    rw [run_nx]
    rw [run_cons]
    simp [R.bind_ok, R.calm_ok, q_cst, q_var, q_varK, q_bin, q_binK, q_binK2, q_neg, q_negK, q_not, q_and, q_andK_t, q_andK_f, q_or, q_orK_t, q_orK_f, q_cmp, q_cmpK, q_cmpK2, q_cmp2, q_cmp2K, q_cmp2K2, q_cmp2K3_t, q_cmp2K3_f, q_ite, q_iteK_t, q_iteK_f, q_tup, q_lst, q_dic, q_sub, q_subK, q_subK2, q_slc, q_slcK, q_slcK2, q_slcK3, q_rev, q_call, q_callK, q_bf, q_bfK, q_mt, q_mtK, q_mtK2, q_mt_int, q_lc, q_lcF, q_bfc, q_cfK, q_idx, q_idxK, q_nil, q_cons, q_consK, q_consK2, q_of, q_srcK_tup, q_srcK_str, q_srcK_ref, q_rng1, q_rng1K, q_rng2, q_rng2K, q_zip, q_zipK_tup, q_zipK_ref, q_enum, q_enumK, q_nm, q_tp, q_tpK, q_tpK_ref, q_sb, q_sbK, q_sbK2, q_unK, q_snil, q_scons, q_stoK, q_tnil, q_tcons, q_evtK_t, q_evtK_f, q_mk, q_evcK, q_asg, q_asgK, q_nxK, q_aug, q_augK, q_augK2, q_augK3, q_ife, q_ifeK_t, q_ifeK_f, q_for, q_forG, q_ret, q_retK, q_retn, q_expr, q_dropK, q_pass, q_brk, q_cont, q_try, q_xnil, q_xcons, q_nx, q_rt, q_bk, q_ct, q_tst, q_tstK, q_fin_rt, q_fin_nx, q_t0, q_l0, q_t1, q_l1, q_t2, q_l2, q_t3, q_l3, q_t4, q_l4, q_t5, q_l5, q_t6, q_l6, q_t7, q_l7, q_t8, q_l8, q_t9, q_l9, q_t10, q_l10, q_t11, q_l11, q_t12, q_l12, q_t13, q_l13, q_t14, q_l14, q_t15, q_l15, q_t16, q_l16, q_t17, q_l17, q_t18, q_l18, q_t19, q_l19, q_notK, gets, sets, wipes, cmpop, ofB, isv, eqh_int, eqh_str, eqh_bl, bfn, bIsi, isT, isTs, tyN, tysOf, TN.is, bInt, bLen, bTup, items, add_int, sub_int, app_at, app_at0, app_put, app_put0, alloc_0, cturn, i1, i2, sm, es, ls]
    rw [run_nx, run_nil]
  show ∃ y3 y4 h', runs (call kd P (d + 4)) kd _ _ _ = _ ∧ _
  simp only [k02, c_law, nthS, loopB]
  rw [run_cons]
  simp [R.bind_ok, R.calm_ok, q_cst, q_var, q_varK, q_bin, q_binK, q_binK2, q_neg, q_negK, q_not, q_and, q_andK_t, q_andK_f, q_or, q_orK_t, q_orK_f, q_cmp, q_cmpK, q_cmpK2, q_cmp2, q_cmp2K, q_cmp2K2, q_cmp2K3_t, q_cmp2K3_f, q_ite, q_iteK_t, q_iteK_f, q_tup, q_lst, q_dic, q_sub, q_subK, q_subK2, q_slc, q_slcK, q_slcK2, q_slcK3, q_rev, q_call, q_callK, q_bf, q_bfK, q_mt, q_mtK, q_mtK2, q_mt_int, q_lc, q_lcF, q_bfc, q_cfK, q_idx, q_idxK, q_nil, q_cons, q_consK, q_consK2, q_of, q_srcK_tup, q_srcK_str, q_srcK_ref, q_rng1, q_rng1K, q_rng2, q_rng2K, q_zip, q_zipK_tup, q_zipK_ref, q_enum, q_enumK, q_nm, q_tp, q_tpK, q_tpK_ref, q_sb, q_sbK, q_sbK2, q_unK, q_snil, q_scons, q_stoK, q_tnil, q_tcons, q_evtK_t, q_evtK_f, q_mk, q_evcK, q_asg, q_asgK, q_nxK, q_aug, q_augK, q_augK2, q_augK3, q_ife, q_ifeK_t, q_ifeK_f, q_for, q_forG, q_ret, q_retK, q_retn, q_expr, q_dropK, q_pass, q_brk, q_cont, q_try, q_xnil, q_xcons, q_nx, q_rt, q_bk, q_ct, q_tst, q_tstK, q_fin_rt, q_fin_nx, q_t0, q_l0, q_t1, q_l1, q_t2, q_l2, q_t3, q_l3, q_t4, q_l4, q_t5, q_l5, q_t6, q_l6, q_t7, q_l7, q_t8, q_l8, q_t9, q_l9, q_t10, q_l10, q_t11, q_l11, q_t12, q_l12, q_t13, q_l13, q_t14, q_l14, q_t15, q_l15, q_t16, q_l16, q_t17, q_l17, q_t18, q_l18, q_t19, q_l19, q_notK, gets, sets, wipes, cmpop, ofB, isv, eqh_int, eqh_str, eqh_bl, bfn, bIsi, isT, isTs, tyN, tysOf, TN.is, bInt, bLen, bTup, items, add_int, sub_int, app_at, app_at0, app_put, app_put0, alloc_0, cturn, e1]
  rw [run_nx]
  by_cases hy : y = 0
  · subst hy
    obtain ⟨y4, et⟩ := tail x h2 x4 (okT_real hx)
    refine ⟨some x, y4, h2, ?_, S2.mono (by omega)⟩
    rw [run_cons]
    simp [R.bind_ok, R.calm_ok, q_cst, q_var, q_varK, q_bin, q_binK, q_binK2, q_neg, q_negK, q_not, q_and, q_andK_t, q_andK_f, q_or, q_orK_t, q_orK_f, q_cmp, q_cmpK, q_cmpK2, q_cmp2, q_cmp2K, q_cmp2K2, q_cmp2K3_t, q_cmp2K3_f, q_ite, q_iteK_t, q_iteK_f, q_tup, q_lst, q_dic, q_sub, q_subK, q_subK2, q_slc, q_slcK, q_slcK2, q_slcK3, q_rev, q_call, q_callK, q_bf, q_bfK, q_mt, q_mtK, q_mtK2, q_mt_int, q_lc, q_lcF, q_bfc, q_cfK, q_idx, q_idxK, q_nil, q_cons, q_consK, q_consK2, q_of, q_srcK_tup, q_srcK_str, q_srcK_ref, q_rng1, q_rng1K, q_rng2, q_rng2K, q_zip, q_zipK_tup, q_zipK_ref, q_enum, q_enumK, q_nm, q_tp, q_tpK, q_tpK_ref, q_sb, q_sbK, q_sbK2, q_unK, q_snil, q_scons, q_stoK, q_tnil, q_tcons, q_evtK_t, q_evtK_f, q_mk, q_evcK, q_asg, q_asgK, q_nxK, q_aug, q_augK, q_augK2, q_augK3, q_ife, q_ifeK_t, q_ifeK_f, q_for, q_forG, q_ret, q_retK, q_retn, q_expr, q_dropK, q_pass, q_brk, q_cont, q_try, q_xnil, q_xcons, q_nx, q_rt, q_bk, q_ct, q_tst, q_tstK, q_fin_rt, q_fin_nx, q_t0, q_l0, q_t1, q_l1, q_t2, q_l2, q_t3, q_l3, q_t4, q_l4, q_t5, q_l5, q_t6, q_l6, q_t7, q_l7, q_t8, q_l8, q_t9, q_l9, q_t10, q_l10, q_t11, q_l11, q_t12, q_l12, q_t13, q_l13, q_t14, q_l14, q_t15, q_l15, q_t16, q_l16, q_t17, q_l17, q_t18, q_l18, q_t19, q_l19, q_notK, gets, sets, wipes, cmpop, ofB, isv, eqh_int, eqh_str, eqh_bl, bfn, bIsi, isT, isTs, tyN, tysOf, TN.is, bInt, bLen, bTup, items, add_int, sub_int, app_at, app_at0, app_put, app_put0, alloc_0, cturn, e2]
    rw [run_nx]
    exact et
  · have hy : 0 < y := by omega
    obtain ⟨z, h3, e3, z0, z1, S3, G3⟩ := draw_t (kd := kd) (P := P) (d := d + 3) S2 (m := 3) (by omega) (by decide) (by decide)
    have e3 : call kd P (d + 4) F_law_draw [.ref 1, .int 3] h2 = _ := e3
    by_cases hz : z = 0
    · subst hz
      obtain ⟨v, h4, e4, o, S4, G4⟩ := v_odd_t (kd := kd) (P := P) (d := d + 1) S3 (by omega)
      have e4 : call kd P (d + 4) F_law_v_odd [.ref 1] h3 = _ := e4
      obtain ⟨y4, et⟩ := tail v h4 x4 o
      refine ⟨some v, y4, h4, ?_, S4.mono (by omega)⟩
      rw [run_cons]
      simp [R.bind_ok, R.calm_ok, q_cst, q_var, q_varK, q_bin, q_binK, q_binK2, q_neg, q_negK, q_not, q_and, q_andK_t, q_andK_f, q_or, q_orK_t, q_orK_f, q_cmp, q_cmpK, q_cmpK2, q_cmp2, q_cmp2K, q_cmp2K2, q_cmp2K3_t, q_cmp2K3_f, q_ite, q_iteK_t, q_iteK_f, q_tup, q_lst, q_dic, q_sub, q_subK, q_subK2, q_slc, q_slcK, q_slcK2, q_slcK3, q_rev, q_call, q_callK, q_bf, q_bfK, q_mt, q_mtK, q_mtK2, q_mt_int, q_lc, q_lcF, q_bfc, q_cfK, q_idx, q_idxK, q_nil, q_cons, q_consK, q_consK2, q_of, q_srcK_tup, q_srcK_str, q_srcK_ref, q_rng1, q_rng1K, q_rng2, q_rng2K, q_zip, q_zipK_tup, q_zipK_ref, q_enum, q_enumK, q_nm, q_tp, q_tpK, q_tpK_ref, q_sb, q_sbK, q_sbK2, q_unK, q_snil, q_scons, q_stoK, q_tnil, q_tcons, q_evtK_t, q_evtK_f, q_mk, q_evcK, q_asg, q_asgK, q_nxK, q_aug, q_augK, q_augK2, q_augK3, q_ife, q_ifeK_t, q_ifeK_f, q_for, q_forG, q_ret, q_retK, q_retn, q_expr, q_dropK, q_pass, q_brk, q_cont, q_try, q_xnil, q_xcons, q_nx, q_rt, q_bk, q_ct, q_tst, q_tstK, q_fin_rt, q_fin_nx, q_t0, q_l0, q_t1, q_l1, q_t2, q_l2, q_t3, q_l3, q_t4, q_l4, q_t5, q_l5, q_t6, q_l6, q_t7, q_l7, q_t8, q_l8, q_t9, q_l9, q_t10, q_l10, q_t11, q_l11, q_t12, q_l12, q_t13, q_l13, q_t14, q_l14, q_t15, q_l15, q_t16, q_l16, q_t17, q_l17, q_t18, q_l18, q_t19, q_l19, q_notK, gets, sets, wipes, cmpop, ofB, isv, eqh_int, eqh_str, eqh_bl, bfn, bIsi, isT, isTs, tyN, tysOf, TN.is, bInt, bLen, bTup, items, add_int, sub_int, app_at, app_at0, app_put, app_put0, alloc_0, cturn, e2, hy, e3, e4]
      rw [run_nx]
      exact et
    · have hz : 0 < z := by omega
      obtain ⟨v, h4, e4, o, S4, G4⟩ := bent_t (kd := kd) (P := P) (d := d + 1) hx S3 (by omega)
      have e4 : call kd P (d + 4) F_law_bent [.ref 1, x] h3 = _ := e4
      obtain ⟨y4, et⟩ := tail v h4 x4 o
      refine ⟨some v, y4, h4, ?_, S4.mono (by omega)⟩
      rw [run_cons]
      simp [R.bind_ok, R.calm_ok, q_cst, q_var, q_varK, q_bin, q_binK, q_binK2, q_neg, q_negK, q_not, q_and, q_andK_t, q_andK_f, q_or, q_orK_t, q_orK_f, q_cmp, q_cmpK, q_cmpK2, q_cmp2, q_cmp2K, q_cmp2K2, q_cmp2K3_t, q_cmp2K3_f, q_ite, q_iteK_t, q_iteK_f, q_tup, q_lst, q_dic, q_sub, q_subK, q_subK2, q_slc, q_slcK, q_slcK2, q_slcK3, q_rev, q_call, q_callK, q_bf, q_bfK, q_mt, q_mtK, q_mtK2, q_mt_int, q_lc, q_lcF, q_bfc, q_cfK, q_idx, q_idxK, q_nil, q_cons, q_consK, q_consK2, q_of, q_srcK_tup, q_srcK_str, q_srcK_ref, q_rng1, q_rng1K, q_rng2, q_rng2K, q_zip, q_zipK_tup, q_zipK_ref, q_enum, q_enumK, q_nm, q_tp, q_tpK, q_tpK_ref, q_sb, q_sbK, q_sbK2, q_unK, q_snil, q_scons, q_stoK, q_tnil, q_tcons, q_evtK_t, q_evtK_f, q_mk, q_evcK, q_asg, q_asgK, q_nxK, q_aug, q_augK, q_augK2, q_augK3, q_ife, q_ifeK_t, q_ifeK_f, q_for, q_forG, q_ret, q_retK, q_retn, q_expr, q_dropK, q_pass, q_brk, q_cont, q_try, q_xnil, q_xcons, q_nx, q_rt, q_bk, q_ct, q_tst, q_tstK, q_fin_rt, q_fin_nx, q_t0, q_l0, q_t1, q_l1, q_t2, q_l2, q_t3, q_l3, q_t4, q_l4, q_t5, q_l5, q_t6, q_l6, q_t7, q_l7, q_t8, q_l8, q_t9, q_l9, q_t10, q_l10, q_t11, q_l11, q_t12, q_l12, q_t13, q_l13, q_t14, q_l14, q_t15, q_l15, q_t16, q_l16, q_t17, q_l17, q_t18, q_l18, q_t19, q_l19, q_notK, gets, sets, wipes, cmpop, ofB, isv, eqh_int, eqh_str, eqh_bl, bfn, bIsi, isT, isTs, tyN, tysOf, TN.is, bInt, bLen, bTup, items, add_int, sub_int, app_at, app_at0, app_put, app_put0, alloc_0, cturn, e2, hy, e3, hz, e4]
      rw [run_nx]
      exact et
theorem law02 {g : Nat} (hP : P[g]? = some k02) (sc : List Int) : ∃ h', call kd P (d + 5) g [.frz (sc.map W.int)] [] = .ok (.bl true) h' := by
  obtain ⟨e0, S0⟩ := start_ok (kd := kd) (d := d + 3) (h := []) (h_law_start (P := P)) sc
  obtain ⟨σ', hC, e3, ⟨y2, y3, y4, rfl⟩, S3⟩ := fors_inv (g := forG (call kd P (d + 4)) kd (.nm 2)) (b := exs (call kd P (d + 4)) kd (loopB (nthS k02.body 1)))
    (fun j σ h' => (∃ y2 y3 y4, σ = [some (.frz (sc.map W.int)), some (.ref 1), y2, y3, y4]) ∧ Strm h' 1 0 (30 * j))
    (ranges 0 20) 0 [some (.frz (sc.map W.int)), some (.ref 1), none, none, none] _ ⟨⟨_, _, _, rfl⟩, S0⟩ (fun j x hx σ h' ⟨⟨y2, y3, y4, hσ⟩, S'⟩ => by
      subst hσ
      have hj : j < 20 := by
        have := (List.getElem?_eq_some_iff.mp hx).1
        rw [ranges_len] at this
        exact this
      obtain ⟨z3, z4, h'', e, S''⟩ := turn02 (kd := kd) (P := P) (d := d) (x0 := some (.frz (sc.map W.int))) (x2 := some x) (x3 := y3) (x4 := y4) S' (by omega)
      exact ⟨_, h', _, h'', rfl, e, ⟨_, _, _, rfl⟩, by rw [show 30 * (0 + j + 1) = 30 * (0 + j) + 30 by omega]; exact S''⟩)
  refine ⟨hC, ?_⟩
  have er : ∀ h, rng1K [.int 20] h = .ok ⟨ranges 0 20, []⟩ h := fun h => q_rng1Ki (by decide) (by decide)
  rw [call_run hP rfl]
  show fin (runs (call kd P (d + 4)) kd k02.body [some (.frz (sc.map W.int)), none, none, none, none] []) = _
  simp only [k02, c_law, nthS, loopB] at e3 ⊢
  generalize ranges 0 20 = rr at *
  rw [run_cons]
  simp [R.bind_ok, R.calm_ok, q_cst, q_var, q_varK, q_bin, q_binK, q_binK2, q_neg, q_negK, q_not, q_and, q_andK_t, q_andK_f, q_or, q_orK_t, q_orK_f, q_cmp, q_cmpK, q_cmpK2, q_cmp2, q_cmp2K, q_cmp2K2, q_cmp2K3_t, q_cmp2K3_f, q_ite, q_iteK_t, q_iteK_f, q_tup, q_lst, q_dic, q_sub, q_subK, q_subK2, q_slc, q_slcK, q_slcK2, q_slcK3, q_rev, q_call, q_callK, q_bf, q_bfK, q_mt, q_mtK, q_mtK2, q_mt_int, q_lc, q_lcF, q_bfc, q_cfK, q_idx, q_idxK, q_nil, q_cons, q_consK, q_consK2, q_of, q_srcK_tup, q_srcK_str, q_srcK_ref, q_rng1, q_rng1K, q_rng2, q_rng2K, q_zip, q_zipK_tup, q_zipK_ref, q_enum, q_enumK, q_nm, q_tp, q_tpK, q_tpK_ref, q_sb, q_sbK, q_sbK2, q_unK, q_snil, q_scons, q_stoK, q_tnil, q_tcons, q_evtK_t, q_evtK_f, q_mk, q_evcK, q_asg, q_asgK, q_nxK, q_aug, q_augK, q_augK2, q_augK3, q_ife, q_ifeK_t, q_ifeK_f, q_for, q_forG, q_ret, q_retK, q_retn, q_expr, q_dropK, q_pass, q_brk, q_cont, q_try, q_xnil, q_xcons, q_nx, q_rt, q_bk, q_ct, q_tst, q_tstK, q_fin_rt, q_fin_nx, q_t0, q_l0, q_t1, q_l1, q_t2, q_l2, q_t3, q_l3, q_t4, q_l4, q_t5, q_l5, q_t6, q_l6, q_t7, q_l7, q_t8, q_l8, q_t9, q_l9, q_t10, q_l10, q_t11, q_l11, q_t12, q_l12, q_t13, q_l13, q_t14, q_l14, q_t15, q_l15, q_t16, q_l16, q_t17, q_l17, q_t18, q_l18, q_t19, q_l19, q_notK, gets, sets, wipes, cmpop, ofB, isv, eqh_int, eqh_str, eqh_bl, bfn, bIsi, isT, isTs, tyN, tysOf, TN.is, bInt, bLen, bTup, items, add_int, sub_int, app_at, app_at0, app_put, app_put0, alloc_0, cturn, e0]
  rw [run_nx]
  rw [run_cons]
  simp only [R.bind_ok, R.calm_ok, q_cst, q_var, q_varK, q_bin, q_binK, q_binK2, q_neg, q_negK, q_not, q_and, q_andK_t, q_andK_f, q_or, q_orK_t, q_orK_f, q_cmp, q_cmpK, q_cmpK2, q_cmp2, q_cmp2K, q_cmp2K2, q_cmp2K3_t, q_cmp2K3_f, q_ite, q_iteK_t, q_iteK_f, q_tup, q_lst, q_dic, q_sub, q_subK, q_subK2, q_slc, q_slcK, q_slcK2, q_slcK3, q_rev, q_call, q_callK, q_bf, q_bfK, q_mt, q_mtK, q_mtK2, q_mt_int, q_lc, q_lcF, q_bfc, q_cfK, q_idx, q_idxK, q_nil, q_cons, q_consK, q_consK2, q_of, q_srcK_tup, q_srcK_str, q_srcK_ref, q_rng1, q_rng1K, q_rng2, q_rng2K, q_zip, q_zipK_tup, q_zipK_ref, q_enum, q_enumK, q_nm, q_tp, q_tpK, q_tpK_ref, q_sb, q_sbK, q_sbK2, q_unK, q_snil, q_scons, q_stoK, q_tnil, q_tcons, q_evtK_t, q_evtK_f, q_mk, q_evcK, q_asg, q_asgK, q_nxK, q_aug, q_augK, q_augK2, q_augK3, q_ife, q_ifeK_t, q_ifeK_f, q_for, q_forG, q_ret, q_retK, q_retn, q_expr, q_dropK, q_pass, q_brk, q_cont, q_try, q_xnil, q_xcons, q_nx, q_rt, q_bk, q_ct, q_tst, q_tstK, q_fin_rt, q_fin_nx, q_t0, q_l0, q_t1, q_l1, q_t2, q_l2, q_t3, q_l3, q_t4, q_l4, q_t5, q_l5, q_t6, q_l6, q_t7, q_l7, q_t8, q_l8, q_t9, q_l9, q_t10, q_l10, q_t11, q_l11, q_t12, q_l12, q_t13, q_l13, q_t14, q_l14, q_t15, q_l15, q_t16, q_l16, q_t17, q_l17, q_t18, q_l18, q_t19, q_l19, q_notK, gets, sets, wipes, cmpop, ofB, isv, eqh_int, eqh_str, eqh_bl, bfn, bIsi, isT, isTs, tyN, tysOf, TN.is, bInt, bLen, bTup, items, add_int, sub_int, app_at, app_at0, app_put, app_put0, alloc_0, cturn, er, R.bind_ok]
  rw [q_forK]
  simp only [List.length_nil, List.nil_append] at e3
  rw [e3, R.bind_ok, run_nx]
  rw [run_cons]
  simp [R.bind_ok, R.calm_ok, q_cst, q_var, q_varK, q_bin, q_binK, q_binK2, q_neg, q_negK, q_not, q_and, q_andK_t, q_andK_f, q_or, q_orK_t, q_orK_f, q_cmp, q_cmpK, q_cmpK2, q_cmp2, q_cmp2K, q_cmp2K2, q_cmp2K3_t, q_cmp2K3_f, q_ite, q_iteK_t, q_iteK_f, q_tup, q_lst, q_dic, q_sub, q_subK, q_subK2, q_slc, q_slcK, q_slcK2, q_slcK3, q_rev, q_call, q_callK, q_bf, q_bfK, q_mt, q_mtK, q_mtK2, q_mt_int, q_lc, q_lcF, q_bfc, q_cfK, q_idx, q_idxK, q_nil, q_cons, q_consK, q_consK2, q_of, q_srcK_tup, q_srcK_str, q_srcK_ref, q_rng1, q_rng1K, q_rng2, q_rng2K, q_zip, q_zipK_tup, q_zipK_ref, q_enum, q_enumK, q_nm, q_tp, q_tpK, q_tpK_ref, q_sb, q_sbK, q_sbK2, q_unK, q_snil, q_scons, q_stoK, q_tnil, q_tcons, q_evtK_t, q_evtK_f, q_mk, q_evcK, q_asg, q_asgK, q_nxK, q_aug, q_augK, q_augK2, q_augK3, q_ife, q_ifeK_t, q_ifeK_f, q_for, q_forG, q_ret, q_retK, q_retn, q_expr, q_dropK, q_pass, q_brk, q_cont, q_try, q_xnil, q_xcons, q_nx, q_rt, q_bk, q_ct, q_tst, q_tstK, q_fin_rt, q_fin_nx, q_t0, q_l0, q_t1, q_l1, q_t2, q_l2, q_t3, q_l3, q_t4, q_l4, q_t5, q_l5, q_t6, q_l6, q_t7, q_l7, q_t8, q_l8, q_t9, q_l9, q_t10, q_l10, q_t11, q_l11, q_t12, q_l12, q_t13, q_l13, q_t14, q_l14, q_t15, q_l15, q_t16, q_l16, q_t17, q_l17, q_t18, q_l18, q_t19, q_l19, q_notK, gets, sets, wipes, cmpop, ofB, isv, eqh_int, eqh_str, eqh_bl, bfn, bIsi, isT, isTs, tyN, tysOf, TN.is, bInt, bLen, bTup, items, add_int, sub_int, app_at, app_at0, app_put, app_put0, alloc_0, cturn, run_rt, run_nx, run_nil]
end
end Vl
set_option maxRecDepth 100000
set_option maxHeartbeats 4000000
theorem PySem.Challenge.cw_viewlease_k02_reals_looked_at_holds : PySem.Challenge.rw_viewlease_k02_reals_looked_at.Holds := by
  exact VlLaw.close fun ns _ => Vl.law02 (kd := Vl.KTAB) (P := VlLaw.fs) (d := 55) VlLaw.h_law ns
