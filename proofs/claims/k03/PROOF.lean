import PyProof.Rows.All
import Wide.All
import OpenK.AllK
import Wide.FinOn
import HandS.List
import HandS.ForMost
import HandS.Exc
import HandS.TupAny
import HandS.Wide
import HandS.IsInst
import HandS.Zip
import HandS.TupMul
import HandS.TupLe
import HandS.Deep
import PyProof.WalkInts
import PyProof.WalksMore
import HandS.Style
import HandS.ExcOwn
import HandS.WordsExc
import HandS.Conv
import HandS.TupSets
import HandS.SetFor
import HandS.SortInts
import HandS.NamedTupSort
import KE.GoesZip
import KE.GoesMore
import KE.KItemsList
import HandS.Zip0
import HandS.ListItems
import HandS.HeadHook1
import HandS.Defaults
import KE.KStateDown
import Lean
import HandS.Ends
import HandS.Head0
import HandS.Head1
import HandS.Head2
import HandS.HeadEnd
import HandS.HeadHook2
import HandS.Words
import PyProof.ExcBaseAll.ValueError
import PySem.Challenge.RW_doorslide_k03_whole_scripts_that_keep_or
section
set_option Elab.async false
set_option linter.all false
set_option maxRecDepth 100000
/-! Mi: a small core language with a pure evaluator. Values are trees; a local list that is grown is owned by its slot; decks are boxes in a store. -/
namespace Mi
open PySem L2

inductive D where
  | non | bl (b : Bool) | int (i : Int) | str (s : Str) | tup (xs : List D) | lst (xs : List D) | box (l : Nat)
  deriving Inhabited

mutual
def toPy : D → PyData
  | .non => .none
  | .bl b => .bool b
  | .int i => .int i
  | .str s => .str s
  | .tup xs => .tuple (toPyL xs)
  | .lst xs => .list (toPyL xs)
  | .box _ => .dict []
def toPyL : List D → List PyData
  | [] => []
  | x :: xs => toPy x :: toPyL xs
end

abbrev Sto := List (List D)
inductive Res (α : Type) where
  | ok (a : α) (s : Sto)
  | exc (c : Nat) (a : Option D) (s : Sto)
  | stuck
abbrev M (α : Type) := Sto → Res α
def pur {α : Type} (a : α) : M α := fun s => .ok a s
def stk {α : Type} : M α := fun _ => .stuck
def bnd {α β : Type} (m : M α) (f : α → M β) : M β := fun s => match m s with
  | .ok a s' => f a s'
  | .exc c a s' => .exc c a s'
  | .stuck => .stuck
def lif {α : Type} : Option α → M α
  | some a => pur a
  | none => stk
/-- no exception may leave -/
def nox {α : Type} (m : M α) : M α := fun s => match m s with
  | .ok a s' => .ok a s'
  | _ => .stuck

inductive Sl where
  | no | val (d : D) | own (ds : List D)
  deriving Inhabited
abbrev Ev := List Sl
def Sl.frz : Sl → Sl
  | .own ds => .val (.lst ds)
  | s => s
def Sl.dropO : Sl → Sl
  | .own _ => .no
  | s => s
/-- no slot's own lists -/
def dropO (ρ : Ev) : Ev := ρ.map Sl.dropO
def getV (ρ : Ev) (i : Nat) : Option D := match ρ[i]? with
  | some (.val d) => some d
  | _ => none
def getO (ρ : Ev) (i : Nat) : Option (List D) := match ρ[i]? with
  | some (.own d) => some d
  | _ => none
def wipeD (ρ : Ev) : List Nat → Ev
  | [] => ρ
  | v :: vs => (wipeD ρ vs).set v .no

/-! ### operations -/
inductive Op2 where
  | add | sub | mul | fdiv | mod | pow
  deriving DecidableEq
inductive OpC where
  | lt | le | gt | ge | eq | ne | inn | nin | iss | nis
  deriving DecidableEq
abbrev LIM : Nat := 16777216
def op2 : Op2 → D → D → Option D
  | .add, .int a, .int b => some (.int (a + b))
  | .add, .str a, .str b => if a.length + b.length ≤ LIM then some (.str (a ++ b)) else none
  | .add, .tup a, .tup b => if a.length + b.length ≤ LIM then some (.tup (a ++ b)) else none
  | .add, .lst a, .lst b => if a.length + b.length ≤ LIM then some (.lst (a ++ b)) else none
  | .sub, .int a, .int b => some (.int (a - b))
  | .mul, .int a, .int b => if a.natAbs < 18446744073709551616 ∨ b.natAbs < 18446744073709551616 then some (.int (a * b)) else none
  | .mul, .tup a, .int b => if b ≤ 1000 ∧ 2 ≤ b ∧ a.length ≤ 1000 ∧ a.isEmpty = false then some (.tup (List.replicate b.toNat a).flatten) else none
  | .fdiv, .int a, .int b => if 0 < b ∧ b.natAbs.log2 < 9000 then some (.int (a / b)) else none
  | .mod, .int a, .int b => if 0 < b then some (.int (a % b)) else none
  | .pow, .int a, .int b => if 0 ≤ b ∧ b ≤ 1000000 ∧ a.natAbs < 18446744073709551616 then some (.int (a ^ b.toNat)) else none
  | _, _, _ => none
def repL : D → D → Option D
  | .lst a, .int b => if b ≤ 1000 ∧ 0 ≤ b ∧ a.length ≤ 1000 then some (.lst (List.replicate b.toNat a).flatten) else none
  | _, _ => none
def shd (d : D) : Bool := SeqAt.shaped (toPy d)
def eqD (x y : D) : Option Bool := if shd x = true ∧ shd y = true then some (PyData.eqv (toPy x) (toPy y)) else none
def inD (x y : D) : Option Bool := match y with
  | .lst ys => if shd x = true ∧ shd (.lst ys) = true then some (ys.any fun z => PyData.eqv (toPy z) (toPy x)) else none
  | .tup ys => if shd x = true ∧ shd (.tup ys) = true then some (ys.any fun z => PyData.eqv (toPy z) (toPy x)) else none
  | _ => none
def intsOf : List D → Option (List Int)
  | [] => some []
  | .int i :: r => (intsOf r).map (i :: ·)
  | _ :: _ => none
/-- tuples of ints, by the first place where they differ -/
def ltT (a b : List D) : Option Bool := match intsOf a, intsOf b with
  | some x, some y => some (HT.lexLt x y)
  | _, _ => none
def opc : OpC → D → D → Option Bool
  | .lt, .int a, .int b => some (decide (a < b))
  | .lt, .tup a, .tup b => ltT a b
  | .le, .int a, .int b => some (decide (a ≤ b))
  | .gt, .int a, .int b => some (decide (b < a))
  | .ge, .int a, .int b => some (decide (b ≤ a))
  | .eq, x, y => eqD x y
  | .ne, x, y => (eqD x y).map (!·)
  | .inn, x, y => inD x y
  | .nin, x, y => (inD x y).map (!·)
  | .iss, .bl a, .bl b => some (decide (a = b))
  | .nis, .bl a, .bl b => some (!decide (a = b))
  | _, _, _ => none
/-- a place in a sequence -/
def ixD (x y : D) : M D := match x, y with
  | .lst xs, .int i => lif (atI xs i)
  | .tup xs, .int i => lif (atI xs i)
  | .box l, .int i => fun s => match s[l]? with
    | some xs => lif (atI xs i) s
    | none => .stuck
  | _, _ => stk
def cutD (xs : List D) (lo hi : Option Int) : List D := (xs.drop (HT.sIx xs.length 0 lo)).take (HT.sIx xs.length xs.length hi - HT.sIx xs.length 0 lo)
def sliceD (x : D) (lo hi : Option Int) : Option D := match x with
  | .lst xs => some (.lst (cutD xs lo hi))
  | .tup xs => some (.tup (cutD xs lo hi))
  | _ => none
def blsOf : List D → Option (List Bool)
  | [] => some []
  | .bl i :: r => (blsOf r).map (i :: ·)
  | _ :: _ => none
def maxOf (i : Int) (r : List Int) : Int := r.foldl (fun m y => if y > m then y else m) i
def minOf (i : Int) (r : List Int) : Int := r.foldl (fun m y => if y < m then y else m) i
inductive Bf where
  | len | tuple | list | all | any | max | min | sum | abs | int | str
  deriving DecidableEq
inductive Ty where
  | int | bool | str | list | tuple
  deriving DecidableEq
inductive Kd where
  | non | bl | int | str | tup | lst
  deriving DecidableEq
def kd : D → Kd
  | .non => .non
  | .bl _ => .bl
  | .int _ => .int
  | .str _ => .str
  | .tup _ => .tup
  | .lst _ => .lst
  | .box _ => .lst
def isK : Ty → Kd → Bool
  | .int, .int => true
  | .int, .bl => true
  | .bool, .bl => true
  | .str, .str => true
  | .list, .lst => true
  | .tuple, .tup => true
  | _, _ => false
def isTy (t : Ty) (d : D) : Bool := isK t (kd d)
def bfn : Bf → List D → Option D
  | .len, [.lst xs] => some (.int xs.length)
  | .len, [.tup xs] => some (.int xs.length)
  | .len, [.str s] => if s.length ≤ LIM then some (.int s.length) else none
  | .tuple, [.lst xs] => some (.tup xs)
  | .tuple, [.tup xs] => some (.tup xs)
  | .list, [.lst xs] => some (.lst xs)
  | .list, [.tup xs] => some (.lst xs)
  | .all, [.lst xs] => (blsOf xs).map fun bs => .bl (bs.all id)
  | .any, [.lst xs] => (blsOf xs).map fun bs => .bl (bs.any id)
  | .max, [.int a, .int b] => some (.int (if b > a then b else a))
  | .min, [.int a, .int b] => some (.int (if b < a then b else a))
  | .max, [.lst xs] => match intsOf xs with
    | some (i :: r) => some (.int (maxOf i r))
    | _ => none
  | .min, [.lst xs] => match intsOf xs with
    | some (i :: r) => some (.int (minOf i r))
    | _ => none
  | .max, [.tup xs] => match intsOf xs with
    | some (i :: r) => some (.int (maxOf i r))
    | _ => none
  | .min, [.tup xs] => match intsOf xs with
    | some (i :: r) => some (.int (minOf i r))
    | _ => none
  | .sum, [.lst xs] => (intsOf xs).map fun is => .int is.sum
  | .abs, [.int i] => some (.int (if i < 0 then -i else i))
  | .int, [.int i] => some (.int i)
  | .int, [.bl b] => some (.int (if b then 1 else 0))
  | _, _ => none
/-! sorted(set(..)) of tuples of ints -/
def tupInts : D → Option (List Int)
  | .tup xs => intsOf xs
  | _ => none
def tupsOf : List D → Option (List (List Int))
  | [] => some []
  | x :: r => match tupInts x, tupsOf r with
    | some i, some is => some (i :: is)
    | _, _ => none
def insU (x : List Int) : List (List Int) → List (List Int)
  | [] => [x]
  | y :: r => if x = y then y :: r else if HT.lexLt x y then x :: y :: r else y :: insU x r
def sortU : List (List Int) → List (List Int)
  | [] => []
  | x :: r => insU x (sortU r)
/-- sorted(set(x)), x a list or tuple of fewer than 64 tuples of ints -/
def ssetL (xs : List D) : Option D := match tupsOf xs with
  | some ts => if ts.length < 64 ∧ (ts.all fun t => !t.isEmpty) = true then some (.lst ((sortU ts).map fun t => .tup (t.map .int))) else none
  | none => none
def ssetD (x : D) : Option D := match x with
  | .tup xs => ssetL xs
  | .lst xs => ssetL xs
  | _ => none
def insI (x : Int) : List Int → List Int
  | [] => [x]
  | y :: r => if x = y then y :: r else if x < y then x :: y :: r else y :: insI x r
def sortI : List Int → List Int
  | [] => []
  | x :: r => insI x (sortI r)
def rngD (lo hi : Int) : Option (List D) := if -4611686018427387904 ≤ lo ∧ lo < 4611686018427387904 ∧ -4611686018427387904 ≤ hi ∧ hi < 4611686018427387904 ∧ (hi - lo).toNat ≤ LIM then
    some ((List.range (hi - lo).toNat).map fun (k : Nat) => D.int (lo + (k : Int))) else none
def seqOf : D → Option (List D)
  | .lst xs => some xs
  | .tup xs => some xs
  | _ => none
def lstOf : D → Option (List D)
  | .lst xs => some xs
  | _ => none
def zipD : List D → List D → List D
  | a :: as, b :: bs => .tup [a, b] :: zipD as bs
  | _, _ => []
def enumD : Nat → List D → List D
  | _, [] => []
  | n, a :: as => .tup [.int (n : Int), a] :: enumD (n + 1) as

/-! ### targets -/
mutual
inductive CT where
  | nm (i : Nat)
  | tp (ts : CTs)
inductive CTs where
  | nil
  | cons (t : CT) (r : CTs)
end
mutual
def tgt : CT → D → Ev → Option Ev
  | .nm i, d, ρ => some (ρ.set i (.val d))
  | .tp ts, .tup xs, ρ => tgts ts xs ρ
  | .tp _, _, _ => none
def tgts : CTs → List D → Ev → Option Ev
  | .nil, [], ρ => some ρ
  | .cons t r, x :: xs, ρ => match tgt t x ρ with
    | some ρ' => tgts r xs ρ'
    | none => none
  | _, _, _ => none
end

/-! ### the core language -/
mutual
inductive CE where
  | var (i : Nat)
  | own (i : Nat)
  | con (d : D)
  | glob (x : Str) (k : Nat)
  | bin (op : Op2) (a b : CE)
  | rep (a b : CE)
  | neg (a : CE)
  | cmp (op : OpC) (a b : CE)
  | chain (op op' : OpC) (a b c : CE)
  | isn (a : CE)
  | notn (a : CE)
  | and (a b : CE)
  | or (a b : CE)
  | not (a : CE)
  | ife (c a b : CE)
  | tup (es : CL)
  | lst (es : CL)
  | mkb (es : CL)
  | ix (a b : CE)
  | slice (a : CE) (lo hi : CO)
  | call (f : Nat) (es : CL)
  | bf (b : Bf) (es : CL)
  | isi (t : Ty) (a : CE)
  | isi2 (t u : Ty) (a : CE)
  | lc (e : CE) (t : CT) (it : CI) (c : CO) (vs : List Nat)
  | lc2 (e : CE) (t : CT) (it : CI) (c : CO) (t1 : CT) (it1 : CI) (c1 : CO) (vs vs1 : List Nat)
  | lrng (es : CL)
  | lzip (a b : CE)
  | sset (a : CE)
  | lset (a : CE)
inductive CL where
  | nil
  | cons (e : CE) (r : CL)
inductive CO where
  | none
  | some (e : CE)
inductive CI where
  | seq (e : CE)
  | rng (es : CL)
  | zip (a b : CE)
  | enum (a : CE)
end

/-- the module's values: FAR, MOST_PUSHES, SIDES, PARTS, WIDE, hands' MOST_PUSHES -/
def gV : Nat → D
  | 0 => .int 1000000
  | 1 => .int 6
  | 2 => .tup [.str (Str.ofString "left"), .str (Str.ofString "right")]
  | 3 => .int 4
  | 4 => .tup [.int 5, .tup [.tup [.int 0, .int 1], .tup [.int 0, .int 1], .tup [.int 1, .int 1]], .tup []]
  | 5 => .int 50
  | _ => .non
def isNon : D → Bool
  | .non => true
  | _ => false
def asB : D → Option Bool
  | .bl b => some b
  | _ => none
def asI : D → Option Int
  | .int b => some b
  | _ => none
def compL (f : D → M (List D)) : List D → M (List D)
  | [] => pur []
  | d :: ds => bnd (f d) fun o => bnd (compL f ds) fun r => pur (o ++ r)

mutual
def ev (Φ : Nat → List D → M D) : CE → Ev → M D
  | .var i, ρ => lif (getV ρ i)
  | .own i, ρ => lif ((getO ρ i).map .lst)
  | .con d, _ => pur d
  | .glob _ k, _ => pur (gV k)
  | .bin op a b, ρ => bnd (ev Φ a ρ) fun x => bnd (ev Φ b ρ) fun y => lif (op2 op x y)
  | .rep a b, ρ => bnd (ev Φ a ρ) fun x => bnd (ev Φ b ρ) fun y => lif (repL x y)
  | .neg a, ρ => bnd (ev Φ a ρ) fun x => lif ((asI x).map fun i => .int (-i))
  | .cmp op a b, ρ => bnd (ev Φ a ρ) fun x => bnd (ev Φ b ρ) fun y => lif ((opc op x y).map .bl)
  | .chain op op' a b c, ρ => bnd (ev Φ a ρ) fun x => bnd (ev Φ b ρ) fun y => bnd (lif (opc op x y)) fun k => match k with
    | true => bnd (ev Φ c ρ) fun z => lif ((opc op' y z).map .bl)
    | false => pur (.bl false)
  | .isn a, ρ => bnd (ev Φ a ρ) fun x => pur (.bl (isNon x))
  | .notn a, ρ => bnd (ev Φ a ρ) fun x => pur (.bl (!isNon x))
  | .and a b, ρ => bnd (ev Φ a ρ) fun x => bnd (lif (asB x)) fun c => match c with
    | true => bnd (ev Φ b ρ) fun y => lif ((asB y).map .bl)
    | false => pur (.bl false)
  | .or a b, ρ => bnd (ev Φ a ρ) fun x => bnd (lif (asB x)) fun c => match c with
    | true => pur (.bl true)
    | false => bnd (ev Φ b ρ) fun y => lif ((asB y).map .bl)
  | .not a, ρ => bnd (ev Φ a ρ) fun x => lif ((asB x).map fun c => .bl (!c))
  | .ife c a b, ρ => bnd (ev Φ c ρ) fun x => bnd (lif (asB x)) fun k => match k with
    | true => ev Φ a ρ
    | false => ev Φ b ρ
  | .tup es, ρ => bnd (evL Φ es ρ) fun xs => pur (.tup xs)
  | .lst es, ρ => bnd (evL Φ es ρ) fun xs => pur (.lst xs)
  | .mkb es, ρ => bnd (evL Φ es ρ) fun xs => fun s => .ok (.box s.length) (s ++ [xs])
  | .ix a b, ρ => bnd (ev Φ a ρ) fun x => bnd (ev Φ b ρ) fun y => ixD x y
  | .slice a lo hi, ρ => bnd (ev Φ a ρ) fun x => bnd (evO Φ lo ρ) fun l => bnd (evO Φ hi ρ) fun h => lif (sliceD x l h)
  | .call f es, ρ => bnd (evL Φ es ρ) fun xs => Φ f xs
  | .bf b es, ρ => bnd (evL Φ es ρ) fun xs => lif (bfn b xs)
  | .isi t a, ρ => bnd (ev Φ a ρ) fun x => pur (.bl (isTy t x))
  | .isi2 t u a, ρ => bnd (ev Φ a ρ) fun x => pur (.bl (isTy t x || isTy u x))
  | .lc e t it c vs, ρ => bnd (evI Φ it ρ) fun ds => nox (bnd (compL (fun d => bnd (lif (tgt t d (wipeD ρ vs))) fun ρ1 => bnd (evC Φ c ρ1) fun k => match k with
      | true => bnd (ev Φ e ρ1) fun x => pur [x]
      | false => pur []) ds) fun xs => pur (.lst xs))
  | .lc2 e t it c t1 it1 c1 vs vs1, ρ => bnd (evI Φ it ρ) fun ds => nox (bnd (compL (fun d => bnd (lif (tgt t d (wipeD (dropO ρ) vs))) fun ρ1 => bnd (evC Φ c ρ1) fun k => match k with
      | true => bnd (evI Φ it1 ρ1) fun ds1 => compL (fun d1 => bnd (lif (tgt t1 d1 (wipeD ρ1 vs1))) fun ρ2 => bnd (evC Φ c1 ρ2) fun k1 => match k1 with
        | true => bnd (ev Φ e ρ2) fun x => pur [x]
        | false => pur []) ds1
      | false => pur []) ds) fun xs => if xs.length ≤ LIM then pur (.lst xs) else stk)
  | .lrng es, ρ => bnd (evL Φ es ρ) fun xs => match xs with
    | [.int n] => lif ((rngD 0 n).map .lst)
    | [.int a, .int b] => lif ((rngD a b).map .lst)
    | _ => stk
  | .lzip a b, ρ => bnd (ev Φ a ρ) fun x => bnd (ev Φ b ρ) fun y => match x, y with
    | .lst xs, .lst ys => pur (.lst (zipD xs ys))
    | .tup xs, .tup ys => pur (.lst (zipD xs ys))
    | _, _ => stk
  | .sset a, ρ => bnd (ev Φ a ρ) fun x => lif (ssetD x)
  | .lset a, ρ => bnd (ev Φ a ρ) fun x => match x with
    | .tup xs => match intsOf xs with
      | some is => if is.length < 64 then pur (.int (sortI is).length) else stk
      | none => stk
    | _ => stk
def evL (Φ : Nat → List D → M D) : CL → Ev → M (List D)
  | .nil, _ => pur []
  | .cons e r, ρ => bnd (ev Φ e ρ) fun x => bnd (evL Φ r ρ) fun xs => pur (x :: xs)
def evO (Φ : Nat → List D → M D) : CO → Ev → M (Option Int)
  | .none, _ => pur none
  | .some e, ρ => bnd (ev Φ e ρ) fun x => bnd (lif (asI x)) fun i => pur (some i)
/-- a clause's test -/
def evC (Φ : Nat → List D → M D) : CO → Ev → M Bool
  | .none, _ => pur true
  | .some e, ρ => bnd (ev Φ e ρ) fun x => lif (asB x)
def evI (Φ : Nat → List D → M D) : CI → Ev → M (List D)
  | .seq e, ρ => bnd (ev Φ e ρ) fun x => lif (seqOf x)
  | .rng es, ρ => bnd (evL Φ es ρ) fun xs => match xs with
    | [.int n] => lif (rngD 0 n)
    | [.int a, .int b] => lif (rngD a b)
    | _ => stk
  | .zip a b, ρ => bnd (ev Φ a ρ) fun x => bnd (ev Φ b ρ) fun y => match x, y with
    | .lst xs, .lst ys => pur (zipD xs ys)
    | .tup xs, .tup ys => pur (zipD xs ys)
    | _, _ => stk
  | .enum a, ρ => bnd (ev Φ a ρ) fun x => bnd (lif (lstOf x)) fun xs => pur (enumD 0 xs)
end

/-! ### statements -/
inductive SR where
  | nx (ρ : Ev) (s : Sto)
  | rt (d : D) (s : Sto)
  | bk (ρ : Ev) (s : Sto)
  | ct (ρ : Ev) (s : Sto)
  | exc (c : Nat) (a : Option D) (s : Sto)
  | stuck
mutual
inductive CS where
  | skip
  | ex (e : CE)
  | ret (e : CE)
  | retn
  | set (i : Nat) (e : CE)
  | seto (i : Nat) (e : CE)
  | par2 (i j : Nat) (o1 o2 : Bool) (a b : CE)
  | asg (t : CT) (e : CE)
  | aug (i : Nat) (sub : Bool) (e : CE)
  | augo (i : Nat) (e : CE)
  | app (i : Nat) (e : CE)
  | pop (i j : Nat)
  | setx (a b e : CE)
  | setxo (i : Nat) (b e : CE)
  | iff (c : CE) (a b : CB)
  | for_ (t : CT) (it : CI) (b : CB)
  | while_ (c : CE) (b : CB)
  | raise (c : Nat)
  | brk
  | cnt
  | frz (i : Nat) (s : CS)
inductive CB where
  | nil
  | cons (s : CS) (r : CB)
end
def frzE (ρ : Ev) : Ev := ρ.map Sl.frz
def thn {α : Type} (m : Res α) (f : α → Sto → SR) : SR := match m with
  | .ok a s => f a s
  | .exc c a s => .exc c a s
  | .stuck => .stuck
/-- a value is stored: as it is, or as a list of the slot's own -/
def stF (o : Bool) (i : Nat) (d : D) (ρ : Ev) : Option Ev := match o with
  | true => (match d with
    | .lst ds => some (ρ.set i (.own ds))
    | _ => none)
  | false => some (ρ.set i (.val d))
def sto1 (t : CT) (d : D) (ρ : Ev) (s : Sto) : SR := match tgt t d ρ with
  | some ρ' => .nx ρ' s
  | none => .stuck
def forL (f : D → Ev → Sto → SR) : List D → Ev → Sto → SR
  | [], ρ, s => .nx ρ s
  | d :: ds, ρ, s => match f d ρ s with
    | .nx ρ' s' => forL f ds ρ' s'
    | .ct ρ' s' => forL f ds ρ' s'
    | .bk ρ' s' => .nx ρ' s'
    | r => r
def whileL (c : Ev → M Bool) (f : Ev → Sto → SR) : Nat → Ev → Sto → SR
  | 0, _, _ => .stuck
  | n + 1, ρ, s => match c ρ s with
    | .ok true s' => match f ρ s' with
      | .nx ρ' s' => whileL c f n ρ' s'
      | .ct ρ' s' => whileL c f n ρ' s'
      | .bk ρ' s' => .nx ρ' s'
      | r => r
    | .ok false s' => .nx ρ s'
    | .exc c a s' => .exc c a s'
    | .stuck => .stuck
def setI (xs : List D) (i : Int) (d : D) : Option (List D) := (ixN xs.length i).map fun j => xs.set j d
mutual
def evS (Φ : Nat → List D → M D) (W : Nat) : CS → Ev → Sto → SR
  | .skip, ρ, s => .nx ρ s
  | .ex e, ρ, s => thn (ev Φ e ρ s) fun _ s => .nx ρ s
  | .ret e, ρ, s => thn (ev Φ e (frzE ρ) s) .rt
  | .retn, _, s => .rt .non s
  | .set i e, ρ, s => thn (ev Φ e ρ s) fun d s => .nx (ρ.set i (.val d)) s
  | .seto i e, ρ, s => thn (ev Φ e ρ s) fun d s => match stF true i d ρ with
    | some ρ' => .nx ρ' s
    | none => .stuck
  | .par2 i j o1 o2 a b, ρ, s => thn (ev Φ a ρ s) fun x s => thn (ev Φ b ρ s) fun y s => match stF o1 i x ρ with
    | some ρ1 => (match stF o2 j y ρ1 with
      | some ρ2 => .nx ρ2 s
      | none => .stuck)
    | none => .stuck
  | .asg t e, ρ, s => thn (ev Φ e ρ s) fun d s => sto1 t d ρ s
  | .aug i sub e, ρ, s => match getV ρ i with
    | some x => thn (ev Φ e ρ s) fun y s => match x, y with
      | .int a, .int b => .nx (ρ.set i (.val (.int (match sub with | true => a - b | false => a + b)))) s
      | _, _ => .stuck
    | none => .stuck
  | .augo i e, ρ, s => match getO ρ i with
    | some xs => thn (ev Φ e ρ s) fun y s => match y with
      | .lst ys => if xs.length + ys.length ≤ LIM then .nx (ρ.set i (.own (xs ++ ys))) s else .stuck
      | _ => .stuck
    | none => .stuck
  | .app i e, ρ, s => match getO ρ i with
    | some xs => thn (ev Φ e ρ s) fun y s => if xs.length < LIM then .nx (ρ.set i (.own (xs ++ [y]))) s else .stuck
    | none => .stuck
  | .pop i j, ρ, s => match getO ρ i with
    | some xs => (match xs.getLast? with
      | some y => .nx ((ρ.set i (.own xs.dropLast)).set j (.val y)) s
      | none => .stuck)
    | none => .stuck
  | .setx a b e, ρ, s => thn (ev Φ e ρ s) fun d s => thn (ev Φ a ρ s) fun x s => thn (ev Φ b ρ s) fun y s => match x, y with
    | .box l, .int i => (match s[l]? with
      | some xs => (match setI xs i d with
        | some ys => .nx ρ (s.set l ys)
        | none => .stuck)
      | none => .stuck)
    | _, _ => .stuck
  | .setxo i b e, ρ, s => thn (ev Φ e ρ s) fun d s => match getO ρ i with
    | some xs => thn (ev Φ b ρ s) fun y s => (match y with
      | .int k => (match setI xs k d with
        | some ys => .nx (ρ.set i (.own ys)) s
        | none => .stuck)
      | _ => .stuck)
    | none => .stuck
  | .iff c a b, ρ, s => thn (bnd (ev Φ c ρ) (fun x => lif (asB x)) s) fun k s => match k with
    | true => evB Φ W a ρ s
    | false => evB Φ W b ρ s
  | .for_ t it b, ρ, s => thn (evI Φ it ρ s) fun ds s => forL (fun d ρ s => match tgt t d ρ with
    | some ρ' => evB Φ W b ρ' s
    | none => .stuck) ds ρ s
  | .while_ c b, ρ, s => whileL (fun ρ => bnd (ev Φ c ρ) fun x => lif (asB x)) (evB Φ W b) W ρ s
  | .raise c, _, s => .exc c none s
  | .brk, ρ, s => .bk ρ s
  | .cnt, ρ, s => .ct ρ s
  | .frz i st, ρ, s => evS Φ W st (match getO ρ i with
    | some ds => ρ.set i (.val (.lst ds))
    | none => ρ) s
def evB (Φ : Nat → List D → M D) (W : Nat) : CB → Ev → Sto → SR
  | .nil, ρ, s => .nx ρ s
  | .cons st r, ρ, s => match evS Φ W st ρ s with
    | .nx ρ' s' => evB Φ W r ρ' s'
    | x => x
end
/-! ### functions -/
structure Fd where
  np : Nat
  nl : Nat
  body : CB
def evF (Φ : Nat → List D → M D) (W : Nat) (fd : Fd) (ds : List D) : M D := fun s =>
  match ds.length == fd.np with
  | true => (match evB Φ W fd.body (ds.map .val ++ List.replicate (fd.nl - fd.np) .no) s with
    | .nx _ s' => .ok .non s'
    | .rt d s' => .ok d s'
    | .exc c a s' => .exc c a s'
    | _ => .stuck)
  | false => .stuck
def callN (T : Nat → Option Fd) (W : Nat) : Nat → Nat → List D → M D
  | 0, _, _ => stk
  | n + 1, f, ds => match T f with
    | some fd => evF (callN T W n) W fd ds
    | none => stk
end Mi
end
section
set_option Elab.async false
set_option linter.all false
set_option maxRecDepth 100000
set_option maxHeartbeats 1000000
/-! Mi1: what a core value stands for, worlds, frames, what an evaluation promises. -/
namespace Mi
open PySem PySem.Spec PyProof.Rows L2

structure Cfg where
  K : PySem.W.Frag
  cls : Nat → Value
  fld : Nat → Str
structure Gh where
  S : Hp
  B : List Addr
mutual
inductive Rep (K : PySem.W.Frag) (g : Gh) : V → D → Prop
  | non : Rep K g .non .non
  | bl (b : Bool) : Rep K g (.bl b) (.bl b)
  | int (i : Int) : Rep K g (.int i) (.int i)
  | str (x : Str) : Rep K g (.str x) (.str x)
  | tup {a : Addr} {xs : List V} {ds : List D} : SqT K g.S a xs → xs.length ≤ LIM → Reps K g xs ds → Rep K g (.ref a) (.tup ds)
  | lst {a : Addr} {xs : List V} {ds : List D} : SqL K g.S a xs → xs.length ≤ LIM → Reps K g xs ds → Rep K g (.ref a) (.lst ds)
  | box {a : Addr} {l : Nat} : g.B[l]? = some a → Rep K g (.ref a) (.box l)
inductive Reps (K : PySem.W.Frag) (g : Gh) : List V → List D → Prop
  | nil : Reps K g [] []
  | cons {v : V} {vs : List V} {d : D} {ds : List D} : Rep K g v d → Reps K g vs ds → Reps K g (v :: vs) (d :: ds)
end
/-- g' knows what g knows -/
structure Le (g g' : Gh) : Prop where
  S : ∀ a o, g.S a = some o → g'.S a = some o
  B : ∀ (l : Nat) a, g.B[l]? = some a → g'.B[l]? = some a
theorem Le.refl (g : Gh) : Le g g := ⟨fun _ _ h => h, fun _ _ h => h⟩
theorem Le.trans {a b c : Gh} (x : Le a b) (y : Le b c) : Le a c := ⟨fun p o h => y.S p o (x.S p o h), fun l p h => y.B l p (x.B l p h)⟩
theorem sqT_mono {K : PySem.W.Frag} {S S' : Hp} (e : ∀ a o, S a = some o → S' a = some o) {a : Addr} {xs : List V} (h : SqT K S a xs) : SqT K S' a xs := by
  rcases h with (h | ⟨o, h⟩) | h
  · exact .inl (.inl (e _ _ h))
  · exact .inl (.inr ⟨o, e _ _ h⟩)
  · exact .inr h
theorem sqL_mono {K : PySem.W.Frag} {S S' : Hp} (e : ∀ a o, S a = some o → S' a = some o) {a : Addr} {xs : List V} (h : SqL K S a xs) : SqL K S' a xs := by
  rcases h with (h | ⟨o, h⟩) | h
  · exact .inl (.inl (e _ _ h))
  · exact .inl (.inr ⟨o, e _ _ h⟩)
  · exact .inr h
section
variable {K : PySem.W.Frag} {g g' : Gh}
mutual
theorem Rep.mono (e : Le g g') : ∀ {v : V} {d : D}, Rep K g v d → Rep K g' v d
  | _, _, .non => .non
  | _, _, .bl b => .bl b
  | _, _, .int b => .int b
  | _, _, .str b => .str b
  | _, _, .tup h l r => .tup (sqT_mono e.S h) l (r.mono e)
  | _, _, .lst h l r => .lst (sqL_mono e.S h) l (r.mono e)
  | _, _, .box h => .box (e.B _ _ h)
theorem Reps.mono (e : Le g g') : ∀ {v : List V} {d : List D}, Reps K g v d → Reps K g' v d
  | _, _, .nil => .nil
  | _, _, .cons a b => .cons (a.mono e) (b.mono e)
end
theorem Reps.length : ∀ {vs : List V} {ds : List D}, Reps K g vs ds → vs.length = ds.length
  | _, _, .nil => rfl
  | _, _, .cons _ r => congrArg Nat.succ r.length
theorem Reps.get : ∀ {vs : List V} {ds : List D} {i : Nat} {d : D}, Reps K g vs ds → ds[i]? = some d → ∃ v, vs[i]? = some v ∧ Rep K g v d
  | _, _, _, _, .nil, h => by simp at h
  | _, _, 0, _, .cons a _, h => by simp at h; subst h; exact ⟨_, rfl, a⟩
  | _, _, i + 1, d, .cons _ r, h => by simpa using r.get (i := i) (d := d) (by simpa using h)
theorem Reps.getV : ∀ {vs : List V} {ds : List D} {i : Nat} {v : V}, Reps K g vs ds → vs[i]? = some v → ∃ d, ds[i]? = some d ∧ Rep K g v d
  | _, _, _, _, .nil, h => by simp at h
  | _, _, 0, _, .cons a _, h => by simp at h; subst h; exact ⟨_, rfl, a⟩
  | _, _, i + 1, d, .cons _ r, h => by simpa using r.getV (i := i) (v := d) (by simpa using h)
theorem Reps.append : ∀ {vs us : List V} {ds es : List D}, Reps K g vs ds → Reps K g us es → Reps K g (vs ++ us) (ds ++ es)
  | _, _, _, _, .nil, s => s
  | _, _, _, _, .cons a r, s => .cons a (r.append s)
theorem Reps.take : ∀ {vs : List V} {ds : List D} (n : Nat), Reps K g vs ds → Reps K g (vs.take n) (ds.take n)
  | _, _, 0, _ => by simpa using Reps.nil
  | _, _, _ + 1, .nil => by simpa using Reps.nil
  | _, _, n + 1, .cons a r => by simpa using Reps.cons a (r.take n)
theorem Reps.drop : ∀ {vs : List V} {ds : List D} (n : Nat), Reps K g vs ds → Reps K g (vs.drop n) (ds.drop n)
  | _, _, 0, r => r
  | _, _, _ + 1, .nil => by simpa using Reps.nil
  | _, _, n + 1, .cons a r => by simpa using r.drop n
theorem Reps.set {v : V} {d : D} (a : Rep K g v d) : ∀ {vs : List V} {ds : List D} (n : Nat), Reps K g vs ds → Reps K g (vs.set n v) (ds.set n d)
  | _, _, _, .nil => .nil
  | _, _, 0, .cons _ r => .cons a r
  | _, _, n + 1, .cons b r => .cons b (r.set a n)
theorem Reps.rep (n : Nat) : ∀ {vs : List V} {ds : List D}, Reps K g vs ds → Reps K g (List.replicate n vs).flatten (List.replicate n ds).flatten := by
  intro vs ds r
  induction n with
  | zero => exact .nil
  | succ n ih =>
    rw [List.replicate_succ, List.replicate_succ, List.flatten_cons, List.flatten_cons]
    exact r.append ih
theorem Reps.map {α : Type} (f : α → V) (h : α → D) (k : ∀ a, Rep K g (f a) (h a)) : ∀ l : List α, Reps K g (l.map f) (l.map h)
  | [] => .nil
  | a :: r => .cons (k a) (Reps.map f h k r)
end

structure Wd (K : PySem.W.Frag) (g : Gh) (H : Hp) (st : Sto) : Prop where
  sub : ∀ a o, g.S a = some o → H a = some o
  len : g.B.length = st.length
  box : ∀ (l : Nat) xs, st[l]? = some xs → ∃ a vs, g.B[l]? = some a ∧ H a = some (.lst vs) ∧ Reps K g vs xs
  inj : ∀ (i j : Nat) a, g.B[i]? = some a → g.B[j]? = some a → i = j
  bs : ∀ a, a ∈ g.B → g.S a = none
/-- a frame: what happens while code runs that owns nothing of ours -/
structure Fr (g : Gh) (H : Hp) (g' : Gh) (H' : Hp) : Prop where
  le : Le g g'
  keep : ∀ a o, H a = some o → a ∉ g.B → H' a = some o
  there : ∀ a, H' a = none → H a = none
  newS : ∀ a o, H a = some o → g.S a = none → g'.S a = none
  newB : ∀ a o, H a = some o → a ∉ g.B → a ∉ g'.B
theorem Fr.refl (g : Gh) (H : Hp) : Fr g H g H := ⟨Le.refl g, fun _ _ h _ => h, fun _ h => h, fun _ _ _ h => h, fun _ _ _ h => h⟩
theorem Fr.trans {g g1 g2 : Gh} {H H1 H2 : Hp} (x : Fr g H g1 H1) (y : Fr g1 H1 g2 H2) : Fr g H g2 H2 where
  le := x.le.trans y.le
  keep := fun a o h n => y.keep a o (x.keep a o h n) (x.newB a o h n)
  there := fun a h => x.there a (y.there a h)
  newS := fun a o h n => by
    cases e : H1 a with
    | none => rw [x.there a e] at h; cases h
    | some o1 => exact y.newS a o1 e (x.newS a o h n)
  newB := fun a o h n => y.newB a o (x.keep a o h n) (x.newB a o h n)

/-! ### results -/
def RepB (K : PySem.W.Frag) (g : Gh) (H : Hp) (v : V) (d : D) : Prop :=
  Rep K g v d ∨ ∃ a vs ds, v = .ref a ∧ d = .lst ds ∧ H a = some (.lst vs) ∧ vs.length ≤ LIM ∧ Reps K g vs ds ∧ g.S a = none ∧ a ∉ g.B
theorem RepB.fr {K : PySem.W.Frag} {g g' : Gh} {H H' : Hp} (f : Fr g H g' H') {v : V} {d : D} (h : RepB K g H v d) : RepB K g' H' v d := by
  rcases h with h | ⟨a, vs, ds, e1, e2, h1, h2, h3, h4, h5⟩
  · exact .inl (h.mono f.le)
  · exact .inr ⟨a, vs, ds, e1, e2, f.keep a _ h1 h5, h2, h3.mono f.le, f.newS a _ h1 h4, f.newB a _ h1 h5⟩
/-- a fresh list, or a plain value -/
def RepF (K : PySem.W.Frag) (H0 : Hp) (g : Gh) (H : Hp) (v : V) (d : D) : Prop :=
  (∀ ds, d = .lst ds → ∃ a vs, v = .ref a ∧ H0 a = none ∧ H a = some (.lst vs) ∧ vs.length ≤ LIM ∧ Reps K g vs ds ∧ g.S a = none ∧ a ∉ g.B) ∧ ((∀ ds, d ≠ .lst ds) → Rep K g v d)
def addS (g : Gh) (a : Addr) (o : HO) : Gh := ⟨upd g.S a o, g.B⟩
theorem le_addS {g : Gh} {a : Addr} {o : HO} (h : g.S a = none) : Le g (addS g a o) := ⟨fun b u e => by
  show upd g.S a o b = some u
  rw [upd_ne (ne_of_none e h)]
  exact e, fun _ _ e => e⟩
theorem wd_addS {K : PySem.W.Frag} {g : Gh} {H : Hp} {st : Sto} {a : Addr} {o : HO} (w : Wd K g H st) (h : g.S a = none) (e : H a = some o) (nb : a ∉ g.B) : Wd K (addS g a o) H st where
  sub := fun b u q => by
    by_cases hb : b = a
    · subst hb
      have q' : upd g.S b o b = some u := q
      rw [upd_same] at q'
      rw [e, q']
    · have q' : upd g.S a o b = some u := q
      rw [upd_ne hb] at q'
      exact w.sub b u q'
  len := w.len
  box := fun l xs q => by
    obtain ⟨b, vs, h1, h2, h3⟩ := w.box l xs q
    exact ⟨b, vs, h1, h2, h3.mono (le_addS h)⟩
  inj := w.inj
  bs := fun b hb => by
    have ne : b ≠ a := fun z => by
      subst z
      exact nb hb
    show upd g.S a o b = none
    rw [upd_ne ne]
    exact w.bs b hb
theorem fr_addS {g g' : Gh} {H H' : Hp} {a : Addr} {o : HO} (f : Fr g H g' H') (h0 : H a = none) (h : g'.S a = none) : Fr g H (addS g' a o) H' where
  le := f.le.trans (le_addS h)
  keep := f.keep
  there := f.there
  newS := fun b u e n => by
    show upd g'.S a o b = none
    rw [upd_ne (ne_of_none e h0)]
    exact f.newS b u e n
  newB := f.newB
/-- a fresh thing is laid into what stays -/
theorem RepF.freeze {K : PySem.W.Frag} {g g' : Gh} {H H' : Hp} {st : Sto} {v : V} {d : D} (f : Fr g H g' H') (w : Wd K g' H' st) (h : RepF K H g' H' v d) : ∃ g'', Fr g H g'' H' ∧ Wd K g'' H' st ∧ Rep K g'' v d := by
  by_cases hd : ∃ ds, d = .lst ds
  · obtain ⟨ds, rfl⟩ := hd
    obtain ⟨a, vs, rfl, h0, h1, h2, h3, h4, h5⟩ := h.1 ds rfl
    exact ⟨addS g' a (.lst vs), fr_addS f h0 h4, wd_addS w h4 h1 h5, .lst (.inl (.inl upd_same)) h2 (h3.mono (le_addS h4))⟩
  · exact ⟨g', f, w, h.2 fun ds e => hd ⟨ds, e⟩⟩
/-- a new list, a new tuple is laid -/
theorem fr_new {g : Gh} {H : Hp} {a : Addr} {o : HO} (h : H a = none) : Fr g H g (upd H a o) where
  le := Le.refl g
  keep := fun b u e _ => by rw [upd_ne (ne_of_none e h)]; exact e
  there := fun b e => by
    by_cases hb : b = a
    · subst hb; exact h
    · rw [upd_ne hb] at e; exact e
  newS := fun _ _ _ n => n
  newB := fun _ _ _ n => n
theorem Wd.none {K : PySem.W.Frag} {g : Gh} {H : Hp} {st : Sto} (w : Wd K g H st) {a : Addr} (h : H a = none) : g.S a = none ∧ a ∉ g.B := by
  refine ⟨?_, fun hb => ?_⟩
  · cases e : g.S a with
    | none => rfl
    | some o => rw [w.sub a o e] at h; cases h
  · obtain ⟨l, hl, e⟩ := List.mem_iff_getElem.mp hb
    have hl2 : l < st.length := by rw [← w.len]; exact hl
    obtain ⟨b, vs, h1, h2, _⟩ := w.box l st[l] (List.getElem?_eq_getElem hl2)
    rw [List.getElem?_eq_getElem hl, e] at h1
    cases h1
    rw [h2] at h; cases h
theorem Wd.new {K : PySem.W.Frag} {g : Gh} {H : Hp} {st : Sto} (w : Wd K g H st) {a : Addr} {o : HO} (h : H a = Option.none) : Wd K g (upd H a o) st where
  sub := fun b u e => by
    have e1 := w.sub b u e
    rw [upd_ne (ne_of_none e1 h)]; exact e1
  len := w.len
  box := fun l xs q => by
    obtain ⟨b, vs, h1, h2, h3⟩ := w.box l xs q
    exact ⟨b, vs, h1, by rw [upd_ne (ne_of_none h2 h)]; exact h2, h3⟩
  inj := w.inj
  bs := w.bs
theorem repF_new {K : PySem.W.Frag} {g : Gh} {H H0 : Hp} {st : Sto} {a : Addr} {vs : List V} {ds : List D} (w : Wd K g H st) (h : H a = none) (h0 : H0 a = none) (r : Reps K g vs ds) (l : vs.length ≤ LIM) : RepF K H0 g (upd H a (.lst vs)) (.ref a) (.lst ds) :=
  ⟨fun es e => by
    have e' : ds = es := D.lst.inj e
    subst e'
    exact ⟨a, vs, rfl, h0, upd_same, l, r, (w.none h).1, (w.none h).2⟩, fun n => absurd rfl (n ds)⟩
/-- a new tuple stays -/
theorem tup_new {K : PySem.W.Frag} {g : Gh} {H : Hp} {st : Sto} {a : Addr} {vs : List V} {ds : List D} (w : Wd K g H st) (h : H a = none) (r : Reps K g vs ds) (l : vs.length ≤ LIM) :
    ∃ g', Fr g H g' (upd H a (.tup vs)) ∧ Wd K g' (upd H a (.tup vs)) st ∧ Rep K g' (.ref a) (.tup ds) :=
  ⟨addS g a (.tup vs), fr_addS (fr_new h) h (w.none h).1, wd_addS (w.new h) (w.none h).1 upd_same (w.none h).2, .tup (.inl (.inl upd_same)) l (r.mono (le_addS (w.none h).1))⟩

/-! ### slots -/
structure REnv (K : PySem.W.Frag) (g : Gh) (H : Hp) (σ : L2.St) (ρ : Ev) : Prop where
  len : ρ.length = σ.length
  val : ∀ (i : Nat) d, ρ[i]? = some (.val d) → ∃ v, σ[i]? = some (some v) ∧ Rep K g v d
  own : ∀ (i : Nat) ds, ρ[i]? = some (.own ds) → ∃ a vs, σ[i]? = some (some (.ref a)) ∧ H a = some (.lst vs) ∧ vs.length ≤ LIM ∧ Reps K g vs ds ∧ g.S a = none ∧ a ∉ g.B
  inj : ∀ (i j : Nat) ds es a, ρ[i]? = some (.own ds) → ρ[j]? = some (.own es) → σ[i]? = some (some (.ref a)) → σ[j]? = some (some (.ref a)) → i = j
theorem REnv.fr {K : PySem.W.Frag} {g g' : Gh} {H H' : Hp} {σ : L2.St} {ρ : Ev} (f : Fr g H g' H') (r : REnv K g H σ ρ) : REnv K g' H' σ ρ where
  len := r.len
  val := fun i d e => let ⟨v, h1, h2⟩ := r.val i d e; ⟨v, h1, h2.mono f.le⟩
  own := fun i ds e => let ⟨a, vs, h1, h2, h3, h4, h5, h6⟩ := r.own i ds e; ⟨a, vs, h1, f.keep a _ h2 h6, h3, h4.mono f.le, f.newS a _ h2 h5, f.newB a _ h2 h6⟩
  inj := r.inj
theorem getV_some {ρ : Ev} {i : Nat} {d : D} (h : getV ρ i = some d) : ρ[i]? = some (.val d) := by
  unfold getV at h
  cases e : ρ[i]? with
  | none => rw [e] at h; cases h
  | some s =>
    rw [e] at h
    cases s with
    | val d' => cases h; rfl
    | no => cases h
    | own _ => cases h
theorem getO_some {ρ : Ev} {i : Nat} {d : List D} (h : getO ρ i = some d) : ρ[i]? = some (.own d) := by
  unfold getO at h
  cases e : ρ[i]? with
  | none => rw [e] at h; cases h
  | some s =>
    rw [e] at h
    cases s with
    | own d' => cases h; rfl
    | no => cases h
    | val _ => cases h

/-! ### what an evaluation promises -/
/-- how an exception of the class c lies -/
def XR (C : Cfg) (c : Nat) (a : Option D) (od : Option Addr) (g : Gh) (H : Hp) : Prop := match a with
  | none => od = none
  | some d => ∃ dx v, od = some dx ∧ H dx = some (.xd [(C.fld c, v)]) ∧ Rep C.K g v d
def Post {α : Type} (C : Cfg) (E : XK) (g : Gh) (H : Hp) (k : α → Sto → Gh → Hp → Prop) : Res α → Prop
  | .ok a s => ∀ g' H', Fr g H g' H' → Wd C.K g' H' s → k a s g' H'
  | .exc c a s => ∀ g' H' od, Fr g H g' H' → Wd C.K g' H' s → XR C c a od g' H' → E (C.cls c) od H'
  | .stuck => False
section
variable {α β : Type} {C : Cfg} {E : XK} {g g1 : Gh} {H H1 : Hp}
theorem Post.weak {k : α → Sto → Gh → Hp → Prop} (f : Fr g H g1 H1) : ∀ {r : Res α}, Post C E g H k r → Post C E g1 H1 k r
  | .ok a s, h => fun g' H' f' w => h g' H' (f.trans f') w
  | .exc c a s, h => fun g' H' od f' w x => h g' H' od (f.trans f') w x
  | .stuck, h => h
theorem Post.bnd {m : M α} {f : α → M β} {k : β → Sto → Gh → Hp → Prop} {s : Sto} (h : Post C E g H k (bnd m f s)) : Post C E g H (fun a s' g' H' => Post C E g' H' k (f a s')) (m s) := by
  unfold Mi.bnd at h
  cases e : m s with
  | ok a s' =>
    rw [e] at h
    exact fun g' H' fr w => h.weak fr
  | exc c a s' => rw [e] at h; exact h
  | stuck => rw [e] at h; exact h
theorem Post.imp {k k' : α → Sto → Gh → Hp → Prop} (i : ∀ a s g' H', Fr g H g' H' → Wd C.K g' H' s → k a s g' H' → k' a s g' H') : ∀ {r : Res α}, Post C E g H k r → Post C E g H k' r
  | .ok a s, h => fun g' H' f w => i a s g' H' f w (h g' H' f w)
  | .exc _ _ _, h => h
  | .stuck, h => h
theorem Post.pur {k : α → Sto → Gh → Hp → Prop} {a : α} {s : Sto} (w : Wd C.K g H s) (h : Post C E g H k (Mi.pur a s)) : k a s g H := h g H (Fr.refl g H) w
theorem Post.at {k : α → Sto → Gh → Hp → Prop} {a : α} {s : Sto} (h : Post C E g H k (Mi.pur a s)) {g' : Gh} {H' : Hp} (f : Fr g H g' H') (w : Wd C.K g' H' s) : k a s g' H' := h g' H' f w
theorem Post.lif {k : α → Sto → Gh → Hp → Prop} {o : Option α} {s : Sto} (h : Post C E g H k (Mi.lif o s)) : ∃ a, o = some a ∧ Post C E g H k (Mi.pur a s) := by
  cases o with
  | none => exact h.elim
  | some a => exact ⟨a, rfl, h⟩
end
/-- a reading by an evaluation; R: how the value stands for the result (from the heap at the start) -/
abbrev RR := Hp → Gh → Hp → V → D → Prop
def tD (C : Cfg) (E : XK) (R : RR) (f : Ev → M D) : TE := fun σ H Q => ∃ g ρ s, Wd C.K g H s ∧ REnv C.K g H σ ρ ∧ Post C E g H (fun d _ g' H' => ∀ v, R H g' H' v d → Q v H') (f ρ s)
def tDT (C : Cfg) (E : XK) (f : Ev → M Bool) : TT := fun σ H Q => ∃ g ρ s, Wd C.K g H s ∧ REnv C.K g H σ ρ ∧ Post C E g H (fun b _ _ H' => Q b H') (f ρ s)
inductive RepsB (K : PySem.W.Frag) (g : Gh) (H : Hp) : List V → List D → Prop
  | nil : RepsB K g H [] []
  | cons {v : V} {vs : List V} {d : D} {ds : List D} : RepB K g H v d → RepsB K g H vs ds → RepsB K g H (v :: vs) (d :: ds)
def tDA (C : Cfg) (E : XK) (f : Ev → M (List D)) : TA := fun σ H Q => ∃ g ρ s, Wd C.K g H s ∧ REnv C.K g H σ ρ ∧ Post C E g H (fun ds _ g' H' => ∀ vs, Reps C.K g' vs ds → Q vs H') (f ρ s)
def tDAB (C : Cfg) (E : XK) (f : Ev → M (List D)) : TA := fun σ H Q => ∃ g ρ s, Wd C.K g H s ∧ REnv C.K g H σ ρ ∧ Post C E g H (fun ds _ g' H' => ∀ vs, RepsB C.K g' H' vs ds → Q vs H') (f ρ s)
def tDO (C : Cfg) (E : XK) (f : Ev → M (Option Int)) : TO := fun σ H Q => ∃ g ρ s, Wd C.K g H s ∧ REnv C.K g H σ ρ ∧ Post C E g H (fun o _ _ H' => Q o H') (f ρ s)
abbrev rS (K : PySem.W.Frag) : RR := fun _ g _ v d => Rep K g v d
abbrev rB (K : PySem.W.Frag) : RR := fun _ g H v d => RepB K g H v d
abbrev rF (K : PySem.W.Frag) : RR := fun H0 g H v d => RepF K H0 g H v d
structure DE (C : Cfg) (E : XK) (X : Cx) (e : Expr) (f : Ev → M D) : Prop where
  pe : PE X e (tD C E (rS C.K) f)
structure DB (C : Cfg) (E : XK) (X : Cx) (e : Expr) (f : Ev → M D) : Prop where
  pe : PE X e (tD C E (rB C.K) f)
structure DF (C : Cfg) (E : XK) (X : Cx) (e : Expr) (f : Ev → M D) : Prop where
  pe : PE X e (tD C E (rF C.K) f)
structure DT (C : Cfg) (E : XK) (X : Cx) (e : Expr) (f : Ev → M Bool) : Prop where
  pt : PT X e (tDT C E f)
structure DA (C : Cfg) (E : XK) (X : Cx) (es : List Expr) (f : Ev → M (List D)) : Prop where
  pa : PA X es (tDA C E f)
structure DAB (C : Cfg) (E : XK) (X : Cx) (es : List Expr) (f : Ev → M (List D)) : Prop where
  pa : PA X es (tDAB C E f)
structure DO (C : Cfg) (E : XK) (X : Cx) (e : Option Expr) (f : Ev → M (Option Int)) : Prop where
  po : PO X e (tDO C E f)
theorem PE.imp {X : Cx} {e : Expr} {t t' : TE} (h : PE X e t) (i : ∀ σ H Q, t' σ H Q → t σ H Q) : PE X e t' := ⟨fun pins s σ H Q I q => h.run pins s σ H Q I (i σ H Q q)⟩
theorem PT.imp {X : Cx} {e : Expr} {t t' : TT} (h : PT X e t) (i : ∀ σ H Q, t' σ H Q → t σ H Q) : PT X e t' := ⟨fun pins s σ H Q I q => h.run pins s σ H Q I (i σ H Q q)⟩
theorem PA.imp {X : Cx} {e : List Expr} {t t' : TA} (h : PA X e t) (i : ∀ σ H Q, t' σ H Q → t σ H Q) : PA X e t' := ⟨fun pos pins s σ H Q I q => h.run pos pins s σ H Q I (i σ H Q q)⟩
theorem PO.imp {X : Cx} {e : Option Expr} {t t' : TO} (h : PO X e t) (i : ∀ σ H Q, t' σ H Q → t σ H Q) : PO X e t' := ⟨fun pins s σ H Q I q => h.run pins s σ H Q I (i σ H Q q)⟩
theorem PS.imp {X : Cx} {e : Stmt} {t t' : TS} (h : PS X e t) (i : ∀ D σ H, t' D σ H → t D σ H) : PS X e t' := ⟨fun pins s σ H D I q => h.run pins s σ H D I (i D σ H q)⟩
section
variable {C : Cfg} {E : XK} {X : Cx} {e : Expr} {f : Ev → M D}
theorem DF.toE (h : DF C E X e f) : DE C E X e f := ⟨PE.imp h.pe fun σ H Q ⟨g, ρ, s, w, r, p⟩ => ⟨g, ρ, s, w, r, by
  revert p
  cases f ρ s with
  | ok d s' =>
    intro p g' H' fr w' v rf
    obtain ⟨g2, f2, w2, r2⟩ := rf.freeze fr w'
    exact p g2 H' f2 w2 v r2
  | exc c a s' => exact fun p => p
  | stuck => exact fun p => p⟩⟩
theorem DE.toB (h : DE C E X e f) : DB C E X e f := ⟨PE.imp h.pe fun σ H Q ⟨g, ρ, s, w, r, p⟩ => ⟨g, ρ, s, w, r, p.imp fun d s' g' H' fr w' k v rv => k v (.inl rv)⟩⟩
end
end Mi
end
section
set_option Elab.async false
set_option linter.all false
set_option maxRecDepth 100000
set_option maxHeartbeats 1000000
/-! Mi2: operations. -/
namespace Mi
open PySem PySem.Spec PyProof.Rows L2

theorem lim_eq : LIM = sizeLine := by decide
/-- a binary operation keeps what op says -/
def OpS (C : Cfg) (X : Cx) (f : Value → Value → Sem Value) (op : D → D → Option D) : Prop := ∃ r : R2, OpR X f r ∧
  ∀ (H0 : Hp) (g : Gh) (H : Hp) (s : Sto) (x y : V) (dx dy d : D), Wd C.K g H s → (∀ a, H a = none → H0 a = none) → RepB C.K g H x dx → RepB C.K g H y dy → op dx dy = some d →
    ∀ Q : VK, (∀ g' H' v, Fr g H g' H' → Wd C.K g' H' s → RepF C.K H0 g' H' v d → Q v H') → r x y H Q
section
variable {C : Cfg} {X : Cx} {K : PySem.W.Frag} {g : Gh} {H : Hp}
theorem RepB.int {v : V} {i : Int} (h : RepB K g H v (.int i)) : v = .int i := by
  rcases h with h | ⟨_, _, _, _, e, _⟩
  · cases h; rfl
  · cases e
theorem RepB.bl {v : V} {i : Bool} (h : RepB K g H v (.bl i)) : v = .bl i := by
  rcases h with h | ⟨_, _, _, _, e, _⟩
  · cases h; rfl
  · cases e
theorem RepB.str {v : V} {i : Str} (h : RepB K g H v (.str i)) : v = .str i := by
  rcases h with h | ⟨_, _, _, _, e, _⟩
  · cases h; rfl
  · cases e
theorem RepB.non {v : V} (h : RepB K g H v .non) : v = .non := by
  rcases h with h | ⟨_, _, _, _, e, _⟩
  · cases h; rfl
  · cases e
theorem RepB.box {v : V} {l : Nat} (h : RepB K g H v (.box l)) : ∃ a, v = .ref a ∧ g.B[l]? = some a := by
  rcases h with h | ⟨_, _, _, _, e, _⟩
  · cases h with | box h => exact ⟨_, rfl, h⟩
  · cases e
theorem RepB.tup {s : Sto} (w : Wd K g H s) {v : V} {ds : List D} (h : RepB K g H v (.tup ds)) : ∃ a vs, v = .ref a ∧ SqT K H a vs ∧ SqT K g.S a vs ∧ vs.length ≤ LIM ∧ Reps K g vs ds := by
  rcases h with h | ⟨_, _, _, _, e, _⟩
  · cases h with | tup h l r => exact ⟨_, _, rfl, sqT_mono w.sub h, h, l, r⟩
  · cases e
theorem RepB.lst {s : Sto} (w : Wd K g H s) {v : V} {ds : List D} (h : RepB K g H v (.lst ds)) : ∃ a vs, v = .ref a ∧ SqL K H a vs ∧ vs.length ≤ LIM ∧ Reps K g vs ds := by
  rcases h with h | ⟨a, vs, es, e1, e2, h1, h2, h3, _⟩
  · cases h with | lst h l r => exact ⟨_, _, rfl, sqL_mono w.sub h, l, r⟩
  · cases e2
    exact ⟨a, vs, e1, .inl (.inl h1), h2, h3⟩
theorem repF_sc {H0 : Hp} {v : V} {d : D} (h : Rep K g v d) (n : ∀ ds, d ≠ .lst ds := by intro _ z; cases z) : RepF K H0 g H v d := ⟨fun ds e => absurd e (n ds), fun _ => h⟩
theorem OpS.or {f : Value → Value → Sem Value} {p q : D → D → Option D} {op : D → D → Option D} (a : OpS C X f p) (b : OpS C X f q) (h : ∀ x y d, op x y = some d → p x y = some d ∨ q x y = some d) : OpS C X f op := by
  obtain ⟨r, r1, r2⟩ := a
  obtain ⟨t, t1, t2⟩ := b
  refine ⟨_, r1.or t1, fun H0 g H s x y dx dy d w hn hx hy e Q q => ?_⟩
  rcases h _ _ _ e with e | e
  · exact .inl (r2 H0 g H s x y dx dy d w hn hx hy e Q q)
  · exact .inr (t2 H0 g H s x y dx dy d w hn hx hy e Q q)
theorem OpS.imp {f : Value → Value → Sem Value} {p : D → D → Option D} {op : D → D → Option D} (a : OpS C X f p) (h : ∀ x y d, op x y = some d → p x y = some d) : OpS C X f op := by
  obtain ⟨r, r1, r2⟩ := a
  exact ⟨r, r1, fun H0 g H s x y dx dy d w hn hx hy e Q q => r2 H0 g H s x y dx dy d w hn hx hy (h _ _ _ e) Q q⟩
/-- ints -/
def opI (c : Int → Int → Bool) (k : Int → Int → D) : D → D → Option D
  | .int a, .int b => if c a b = true then some (k a b) else none
  | _, _ => none
theorem opS_int {f : Value → Value → Sem Value} {Cn : Int → Int → Prop} {h : Int → Int → V} (R : OpR X f (rI Cn h)) (c : Int → Int → Bool) (k : Int → Int → D) (hc : ∀ i j, c i j = true → Cn i j) (hk : ∀ g i j, Rep C.K g (h i j) (k i j)) (hl : ∀ i j ds, k i j ≠ .lst ds) : OpS C X f (opI c k) := by
  refine ⟨_, R, fun H0 g H s x y dx dy d w hn hx hy e Q q => ?_⟩
  unfold opI at e
  split at e
  · rename_i a b
    split at e
    · rename_i h1
      cases e
      exact ⟨a, b, hx.int, hy.int, hc a b h1, q g H _ (Fr.refl g H) w (repF_sc (hk g a b) (hl a b))⟩
    · cases e
  · cases e
theorem opS_int0 {f : Value → Value → Sem Value} {h : Int → Int → V} (R : OpR X f (rI0 h)) (k : Int → Int → D) (hk : ∀ g i j, Rep C.K g (h i j) (k i j)) (hl : ∀ i j ds, k i j ≠ .lst ds) : OpS C X f (opI (fun _ _ => true) k) := by
  refine ⟨_, R, fun H0 g H s x y dx dy d w hn hx hy e Q q => ?_⟩
  unfold opI at e
  split at e
  · rename_i a b
    rw [if_pos rfl] at e
    cases e
    exact ⟨a, b, hx.int, hy.int, q g H _ (Fr.refl g H) w (repF_sc (hk g a b) (hl a b))⟩
  · cases e
/-! lists and tuples put together -/
def rCatL (K : PySem.W.Frag) : R2 := fun x y H Q => ∃ a b xs ys, x = .ref a ∧ y = .ref b ∧ SqL K H a xs ∧ SqL K H b ys ∧ xs.length + ys.length ≤ sizeLine ∧ ∀ p, H p = none → Q (.ref p) (upd H p (.lst (xs ++ ys)))
theorem cat_lists {prog : Program} {w : World} {A : Around} {E : Value → Shared → Prop} {s : Shared} {l b : Addr} {vs ws : List Value} {Q : Value → Shared → Prop} (hl : s.heap.IsList l vs.toArray) (hb : s.heap.IsList b ws.toArray)
    (h : Q (.ref s.heap.objs.size) { s with heap := s.heap.push { cls := .type "list", data := .seq (vs ++ ws).toArray } }) (hsz : vs.length + ws.length ≤ sizeLine) : wpAny (model prog w) A (binaryOp .Add (.ref l) (.ref b)) Q E s := by
  obtain ⟨⟨cls, dd, data, sl⟩, ho, hc, n, hd⟩ := id hl
  obtain ⟨⟨cls2, dd2, data2, sl2⟩, ho2, hc2, n2, hd2⟩ := id hb
  simp only at hc hd hc2 hd2
  subst hc hd hc2 hd2
  have e : vs.toArray ++ ws.toArray = (vs ++ ws).toArray := by simp
  rw [← e] at h
  exact concat_meets ⟨_, ho, rfl⟩ ⟨_, ho2, rfl⟩ noFill_list_add seq_list_add PySem.F.slot_list_add PySem.F.entry_list_add (PySem.F.args_list_add_2 _ _) (list_addW l b vs.toArray ws.toArray n n2 dd dd2 sl sl2 (by simpa using hsz)) ⟨ho, ho2, h⟩
theorem op_catL : OpR X (binaryOp .Add) (rCatL X.K) := by
  intro pins s σ H x y v u Q I rx ry h
  obtain ⟨a, b, xs, ys, rfl, rfl, ha, hb, hz, q⟩ := h
  cases rx
  cases ry
  obtain ⟨its, r1, p1, _⟩ := I.list ha
  obtain ⟨its2, r2, p2, _⟩ := I.list hb
  refine cat_lists p1.isList p2.isList ?_ (by rw [← r1.length, ← r2.length]; exact hz)
  exact ⟨.ref _, _, I.lnew (t' := s.toks) (r1.append r2) (by rw [List.length_append]; exact hz), rfl, q _ I.fresh⟩

def catL : D → D → Option D
  | .lst a, .lst b => if a.length + b.length ≤ LIM then some (.lst (a ++ b)) else none
  | _, _ => none
theorem opS_catL (hK : X.K = C.K) : OpS C X (binaryOp .Add) catL := by
  refine ⟨_, op_catL, fun H0 g H s x y dx dy d w hn hx hy e Q q => ?_⟩
  rw [hK]
  unfold catL at e
  split at e
  · rename_i a b
    split at e
    · rename_i hz
      cases e
      obtain ⟨p, vs, rfl, h1, h2, h3⟩ := hx.lst w
      obtain ⟨p', vs', rfl, h1', h2', h3'⟩ := hy.lst w
      have l1 := h3.length
      have l2 := h3'.length
      have ll := lim_eq
      refine ⟨p, p', vs, vs', rfl, rfl, h1, h1', by omega, fun t ht => ?_⟩
      exact q g _ _ (fr_new ht) (w.new ht) (repF_new w ht (hn t ht) (h3.append h3') (by rw [List.length_append]; omega))
    · cases e
  · cases e
def catT : D → D → Option D
  | .tup a, .tup b => if a.length + b.length ≤ LIM then some (.tup (a ++ b)) else none
  | _, _ => none
theorem opS_catT (hK : X.K = C.K) : OpS C X (binaryOp .Add) catT := by
  refine ⟨_, op_catA, fun H0 g H s x y dx dy d w hn hx hy e Q q => ?_⟩
  rw [hK]
  unfold catT at e
  split at e
  · rename_i a b
    split at e
    · rename_i hz
      cases e
      obtain ⟨p, vs, rfl, h1, h1S, h2, h3⟩ := hx.tup w
      obtain ⟨p', vs', rfl, h1', h1S', h2', h3'⟩ := hy.tup w
      have l1 := h3.length
      have l2 := h3'.length
      have ll := lim_eq
      refine ⟨p, p', vs, vs', rfl, rfl, h1, h1', by omega, fun hv => ?_, fun _ hv => ?_, fun _ _ t ht => ?_⟩
      · subst hv
        cases h3
        exact q g H _ (Fr.refl g H) w (repF_sc (.tup h1S' h2' h3'))
      · subst hv
        cases h3'
        rw [List.append_nil] at q
        exact q g H _ (Fr.refl g H) w (repF_sc (.tup h1S h2 h3))
      · obtain ⟨g', f, w', r⟩ := tup_new w ht (h3.append h3') (by rw [List.length_append]; omega)
        exact q g' _ _ f w' (repF_sc r)
    · cases e
  · cases e
def catS : D → D → Option D
  | .str a, .str b => if a.length + b.length ≤ LIM then some (.str (a ++ b)) else none
  | _, _ => none
theorem opS_catS : OpS C X (binaryOp .Add) catS := by
  refine ⟨_, op_add_str, fun H0 g H s x y dx dy d w hn hx hy e Q q => ?_⟩
  unfold catS at e
  split at e
  · rename_i a b
    split at e
    · rename_i hz
      cases e
      exact ⟨a, b, hx.str, hy.str, by have := lim_eq; omega, q g H _ (Fr.refl g H) w (repF_sc (.str _))⟩
    · cases e
  · cases e
theorem opS_add (hK : X.K = C.K) : OpS C X (binaryOp .Add) (op2 .add) := by
  refine OpS.or (opS_int0 op_add (fun i j => .int (i + j)) (fun _ i j => .int _) fun _ _ _ z => by cases z) (OpS.or opS_catS (OpS.or (opS_catL hK) (opS_catT hK) (op := fun x y => (catL x y).or (catT x y)) ?_) (op := fun x y => (catS x y).or ((catL x y).or (catT x y))) ?_) ?_
  · intro x y d h
    cases e : catL x y with
    | some z => rw [e] at h; exact .inl h
    | none => rw [e] at h; exact .inr h
  · intro x y d h
    cases e : catS x y with
    | some z => rw [e] at h; exact .inl h
    | none => rw [e] at h; exact .inr h
  · intro x y d h
    unfold op2 at h
    split at h <;> first
      | exact .inl (by simpa [opI] using h)
      | exact .inr (by simpa [catS, catL, catT] using h)
      | (exfalso; rename_i z; cases z; done)
      | cases h
      | skip
theorem opS_sub : OpS C X (binaryOp .Sub) (op2 .sub) := OpS.imp (opS_int0 op_sub (fun i j => .int (i - j)) (fun _ i j => .int _) fun _ _ _ z => by cases z) fun x y d h => by
  cases x <;> cases y <;> first
    | exact (by simpa [op2, opI] using h)
    | (simp [op2] at h)
theorem opS_mod : OpS C X (binaryOp .Mod) (op2 .mod) := OpS.imp (opS_int op_mod (fun _ j => decide (0 < j)) (fun i j => .int (i % j)) (fun _ _ h => of_decide_eq_true h) (fun _ i j => .int _) fun _ _ _ z => by cases z) fun x y d h => by
  cases x <;> cases y <;> first
    | exact (by simpa [op2, opI] using h)
    | (simp [op2] at h)
theorem opS_fdiv : OpS C X (binaryOp .FloorDiv) (op2 .fdiv) := OpS.imp (opS_int op_fdivW (fun _ j => decide (0 < j ∧ j.natAbs.log2 < 9000)) (fun i j => .int (i / j)) (fun i j h => by
  have h2 : 0 < j ∧ j.natAbs.log2 < 9000 := of_decide_eq_true h
  exact h2) (fun _ i j => .int _) fun _ _ _ z => by cases z) fun x y d h => by
  cases x <;> cases y <;> first
    | exact (by simpa [op2, opI] using h)
    | (simp [op2] at h)
theorem opS_pow : OpS C X (binaryOp .Pow) (op2 .pow) := OpS.imp (opS_int op_pow (fun i j => decide (0 ≤ j ∧ j ≤ 1000000 ∧ i.natAbs < 18446744073709551616)) (fun i j => .int (i ^ j.toNat)) (fun i j h => by
  have h2 : 0 ≤ j ∧ j ≤ 1000000 ∧ i.natAbs < 18446744073709551616 := of_decide_eq_true h
  exact h2) (fun _ i j => .int _) fun _ _ _ z => by cases z) fun x y d h => by
  cases x <;> cases y <;> first
    | exact (by simpa [op2, opI] using h)
    | (simp [op2] at h)
theorem opS_rep : OpS C X (binaryOp .Mult) (fun _ _ => none) := by
  refine ⟨fun _ _ _ _ => False, fun _ _ _ _ _ _ _ _ _ _ _ _ h => h.elim, fun H0 g H s x y dx dy d w hn hx hy e Q q => ?_⟩
  cases e
def repT : D → D → Option D
  | .tup a, .int b => if b ≤ 1000 ∧ 2 ≤ b ∧ a.length ≤ 1000 ∧ a.isEmpty = false then some (.tup (List.replicate b.toNat a).flatten) else none
  | _, _ => none
theorem len_rep {α : Type} (xs : List α) (n : Nat) : (List.replicate n xs).flatten.length = n * xs.length := by
  simp [List.length_flatten]
theorem opS_repT (hK : X.K = C.K) : OpS C X (binaryOp .Mult) repT := by
  refine ⟨_, op_repT, fun H0 g H s x y dx dy d w hn hx hy e Q q => ?_⟩
  rw [hK]
  unfold repT at e
  split at e
  · rename_i a b
    split at e
    · rename_i hz
      obtain ⟨z1, z2, z3, z4⟩ := hz
      cases e
      obtain ⟨p, vs, rfl, h1, h1S, h2, h3⟩ := hx.tup w
      have l1 := h3.length
      refine ⟨p, b, vs, rfl, hy.int, h1, fun z => ?_, z2, z1, by omega, fun t ht => ?_⟩
      · subst z
        cases h3
        cases z4
      · have hle : b.toNat * vs.length ≤ 1000 * 1000 := Nat.mul_le_mul (by omega) (by omega)
        obtain ⟨g', f, w', r⟩ := tup_new w ht (h3.rep b.toNat) (by
          rw [len_rep]
          exact Nat.le_trans hle (by decide))
        exact q g' _ _ f w' (repF_sc r)
    · cases e
  · cases e
theorem opS_mulI : OpS C X (binaryOp .Mult) (opI (fun i j => decide (i.natAbs < 18446744073709551616 ∨ j.natAbs < 18446744073709551616)) fun i j => .int (i * j)) :=
  opS_int op_mul _ _ (fun i j h => by
    have h2 : i.natAbs < 18446744073709551616 ∨ j.natAbs < 18446744073709551616 := of_decide_eq_true h
    unfold CMul
    omega) (fun _ i j => .int _) fun _ _ _ z => by cases z
theorem opS_mul (hK : X.K = C.K) : OpS C X (binaryOp .Mult) (op2 .mul) := OpS.or opS_mulI (opS_repT hK) fun x y d h => by
  cases x <;> cases y <;> first
    | exact .inl (by simpa [op2, opI] using h)
    | exact .inr (by simpa [op2, repT] using h)
    | (simp [op2] at h)
def opOf : Op2 → Operator
  | .add => .Add
  | .sub => .Sub
  | .mul => .Mult
  | .fdiv => .FloorDiv
  | .mod => .Mod
  | .pow => .Pow
theorem opS_all (hK : X.K = C.K) : ∀ o : Op2, OpS C X (binaryOp (opOf o)) (op2 o)
  | .add => opS_add hK
  | .sub => opS_sub
  | .mul => opS_mul hK
  | .fdiv => opS_fdiv
  | .mod => opS_mod
  | .pow => opS_pow
/-! comparisons -/
def cmpOf : OpC → CmpOp
  | .iss => .Is
  | .nis => .IsNot
  | .lt => .Lt
  | .le => .LtE
  | .gt => .Gt
  | .ge => .GtE
  | .eq => .Eq
  | .ne => .NotEq
  | .inn => .In
  | .nin => .NotIn
mutual
theorem Rep.dp {s : Sto} (w : Wd K g H s) : ∀ {v : V} {d : D}, Rep K g v d → (toPy d).canLay0 = true → Dp K H v (toPy d)
  | _, _, .non, _ => .non
  | _, _, .bl b, _ => .bl b
  | _, _, .int b, _ => .int b
  | _, _, .str b, _ => .str b
  | _, _, .tup h _ r, k => .tup (sqT_mono w.sub h) (r.dp w (by simpa [toPy, PyData.canLay0] using k))
  | _, _, .lst h _ r, k => .lst (sqL_mono w.sub h) (r.dp w (by simpa [toPy, PyData.canLay0] using k))
  | _, _, .box _, k => by simp [toPy, PyData.canLay0] at k
theorem Reps.dp {s : Sto} (w : Wd K g H s) : ∀ {v : List V} {d : List D}, Reps K g v d → PyData.canLayAll0 (toPyL d) = true → DpAll K H v (toPyL d)
  | _, _, .nil, _ => .nil
  | _, _, @Reps.cons _ _ v vs d ds a r, k => by
    have k2 : (toPy d).canLay0 = true ∧ PyData.canLayAll0 (toPyL ds) = true := by simpa [toPyL, PyData.canLayAll0] using k
    exact .cons (a.dp w k2.1) (r.dp w k2.2)
end
theorem shd_lay {d : D} (h : shd d = true) : (toPy d).canLay0 = true := SeqAt.canLay_of_shaped h
theorem RepB.dp {s : Sto} (w : Wd K g H s) {v : V} {d : D} (h : RepB K g H v d) (k : shd d = true) : Dp K H v (toPy d) := by
  rcases h with h | ⟨a, vs, ds, e1, e2, h1, h2, h3, h4, h5⟩
  · exact h.dp w (shd_lay k)
  · subst e1 e2
    exact .lst (.inl (.inl h1)) (h3.dp w (by simpa [toPy, PyData.canLay0] using shd_lay k))
theorem toPyL_map : ∀ l : List D, toPyL l = l.map toPy
  | [] => rfl
  | x :: r => by
    show toPy x :: toPyL r = _
    rw [toPyL_map r]
    rfl
def bx (f : D → D → Option Bool) : D → D → Option D := fun x y => (f x y).map .bl
theorem bx_some {f : D → D → Option Bool} {x y d : D} (h : bx f x y = some d) : ∃ b, f x y = some b ∧ d = .bl b := by
  unfold bx at h
  cases e : f x y with
  | none => rw [e] at h; cases h
  | some b => rw [e] at h; cases h; exact ⟨b, rfl, rfl⟩
theorem opS_cmpI {f : Value → Value → Sem Value} {h : Int → Int → Bool} (R : OpR X f (rI0 fun i j => .bl (h i j))) (op : D → D → Option Bool) (k : ∀ x y b, op x y = some b → ∃ i j, x = .int i ∧ y = .int j ∧ b = h i j) : OpS C X f (bx op) := by
  refine ⟨_, R, fun H0 g H s x y dx dy d w hn hx hy e Q q => ?_⟩
  obtain ⟨b, e1, rfl⟩ := bx_some e
  obtain ⟨i, j, rfl, rfl, rfl⟩ := k _ _ _ e1
  exact ⟨i, j, hx.int, hy.int, q g H _ (Fr.refl g H) w (repF_sc (.bl _))⟩
theorem eqD_some {x y : D} {b : Bool} (h : eqD x y = some b) : shd x = true ∧ shd y = true ∧ b = PyData.eqv (toPy x) (toPy y) := by
  unfold eqD at h
  split at h
  · rename_i k
    cases h
    exact ⟨k.1, k.2, rfl⟩
  · cases h
theorem opS_eq (hK : X.K = C.K) (hu : X.A.units + 65 < cLine) : OpS C X (compareOp .Eq) (bx (opc .eq)) := by
  refine ⟨_, op_eqD (by omega), fun H0 g H s x y dx dy d w hn hx hy e Q q => ?_⟩
  rw [hK]
  obtain ⟨b, e1, rfl⟩ := bx_some e
  obtain ⟨k1, k2, rfl⟩ := eqD_some e1
  exact ⟨_, _, hx.dp w k1, hy.dp w k2, k1, k2, q g H _ (Fr.refl g H) w (repF_sc (.bl _))⟩
theorem opS_ne (hK : X.K = C.K) (hu : X.A.units + 65 < cLine) : OpS C X (compareOp .NotEq) (bx (opc .ne)) := by
  refine ⟨_, op_neD (by omega), fun H0 g H s x y dx dy d w hn hx hy e Q q => ?_⟩
  rw [hK]
  obtain ⟨b, e1, rfl⟩ := bx_some e
  obtain ⟨b', e2, rfl⟩ : ∃ b', eqD dx dy = some b' ∧ b = !b' := by
    have e1' : (eqD dx dy).map (!·) = some b := e1
    cases h : eqD dx dy with
    | none => rw [h] at e1'; cases e1'
    | some c => rw [h] at e1'; cases e1'; exact ⟨c, rfl, rfl⟩
  obtain ⟨k1, k2, rfl⟩ := eqD_some e2
  exact ⟨_, _, hx.dp w k1, hy.dp w k2, k1, k2, q g H _ (Fr.refl g H) w (repF_sc (.bl _))⟩
theorem any_toPy (x : D) (ys : List D) : ((toPyL ys).any fun z => PyData.eqv z (toPy x)) = ys.any fun z => PyData.eqv (toPy z) (toPy x) := by
  rw [toPyL_map, List.any_map]
  rfl
end
/-! x in t over data, a tuple -/
section
variable {X : Cx}
def rInDT (K : PySem.W.Frag) : R2 := fun x y H Q => ∃ d ds, Dp K H x d ∧ Dp K H y (.tuple ds) ∧ SeqAt.shaped d = true ∧ SeqAt.shaped (.tuple ds) = true ∧ Q (.bl (ds.any fun z => PyData.eqv z d)) H
def rNotInDT (K : PySem.W.Frag) : R2 := fun x y H Q => ∃ d ds, Dp K H x d ∧ Dp K H y (.tuple ds) ∧ SeqAt.shaped d = true ∧ SeqAt.shaped (.tuple ds) = true ∧ Q (.bl (!ds.any fun z => PyData.eqv z d)) H
theorem op_inDT (hu : X.A.units + 65 < cLine) : OpR X (compareOp .In) (rInDT X.K) := by
  intro pins s σ H x y v u Q I rx ry h
  obtain ⟨d, ds, hd, he, sd, se, q⟩ := h
  obtain ⟨as, r1⟩ := Dp.reads I d x v hd rx
  obtain ⟨bs, r2⟩ := Dp.reads I (.tuple ds) y u he ry
  exact SeqAt.in_tuple_reads r2 r1 (SeqAt.canLay_of_shaped se) (SeqAt.canLay_of_shaped sd) (room_in_shaped sd hu) ⟨.bl _, H, I, rfl, q⟩
theorem op_notInDT (hu : X.A.units + 65 < cLine) : OpR X (compareOp .NotIn) (rNotInDT X.K) := by
  intro pins s σ H x y v u Q I rx ry h
  obtain ⟨d, ds, hd, he, sd, se, q⟩ := h
  obtain ⟨as, r1⟩ := Dp.reads I d x v hd rx
  obtain ⟨bs, r2⟩ := Dp.reads I (.tuple ds) y u he ry
  exact SeqAt.notIn_tuple_reads r2 r1 (SeqAt.canLay_of_shaped se) (SeqAt.canLay_of_shaped sd) (room_in_shaped sd hu) ⟨.bl _, H, I, rfl, q⟩
end
section
variable {C : Cfg} {X : Cx} {K : PySem.W.Frag} {g : Gh} {H : Hp}
theorem inD_some {x y : D} {b : Bool} (h : inD x y = some b) : shd x = true ∧ shd y = true ∧ ((∃ ys, y = .lst ys ∧ b = ys.any fun z => PyData.eqv (toPy z) (toPy x)) ∨ ∃ ys, y = .tup ys ∧ b = ys.any fun z => PyData.eqv (toPy z) (toPy x)) := by
  unfold inD at h
  split at h
  · split at h
    · rename_i k
      cases h
      exact ⟨k.1, k.2, .inl ⟨_, rfl, rfl⟩⟩
    · cases h
  · split at h
    · rename_i k
      cases h
      exact ⟨k.1, k.2, .inr ⟨_, rfl, rfl⟩⟩
    · cases h
  · cases h
theorem opS_in (hK : X.K = C.K) (hu : X.A.units + 65 < cLine) : OpS C X (compareOp .In) (bx (opc .inn)) := by
  refine ⟨_, (op_inD hu).or (op_inDT hu), fun H0 g H s x y dx dy d w hn hx hy e Q q => ?_⟩
  rw [hK]
  obtain ⟨b, e1, rfl⟩ := bx_some e
  obtain ⟨k1, k2, h⟩ := inD_some e1
  rcases h with ⟨ys, rfl, rfl⟩ | ⟨ys, rfl, rfl⟩
  · refine .inl ⟨_, toPyL ys, hx.dp w k1, hy.dp w k2, k1, k2, ?_⟩
    rw [any_toPy]
    exact q g H _ (Fr.refl g H) w (repF_sc (.bl _))
  · refine .inr ⟨_, toPyL ys, hx.dp w k1, hy.dp w k2, k1, k2, ?_⟩
    rw [any_toPy]
    exact q g H _ (Fr.refl g H) w (repF_sc (.bl _))
theorem opS_nin (hK : X.K = C.K) (hu : X.A.units + 65 < cLine) : OpS C X (compareOp .NotIn) (bx (opc .nin)) := by
  refine ⟨_, (op_notInD hu).or (op_notInDT hu), fun H0 g H s x y dx dy d w hn hx hy e Q q => ?_⟩
  rw [hK]
  obtain ⟨b, e1, rfl⟩ := bx_some e
  obtain ⟨b', e2, rfl⟩ : ∃ b', inD dx dy = some b' ∧ b = !b' := by
    have e1' : (inD dx dy).map (!·) = some b := e1
    cases h : inD dx dy with
    | none => rw [h] at e1'; cases e1'
    | some c => rw [h] at e1'; cases e1'; exact ⟨c, rfl, rfl⟩
  obtain ⟨k1, k2, h⟩ := inD_some e2
  rcases h with ⟨ys, rfl, rfl⟩ | ⟨ys, rfl, rfl⟩
  · refine .inl ⟨_, toPyL ys, hx.dp w k1, hy.dp w k2, k1, k2, ?_⟩
    rw [any_toPy]
    exact q g H _ (Fr.refl g H) w (repF_sc (.bl _))
  · refine .inr ⟨_, toPyL ys, hx.dp w k1, hy.dp w k2, k1, k2, ?_⟩
    rw [any_toPy]
    exact q g H _ (Fr.refl g H) w (repF_sc (.bl _))
theorem reps_intsL {g : Gh} : ∀ {vs : List V} {ds : List D} {ns : List Int}, Reps K g vs ds → intsOf ds = some ns → vs = ns.map V.int
  | _, [], _, h, e => by
    cases h
    cases e
    rfl
  | _, .int i :: r, ns, h, e => by
    cases h with
    | cons h1 h2 =>
      unfold intsOf at e
      cases e2 : intsOf r with
      | none => rw [e2] at e; cases e
      | some m =>
        rw [e2] at e
        cases e
        cases h1
        rw [reps_intsL h2 e2]
        rfl
  | _, .non :: _, _, _, e => by cases e
  | _, .bl _ :: _, _, _, e => by cases e
  | _, .str _ :: _, _, _, e => by cases e
  | _, .tup _ :: _, _, _, e => by cases e
  | _, .lst _ :: _, _, _, e => by cases e
  | _, .box _ :: _, _, _, e => by cases e
def ltI : D → D → Option Bool
  | .int a, .int b => some (decide (a < b))
  | _, _ => none
def ltU : D → D → Option Bool
  | .tup a, .tup b => ltT a b
  | _, _ => none
theorem opS_ltU (hK : X.K = C.K) (hu : X.A.units < cLine) : OpS C X (compareOp .Lt) (bx ltU) := by
  refine ⟨_, op_ltT hu, fun H0 g H s x y dx dy d w hn hx hy e Q q => ?_⟩
  rw [hK]
  obtain ⟨b, e1, rfl⟩ := bx_some e
  cases dx with
  | tup xs =>
    cases dy with
    | tup ys =>
      have e1 : ltT xs ys = some b := e1
      unfold ltT at e1
      cases e2 : intsOf xs with
      | none => rw [e2] at e1; cases e1
      | some ns =>
        cases e3 : intsOf ys with
        | none => rw [e2, e3] at e1; cases e1
        | some ms =>
          rw [e2, e3] at e1
          cases e1
          obtain ⟨p, us, rfl, h1, _, _, h2⟩ := hx.tup w
          obtain ⟨p', us', rfl, h1', _, _, h2'⟩ := hy.tup w
          rw [reps_intsL h2 e2] at h1
          rw [reps_intsL h2' e3] at h1'
          exact ⟨p, p', ns, ms, rfl, rfl, h1, h1', q g H _ (Fr.refl g H) w (repF_sc (.bl _))⟩
    | _ => cases e1
  | _ => cases e1
theorem opS_ltA (hK : X.K = C.K) (hu : X.A.units < cLine) : OpS C X (compareOp .Lt) (bx (opc .lt)) := OpS.or (opS_cmpI op_lt ltI fun x y b h => by
    cases x <;> cases y <;> simp [ltI] at h <;> exact ⟨_, _, rfl, rfl, h.symm⟩) (opS_ltU hK hu) fun x y d h => by
  obtain ⟨b, e, rfl⟩ := bx_some h
  cases x with
  | int i =>
    cases y with
    | int j => exact .inl h
    | _ => cases e
  | tup xs =>
    cases y with
    | tup ys => exact .inr h
    | _ => cases e
  | _ => cases y <;> cases e
theorem opS_cmp (hK : X.K = C.K) (hu : X.A.units + 65 < cLine) : ∀ o : OpC, OpS C X (compareOp (cmpOf o)) (bx (opc o))
  | .lt => opS_ltA hK (by omega)
  | .le => opS_cmpI op_le _ fun x y b h => by
    cases x <;> cases y <;> simp [opc] at h <;> exact ⟨_, _, rfl, rfl, h.symm⟩
  | .gt => opS_cmpI op_gt _ fun x y b h => by
    cases x <;> cases y <;> simp [opc] at h <;> exact ⟨_, _, rfl, rfl, h.symm⟩
  | .ge => opS_cmpI op_ge _ fun x y b h => by
    cases x <;> cases y <;> simp [opc] at h <;> exact ⟨_, _, rfl, rfl, h.symm⟩
  | .eq => opS_eq hK hu
  | .ne => opS_ne hK hu
  | .inn => opS_in hK hu
  | .nin => opS_nin hK hu
  | .iss => by
    refine ⟨_, op_isBl, fun H0 g H s x y dx dy d w hn hx hy e Q q => ?_⟩
    obtain ⟨b, e1, rfl⟩ := bx_some e
    cases dx with
    | bl i =>
      cases dy with
      | bl j =>
        cases e1
        exact ⟨i, j, hx.bl, hy.bl, q g H _ (Fr.refl g H) w (repF_sc (.bl _))⟩
      | _ => cases e1
    | _ => cases e1
  | .nis => by
    refine ⟨_, op_notBl, fun H0 g H s x y dx dy d w hn hx hy e Q q => ?_⟩
    obtain ⟨b, e1, rfl⟩ := bx_some e
    cases dx with
    | bl i =>
      cases dy with
      | bl j =>
        cases e1
        exact ⟨i, j, hx.bl, hy.bl, q g H _ (Fr.refl g H) w (repF_sc (.bl _))⟩
      | _ => cases e1
    | _ => cases e1
end
end Mi
end
section
set_option Elab.async false
set_option linter.all false
set_option maxRecDepth 100000
set_option maxHeartbeats 1000000
/-! Mi3: expressions. -/
namespace Mi
open PySem PySem.Spec PyProof.Rows L2
theorem Post.impE {α : Type} {C : Cfg} {E : XK} {g : Gh} {H : Hp} {k k' : α → Sto → Gh → Hp → Prop} : ∀ {r : Res α}, (∀ a s g' H', r = .ok a s → Fr g H g' H' → Wd C.K g' H' s → k a s g' H' → k' a s g' H') → Post C E g H k r → Post C E g H k' r
  | .ok a s, i, h => fun g' H' f w => i a s g' H' rfl f w (h g' H' f w)
  | .exc _ _ _, _, h => h
  | .stuck, _, h => h
section
variable {C : Cfg} {E : XK} {X : Cx} {a b c : Expr} {fa fb fc : Ev → M D} {pos : Pos}
theorem df_bin {op : Operator} {k : D → D → Option D} (ho : OpS C X (binaryOp op) k) (ha : DB C E X a fa) (hb : DB C E X b fb) : DF C E X (.BinOp a op b pos) (fun ρ => bnd (fa ρ) fun x => bnd (fb ρ) fun y => lif (k x y)) := by
  obtain ⟨r, r1, r2⟩ := ho
  refine ⟨PE.imp (pe_op r1 ha.pe hb.pe) fun σ H Q ⟨g, ρ, s, w, R, p⟩ => ?_⟩
  refine ⟨g, ρ, s, w, R, p.bnd.imp fun x s1 g1 H1 f1 w1 k1 vx hx => ⟨g1, ρ, s1, w1, R.fr f1, k1.bnd.imp fun y s2 g2 H2 f2 w2 k2 vy hy => ?_⟩⟩
  obtain ⟨d, e, k3⟩ := k2.lif
  exact r2 H g2 H2 s2 vx vy x y d w2 (fun a h => f1.there a (f2.there a h)) (hx.fr f2) hy e Q fun g3 H3 v f3 w3 rf => k3 g3 H3 f3 w3 v rf
/-- [..] * n -/
theorem df_rep (ha : DF C E X a fa) (hb : DB C E X b fb) : DF C E X (.BinOp a .Mult b pos) (fun ρ => bnd (fa ρ) fun x => bnd (fb ρ) fun y => lif (repL x y)) := by
  refine ⟨PE.imp (pe_op op_rep ha.pe hb.pe) fun σ H Q ⟨g, ρ, s, w, R, p⟩ => ?_⟩
  refine ⟨g, ρ, s, w, R, p.bnd.imp fun x s1 g1 H1 f1 w1 k1 vx hx => ⟨g1, ρ, s1, w1, R.fr f1, k1.bnd.imp fun y s2 g2 H2 f2 w2 k2 vy hy => ?_⟩⟩
  obtain ⟨d, e, k3⟩ := k2.lif
  unfold repL at e
  split at e
  · rename_i xs i
    split at e
    · rename_i hz
      obtain ⟨z1, z2, z3⟩ := hz
      cases e
      obtain ⟨p, vs, rfl, h0, h1, h2, h3, h4, h5⟩ := hx.1 xs rfl
      have l1 := h3.length
      have hle : i.toNat * vs.length ≤ 1000 * 1000 := Nat.mul_le_mul (by omega) (by omega)
      refine ⟨p, i, vs, rfl, hy.int, f2.keep p _ h1 h5, by omega, by omega, by rw [Nat.mul_comm]; exact Nat.le_trans hle (by decide), fun t ht => ?_⟩
      exact k3 g2 _ (fr_new ht) (w2.new ht) _ (repF_new w2 ht (f1.there t (f2.there t ht)) ((h3.mono f2.le).rep i.toNat) (by rw [len_rep]; exact Nat.le_trans hle (by decide)))
    · cases e
  · cases e
theorem rep_bl {K : PySem.W.Frag} {H0 : Hp} {g : Gh} {H : Hp} {v : V} {b : Bool} (h : RepF K H0 g H v (.bl b)) : Rep K g v (.bl b) := h.2 fun _ z => by cases z
theorem de_cmp {op : CmpOp} {k : D → D → Option Bool} (ho : OpS C X (compareOp op) (bx k)) (ha : DB C E X a fa) (hb : DB C E X b fb) (hm : behindInMarks op b = false) : DE C E X (.Compare a [op] [b] pos) (fun ρ => bnd (fa ρ) fun x => bnd (fb ρ) fun y => lif ((k x y).map .bl)) := by
  obtain ⟨r, r1, r2⟩ := ho
  refine ⟨PE.imp (pe_cmpR r1 ha.pe hb.pe hm) fun σ H Q ⟨g, ρ, s, w, R, p⟩ => ?_⟩
  refine ⟨g, ρ, s, w, R, p.bnd.imp fun x s1 g1 H1 f1 w1 k1 vx hx => ⟨g1, ρ, s1, w1, R.fr f1, k1.bnd.imp fun y s2 g2 H2 f2 w2 k2 vy hy => ?_⟩⟩
  obtain ⟨d, e, k3⟩ := k2.lif
  obtain ⟨b', _, rfl⟩ := bx_some (f := k) (show bx k x y = some d from e)
  exact r2 H g2 H2 s2 vx vy x y _ w2 (fun a h => f1.there a (f2.there a h)) (hx.fr f2) hy e Q fun g3 H3 v f3 w3 rf => k3 g3 H3 f3 w3 v (rep_bl rf)
/-- a test of an expression -/
theorem bnd_bnd {α β γ : Type} (m : M α) (f : α → M β) (h : β → M γ) : bnd (bnd m f) h = bnd m fun x => bnd (f x) h := by
  funext s
  unfold bnd
  cases m s <;> rfl
theorem dt_cmp {op : CmpOp} {k : D → D → Option Bool} (ho : OpS C X (compareOp op) (bx k)) (ha : DB C E X a fa) (hb : DB C E X b fb) (hm : behindInMarks op b = false) : DT C E X (.Compare a [op] [b] pos) (fun ρ => bnd (bnd (fa ρ) fun x => bnd (fb ρ) fun y => lif ((k x y).map .bl)) fun x => lif (asB x)) := by
  obtain ⟨r, r1, r2⟩ := ho
  refine ⟨PT.imp (pt_cmpR r1 ha.pe hb.pe hm) fun σ H Q ⟨g, ρ, s, w, R, p⟩ => ?_⟩
  refine ⟨g, ρ, s, w, R, p.bnd.bnd.imp fun x s1 g1 H1 f1 w1 k1 vx hx => ⟨g1, ρ, s1, w1, R.fr f1, ?_⟩⟩
  refine k1.bnd.imp fun y s2 g2 H2 f2 w2 k2 vy hy => ?_
  obtain ⟨d, e, k3⟩ := k2.lif
  obtain ⟨b', e', rfl⟩ := bx_some (f := k) (show bx k x y = some d from e)
  refine r2 H g2 H2 s2 vx vy x y _ w2 (fun a h => f1.there a (f2.there a h)) (hx.fr f2) hy e _ fun g3 H3 v f3 w3 rf => ⟨b', ?_, ?_⟩
  · have := rep_bl rf
    cases this
    rfl
  · exact (k3 g3 H3 f3 w3).pur w3
theorem dt_of (h : DE C E X a fa) (he : ∀ whole, isTrue a X.env whole = (do let v ← whole; standAt a.pos; holding [v] (truthy v))) : DT C E X a (fun ρ => bnd (fa ρ) fun x => lif (asB x)) := by
  refine ⟨PT.imp (pt_val h.pe he) fun σ H Q ⟨g, ρ, s, w, R, p⟩ => ⟨g, ρ, s, w, R, p.bnd.imp fun x s1 g1 H1 f1 w1 k1 v hv => ?_⟩⟩
  obtain ⟨b, e, k2⟩ := k1.lif
  cases x with
  | bl c =>
    cases e
    cases hv
    exact ⟨b, rfl, k2.pur w1⟩
  | _ => cases e
/-! names, constants -/
theorem de_var {i : Nat} {x : Str} (hN : X.N[i]? = some x) (hv : Vis X.env.scope x) (hd : (x == ("__debug__" : Str)) = false) (hcd : (x == ("__classdict__" : Str)) = false) : DE C E X (.Name x pos) (fun ρ => lif (getV ρ i)) := by
  refine ⟨PE.imp (pe_var hN hv hd hcd) fun σ H Q ⟨g, ρ, s, w, R, p⟩ => ?_⟩
  obtain ⟨d, e, k⟩ := p.lif
  obtain ⟨v, h1, h2⟩ := R.val i d (getV_some e)
  exact ⟨v, h1, k.pur w v h2⟩
theorem db_own {i : Nat} {x : Str} (hN : X.N[i]? = some x) (hv : Vis X.env.scope x) (hd : (x == ("__debug__" : Str)) = false) (hcd : (x == ("__classdict__" : Str)) = false) : DB C E X (.Name x pos) (fun ρ => lif ((getO ρ i).map .lst)) := by
  refine ⟨PE.imp (pe_var hN hv hd hcd) fun σ H Q ⟨g, ρ, s, w, R, p⟩ => ?_⟩
  obtain ⟨d, e, k⟩ := p.lif
  cases e1 : getO ρ i with
  | none => rw [e1] at e; cases e
  | some ds =>
    rw [e1] at e
    cases e
    obtain ⟨a, vs, h1, h2, h3, h4, h5, h6⟩ := R.own i ds (getO_some e1)
    exact ⟨.ref a, h1, k.pur w _ (.inr ⟨a, vs, ds, rfl, rfl, h2, h3, h4, h5, h6⟩)⟩
theorem de_const {e : Expr} {v : V} {d : D} (h : PE X e (tC v)) (r : ∀ g, Rep C.K g v d) : DE C E X e (fun _ => pur d) :=
  ⟨PE.imp h fun σ H Q ⟨g, ρ, s, w, R, p⟩ => p.pur w v (r g)⟩
/-- a module's value -/
theorem de_glob {x : Str} {v : V} {u : Value} {d : D} (hg : Gl X x) (hm : X.mg x = some u) (r : RelV v u) (hd : (x == ("__debug__" : Str)) = false) (k : ∀ g, Rep C.K g v d) : DE C E X (.Name x pos) (fun _ => pur d) := de_const (pe_glob hg hm r hd) k
/-! unary, is -/
theorem de_neg (ha : DE C E X a fa) : DE C E X (.UnaryOp .USub a pos) (fun ρ => bnd (fa ρ) fun x => lif ((asI x).map fun i => .int (-i))) := by
  refine ⟨PE.imp (pe_un un_neg ha.pe) fun σ H Q ⟨g, ρ, s, w, R, p⟩ => ⟨g, ρ, s, w, R, p.bnd.imp fun x s1 g1 H1 f1 w1 k1 v hv => ?_⟩⟩
  obtain ⟨d, e, k2⟩ := k1.lif
  cases x with
  | int c =>
    cases e
    cases hv
    exact ⟨c, rfl, k2.pur w1 _ (.int _)⟩
  | _ => cases e
theorem non_iff {K : PySem.W.Frag} {g : Gh} {v : V} {d : D} (h : Rep K g v d) : decide (v = .non) = isNon d := by
  cases h <;> rfl
theorem de_isn {j pos'} (ha : DE C E X a fa) : DE C E X (.Compare a [.Is] [.Constant .none j pos'] pos) (fun ρ => bnd (fa ρ) fun x => pur (.bl (isNon x))) := by
  refine ⟨PE.imp (pe_cmp (pc_isN ha.pe) rfl) fun σ H Q ⟨g, ρ, s, w, R, p⟩ => ⟨g, ρ, s, w, R, p.bnd.imp fun x s1 g1 H1 f1 w1 k1 v hv => ?_⟩⟩
  show Q (V.bl (decide (v = V.non))) H1
  rw [non_iff hv]
  exact k1.pur w1 _ (.bl _)
theorem de_notn {j pos'} (ha : DE C E X a fa) : DE C E X (.Compare a [.IsNot] [.Constant .none j pos'] pos) (fun ρ => bnd (fa ρ) fun x => pur (.bl (!isNon x))) := by
  refine ⟨PE.imp (pe_cmp (pc_notN ha.pe) rfl) fun σ H Q ⟨g, ρ, s, w, R, p⟩ => ⟨g, ρ, s, w, R, p.bnd.imp fun x s1 g1 H1 f1 w1 k1 v hv => ?_⟩⟩
  show Q (V.bl (!decide (v = V.non))) H1
  rw [non_iff hv]
  exact k1.pur w1 _ (.bl _)
theorem pt_isn {j pos'} (ha : DE C E X a fa) : DT C E X (.Compare a [.Is] [.Constant .none j pos'] pos) (fun ρ => bnd (bnd (fa ρ) fun x => pur (.bl (isNon x))) fun x => lif (asB x)) := by
  refine ⟨PT.imp (pt_cmp (pc_isN ha.pe) rfl) fun σ H Q ⟨g, ρ, s, w, R, p⟩ => ?_⟩
  refine ⟨g, ρ, s, w, R, p.bnd.bnd.imp fun x s1 g1 H1 f1 w1 k1 v hv => ⟨_, rfl, ?_⟩⟩
  show Q (decide (v = V.non)) H1
  rw [non_iff hv]
  exact (k1.pur w1).pur w1
theorem pt_notn {j pos'} (ha : DE C E X a fa) : DT C E X (.Compare a [.IsNot] [.Constant .none j pos'] pos) (fun ρ => bnd (bnd (fa ρ) fun x => pur (.bl (!isNon x))) fun x => lif (asB x)) := by
  refine ⟨PT.imp (pt_cmp (pc_notN ha.pe) rfl) fun σ H Q ⟨g, ρ, s, w, R, p⟩ => ?_⟩
  refine ⟨g, ρ, s, w, R, p.bnd.bnd.imp fun x s1 g1 H1 f1 w1 k1 v hv => ⟨_, rfl, ?_⟩⟩
  show Q (!decide (v = V.non)) H1
  rw [non_iff hv]
  exact (k1.pur w1).pur w1
/-! and, or, not, if -/
theorem de_and {rest : List Expr} (ha : DE C E X a fa) (hb : DE C E X (.BoolOp .And (b :: rest) pos) fb) : DE C E X (.BoolOp .And (a :: b :: rest) pos) (fun ρ => bnd (fa ρ) fun x => bnd (lif (asB x)) fun c => match c with
    | true => bnd (fb ρ) fun y => lif ((asB y).map .bl)
    | false => pur (.bl false)) := by
  refine ⟨PE.imp (pe_and ha.pe hb.pe) fun σ H Q ⟨g, ρ, s, w, R, p⟩ => ⟨g, ρ, s, w, R, p.bnd.imp fun x s1 g1 H1 f1 w1 k1 v hv => ?_⟩⟩
  obtain ⟨c, e, k2⟩ := k1.bnd.lif
  have k3 := k2.pur w1
  cases x with
  | bl c' =>
    cases e
    cases hv
    refine ⟨c, rfl, ?_⟩
    cases c with
    | true =>
      refine ⟨g1, ρ, s1, w1, R.fr f1, k3.bnd.imp fun y s2 g2 H2 f2 w2 k4 v2 hv2 => ?_⟩
      obtain ⟨d, e2, k5⟩ := k4.lif
      cases y with
      | bl c2 => cases e2; exact k5.pur w2 v2 hv2
      | _ => cases e2
    | false => exact k3.pur w1 _ (.bl _)
  | _ => cases e
theorem de_or {rest : List Expr} (ha : DE C E X a fa) (hb : DE C E X (.BoolOp .Or (b :: rest) pos) fb) : DE C E X (.BoolOp .Or (a :: b :: rest) pos) (fun ρ => bnd (fa ρ) fun x => bnd (lif (asB x)) fun c => match c with
    | true => pur (.bl true)
    | false => bnd (fb ρ) fun y => lif ((asB y).map .bl)) := by
  refine ⟨PE.imp (pe_or ha.pe hb.pe) fun σ H Q ⟨g, ρ, s, w, R, p⟩ => ⟨g, ρ, s, w, R, p.bnd.imp fun x s1 g1 H1 f1 w1 k1 v hv => ?_⟩⟩
  obtain ⟨c, e, k2⟩ := k1.bnd.lif
  have k3 := k2.pur w1
  cases x with
  | bl c' =>
    cases e
    cases hv
    refine ⟨c, rfl, ?_⟩
    cases c with
    | false =>
      refine ⟨g1, ρ, s1, w1, R.fr f1, k3.bnd.imp fun y s2 g2 H2 f2 w2 k4 v2 hv2 => ?_⟩
      obtain ⟨d, e2, k5⟩ := k4.lif
      cases y with
      | bl c2 => cases e2; exact k5.pur w2 v2 hv2
      | _ => cases e2
    | true => exact k3.pur w1 _ (.bl _)
  | _ => cases e
theorem de_one {op} (ha : DE C E X a fa) : DE C E X (.BoolOp op [a] pos) fa := ⟨pe_one ha.pe⟩
theorem de_not (ha : DE C E X a fa) : DE C E X (.UnaryOp .Not a pos) (fun ρ => bnd (fa ρ) fun x => lif ((asB x).map fun c => .bl (!c))) := by
  refine ⟨PE.imp (pe_not ha.pe) fun σ H Q ⟨g, ρ, s, w, R, p⟩ => ⟨g, ρ, s, w, R, p.bnd.imp fun x s1 g1 H1 f1 w1 k1 v hv => ?_⟩⟩
  obtain ⟨d, e, k2⟩ := k1.lif
  cases x with
  | bl c =>
    cases e
    cases hv
    exact ⟨c, rfl, k2.pur w1 _ (.bl _)⟩
  | _ => cases e
/-- tests: the same results, asked for their truth -/
structure DW (C : Cfg) (E : XK) (X : Cx) (e : Expr) (f : Ev → M Bool) : Prop where
  pw : PW X e (tDT C E f)
theorem PW.imp {X : Cx} {e : Expr} {t t' : TT} (h : PW X e t) (i : ∀ σ H Q, t' σ H Q → t σ H Q) : PW X e t' := ⟨fun wh pins s σ H Q I q => h.run wh pins s σ H Q I (i σ H Q q)⟩
theorem DW.dt {e : Expr} {f : Ev → M Bool} (h : DW C E X e f) : DT C E X e f := ⟨h.pw.pt⟩
variable {ga gb : Ev → M Bool}
theorem dw_and1 (ha : DT C E X a ga) : DW C E X (.BoolOp .And [a] pos) ga := ⟨pw_and1 ha.pt⟩
theorem dw_or1 (ha : DT C E X a ga) : DW C E X (.BoolOp .Or [a] pos) ga := ⟨pw_or1 ha.pt⟩
theorem dw_and {rest : List Expr} (ha : DT C E X a ga) (hb : DW C E X (.BoolOp .And (b :: rest) pos) gb) : DW C E X (.BoolOp .And (a :: b :: rest) pos) (fun ρ => bnd (ga ρ) fun c => match c with | true => gb ρ | false => pur false) := by
  refine ⟨PW.imp (pw_and ha.pt hb.pw) fun σ H Q ⟨g, ρ, s, w, R, p⟩ => ⟨g, ρ, s, w, R, p.bnd.imp fun c s1 g1 H1 f1 w1 k1 => ?_⟩⟩
  cases c with
  | true => exact ⟨g1, ρ, s1, w1, R.fr f1, k1⟩
  | false => exact k1.pur w1
theorem dw_or {rest : List Expr} (ha : DT C E X a ga) (hb : DW C E X (.BoolOp .Or (b :: rest) pos) gb) : DW C E X (.BoolOp .Or (a :: b :: rest) pos) (fun ρ => bnd (ga ρ) fun c => match c with | true => pur true | false => gb ρ) := by
  refine ⟨PW.imp (pw_or ha.pt hb.pw) fun σ H Q ⟨g, ρ, s, w, R, p⟩ => ⟨g, ρ, s, w, R, p.bnd.imp fun c s1 g1 H1 f1 w1 k1 => ?_⟩⟩
  cases c with
  | false => exact ⟨g1, ρ, s1, w1, R.fr f1, k1⟩
  | true => exact k1.pur w1
theorem dt_not (ha : DT C E X a ga) : DT C E X (.UnaryOp .Not a pos) (fun ρ => bnd (ga ρ) fun c => pur (!c)) := by
  refine ⟨PT.imp (pt_not ha.pt) fun σ H Q ⟨g, ρ, s, w, R, p⟩ => ⟨g, ρ, s, w, R, p.bnd.imp fun c s1 g1 H1 f1 w1 k1 => k1.pur w1⟩⟩
/-- another function of the same results -/
theorem DT.eq {e : Expr} {f f' : Ev → M Bool} (h : DT C E X e f) (i : ∀ ρ s g H k, Post C E g H k (f' ρ s) → Post C E g H k (f ρ s)) : DT C E X e f' := ⟨PT.imp h.pt fun σ H Q ⟨g, ρ, s, w, R, p⟩ => ⟨g, ρ, s, w, R, i ρ s g H _ p⟩⟩
theorem DW.eq {e : Expr} {f f' : Ev → M Bool} (h : DW C E X e f) (i : ∀ ρ s g H k, Post C E g H k (f' ρ s) → Post C E g H k (f ρ s)) : DW C E X e f' := ⟨PW.imp h.pw fun σ H Q ⟨g, ρ, s, w, R, p⟩ => ⟨g, ρ, s, w, R, i ρ s g H _ p⟩⟩
theorem de_ife (hc : DT C E X c ga) (ha : DE C E X a fa) (hb : DE C E X b fb) : DE C E X (.IfExp c a b pos) (fun ρ => bnd (ga ρ) fun k => match k with | true => fa ρ | false => fb ρ) := by
  refine ⟨PE.imp (pe_ifExp hc.pt ha.pe hb.pe) fun σ H Q ⟨g, ρ, s, w, R, p⟩ => ⟨g, ρ, s, w, R, p.bnd.imp fun c s1 g1 H1 f1 w1 k1 => ?_⟩⟩
  cases c with
  | true => exact ⟨g1, ρ, s1, w1, R.fr f1, k1⟩
  | false => exact ⟨g1, ρ, s1, w1, R.fr f1, k1⟩
end
end Mi
end
section
set_option Elab.async false
set_option linter.all false
set_option maxRecDepth 100000
set_option maxHeartbeats 1000000
/-! Mi4: displays, places, slices, calls, built-ins, what is walked, comprehensions. -/
namespace Mi
open PySem PySem.Spec PyProof.Rows L2
section
variable {C : Cfg} {E : XK} {X : Cx} {a b c e : Expr} {es : List Expr} {fa fb fc : Ev → M D} {fl : Ev → M (List D)} {pos : Pos} {K : PySem.W.Frag} {g : Gh} {H : Hp}
/-! argument lists -/
theorem da_nil : DA C E X [] (fun _ => pur []) := ⟨PA.imp pa_nil fun σ H Q ⟨g, ρ, s, w, R, p⟩ => p.pur w [] .nil⟩
theorem da_cons (ha : DE C E X e fa) (hr : DA C E X es fl) (hs : starEach (e :: es) X.env = (false, eval e X.env) :: starEach es X.env) : DA C E X (e :: es) (fun ρ => bnd (fa ρ) fun x => bnd (fl ρ) fun xs => pur (x :: xs)) := by
  refine ⟨PA.imp (pa_cons ha.pe hr.pa hs) fun σ H Q ⟨g, ρ, s, w, R, p⟩ => ⟨g, ρ, s, w, R, p.bnd.imp fun x s1 g1 H1 f1 w1 k1 v hv => ⟨g1, ρ, s1, w1, R.fr f1, k1.bnd.imp fun xs s2 g2 H2 f2 w2 k2 vs hvs => ?_⟩⟩⟩
  exact k2.pur w2 (v :: vs) (.cons (hv.mono f2.le) hvs)
theorem RepsB.fr {g' : Gh} {H' : Hp} (f : Fr g H g' H') : ∀ {vs : List V} {ds : List D}, RepsB K g H vs ds → RepsB K g' H' vs ds
  | _, _, .nil => .nil
  | _, _, .cons a r => .cons (a.fr f) (r.fr f)
theorem dab_nil : DAB C E X [] (fun _ => pur []) := ⟨PA.imp pa_nil fun σ H Q ⟨g, ρ, s, w, R, p⟩ => p.pur w [] .nil⟩
theorem dab_cons (ha : DB C E X e fa) (hr : DAB C E X es fl) (hs : starEach (e :: es) X.env = (false, eval e X.env) :: starEach es X.env) : DAB C E X (e :: es) (fun ρ => bnd (fa ρ) fun x => bnd (fl ρ) fun xs => pur (x :: xs)) := by
  refine ⟨PA.imp (pa_cons ha.pe hr.pa hs) fun σ H Q ⟨g, ρ, s, w, R, p⟩ => ⟨g, ρ, s, w, R, p.bnd.imp fun x s1 g1 H1 f1 w1 k1 v hv => ⟨g1, ρ, s1, w1, R.fr f1, k1.bnd.imp fun xs s2 g2 H2 f2 w2 k2 vs hvs => ?_⟩⟩⟩
  exact k2.pur w2 (v :: vs) (.cons (RepB.fr f2 hv) hvs)
/-! displays -/
theorem de_tup {k : Nat} (h : DA C E X es fl) (hl : ∀ ρ s xs s', fl ρ s = .ok xs s' → xs.length ≤ LIM) : DE C E X (.Tuple es k pos) (fun ρ => bnd (fl ρ) fun xs => pur (.tup xs)) := by
  refine ⟨PE.imp (pe_tup h.pa) fun σ H Q ⟨g, ρ, s, w, R, p⟩ => ⟨g, ρ, s, w, R, p.bnd.impE fun xs s1 g1 H1 eq f1 w1 k1 vs hv => ?_⟩⟩
  have l := hl ρ s xs s1 eq
  have l2 := hv.length
  have ll := lim_eq
  refine ⟨by omega, fun t ht => ?_⟩
  obtain ⟨g', f, w', r⟩ := tup_new w1 ht hv (by omega)
  exact k1.at f w' _ r
theorem df_lst (h : DA C E X es fl) (hl : ∀ ρ s xs s', fl ρ s = .ok xs s' → xs.length ≤ LIM) : DF C E X (.List es pos) (fun ρ => bnd (fl ρ) fun xs => pur (.lst xs)) := by
  refine ⟨PE.imp (pe_lst h.pa) fun σ H Q ⟨g, ρ, s, w, R, p⟩ => ⟨g, ρ, s, w, R, p.bnd.impE fun xs s1 g1 H1 eq f1 w1 k1 vs hv => ?_⟩⟩
  have l := hl ρ s xs s1 eq
  have l2 := hv.length
  have ll := lim_eq
  refine ⟨by omega, fun t ht => ?_⟩
  exact k1.at (fr_new ht) (w1.new ht) _ (repF_new w1 ht (f1.there t ht) hv (by omega))
/-- a list that is kept as a box -/
theorem de_mkb (h : DA C E X es fl) (hl : ∀ ρ s xs s', fl ρ s = .ok xs s' → xs.length ≤ LIM) : DE C E X (.List es pos) (fun ρ => bnd (fl ρ) fun xs => fun s => .ok (.box s.length) (s ++ [xs])) := by
  refine ⟨PE.imp (pe_lst h.pa) fun σ H Q ⟨g, ρ, s, w, R, p⟩ => ⟨g, ρ, s, w, R, p.bnd.impE fun xs s1 g1 H1 eq f1 w1 k1 vs hv => ?_⟩⟩
  have l := hl ρ s xs s1 eq
  have l2 := hv.length
  have ll := lim_eq
  refine ⟨by omega, fun t ht => ?_⟩
  obtain ⟨n1, n2⟩ := w1.none ht
  have le : Le g1 ⟨g1.S, g1.B ++ [t]⟩ := ⟨fun _ _ h => h, fun l a h => by
    have hl : l < g1.B.length := (List.getElem?_eq_some_iff.mp h).1
    show (g1.B ++ [t])[l]? = some a
    rw [List.getElem?_append_left hl]
    exact h⟩
  have fn : Fr g1 H1 g1 (upd H1 t (.lst vs)) := fr_new ht
  refine k1 ⟨g1.S, g1.B ++ [t]⟩ (upd H1 t (.lst vs)) ⟨le, fn.keep, fn.there, fn.newS, fun a o h nb hb => ?_⟩ ⟨fun a o h => (w1.new (o := .lst vs) ht).sub a o h, by simp [w1.len], fun l ys hy => ?_, fun i j a hi hj => ?_, fun a ha => ?_⟩ _ (.box ?_)
  · rcases List.mem_append.mp hb with hb | hb
    · exact nb hb
    · have : a = t := by simpa using hb
      subst this
      rw [ht] at h; cases h
  · by_cases hlt : l < s1.length
    · rw [List.getElem?_append_left hlt] at hy
      obtain ⟨a, us, h1, h2, h3⟩ := w1.box l ys hy
      exact ⟨a, us, le.B _ _ h1, by rw [upd_ne (ne_of_none h2 ht)]; exact h2, h3.mono le⟩
    · have e1 : l = s1.length := by
        have := (List.getElem?_eq_some_iff.mp hy).1
        simp at this
        omega
      subst e1
      simp at hy
      subst hy
      refine ⟨t, vs, ?_, upd_same, hv.mono le⟩
      show (g1.B ++ [t])[s1.length]? = some t
      rw [← w1.len]
      simp
  · have key : ∀ i a, (g1.B ++ [t])[i]? = some a → (i < g1.B.length ∧ g1.B[i]? = some a) ∨ (i = g1.B.length ∧ a = t) := fun i a h => by
      by_cases hlt : i < g1.B.length
      · rw [List.getElem?_append_left hlt] at h
        exact .inl ⟨hlt, h⟩
      · have := (List.getElem?_eq_some_iff.mp h).1
        simp at this
        have e1 : i = g1.B.length := by omega
        subst e1
        simp at h
        exact .inr ⟨rfl, h.symm⟩
    rcases key i a hi with ⟨h1, h2⟩ | ⟨h1, h2⟩ <;> rcases key j a hj with ⟨h3, h4⟩ | ⟨h3, h4⟩
    · exact w1.inj i j a h2 h4
    · subst h4
      exact absurd (List.mem_of_getElem? h2) n2
    · subst h2
      exact absurd (List.mem_of_getElem? h4) n2
    · omega
  · rcases List.mem_append.mp ha with ha | ha
    · exact w1.bs a ha
    · have : a = t := by simpa using ha
      subst this
      exact n1
  · show (g1.B ++ [t])[s1.length]? = some t
    rw [← w1.len]
    simp
/-! places -/
theorem atI_reps {vs : List V} {ds : List D} {i : Int} {d : D} (h : Reps K g vs ds) (e : atI ds i = some d) : ∃ v, atI vs i = some v ∧ Rep K g v d := by
  unfold atI at e ⊢
  rw [h.length]
  cases k : ixN ds.length i with
  | none => rw [k] at e; cases e
  | some j =>
    rw [k] at e
    obtain ⟨v, h1, h2⟩ := h.get (show ds[j]? = some d from e)
    exact ⟨v, h1, h2⟩
theorem de_ix (hK : X.K = C.K) (ha : DB C E X a fa) (hb : DE C E X b fb) (hs : PlainIx b) : DE C E X (.Subscript a b pos) (fun ρ => bnd (fa ρ) fun x => bnd (fb ρ) fun y => ixD x y) := by
  refine ⟨PE.imp (pe_ix (ix_list.or ix_tup) ha.pe hb.pe hs) fun σ H Q ⟨g, ρ, s, w, R, p⟩ => ?_⟩
  rw [hK]
  refine ⟨g, ρ, s, w, R, p.bnd.imp fun x s1 g1 H1 f1 w1 k1 vx hx => ⟨g1, ρ, s1, w1, R.fr f1, k1.bnd.imp fun y s2 g2 H2 f2 w2 k2 vy hy => ?_⟩⟩
  have hx2 := RepB.fr f2 hx
  unfold ixD at k2
  split at k2
  · rename_i xs i
    obtain ⟨d, e, k3⟩ := k2.lif
    obtain ⟨p, vs, rfl, h1, h2, h3⟩ := hx2.lst w2
    obtain ⟨v, h4, h5⟩ := atI_reps h3 e
    cases hy
    exact .inl ⟨p, vs, i, v, rfl, rfl, h1, h4, k3.pur w2 v h5⟩
  · rename_i xs i
    obtain ⟨d, e, k3⟩ := k2.lif
    obtain ⟨p, vs, rfl, h1, _, h2, h3⟩ := hx2.tup w2
    obtain ⟨v, h4, h5⟩ := atI_reps h3 e
    cases hy
    exact .inr ⟨p, vs, i, v, rfl, rfl, h1, h4, k3.pur w2 v h5⟩
  · rename_i l i
    obtain ⟨p, rfl, hB⟩ := hx2.box
    cases e1 : s2[l]? with
    | none => rw [e1] at k2; exact k2.elim
    | some xs =>
      simp only [e1] at k2
      obtain ⟨d, e, k3⟩ := k2.lif
      obtain ⟨q, vs, h1, h2, h3⟩ := w2.box l xs e1
      rw [hB] at h1
      cases h1
      obtain ⟨v, h4, h5⟩ := atI_reps h3 e
      cases hy
      exact .inl ⟨p, vs, i, v, rfl, rfl, .inl (.inl h2), h4, k3.pur w2 v h5⟩
  · exact k2.elim
/-! slices -/
theorem cut_reps {vs : List V} {ds : List D} (h : Reps K g vs ds) (lo hi : Option Int) : Reps K g (cutV vs lo hi) (cutD ds lo hi) := by
  unfold cutV cutD
  rw [h.length]
  exact (h.drop _).take _
theorem do_none : DO C E X none (fun _ => pur none) := ⟨PO.imp po_none fun σ H Q ⟨g, ρ, s, w, R, p⟩ => p.pur w⟩
theorem do_some (ha : DE C E X a fa) : DO C E X (some a) (fun ρ => bnd (fa ρ) fun x => bnd (lif (asI x)) fun i => pur (some i)) := by
  refine ⟨PO.imp (po_some ha.pe) fun σ H Q ⟨g, ρ, s, w, R, p⟩ => ⟨g, ρ, s, w, R, p.bnd.imp fun x s1 g1 H1 f1 w1 k1 v hv => ?_⟩⟩
  obtain ⟨i, e, k2⟩ := k1.bnd.lif
  cases x with
  | int j =>
    cases e
    cases hv
    exact ⟨i, rfl, (k2.pur w1).pur w1⟩
  | _ => cases e
theorem df_slice {lo hi : Option Expr} {p2 : Pos} {gl gh : Ev → M (Option Int)} (hK : X.K = C.K) (ha : DB C E X a fa) (hl : DO C E X lo gl) (hh : DO C E X hi gh) :
    DF C E X (.Subscript a (.Slice lo hi none p2) pos) (fun ρ => bnd (fa ρ) fun x => bnd (gl ρ) fun l => bnd (gh ρ) fun h => lif (sliceD x l h)) := by
  refine ⟨PE.imp (pe_slice (sl_list.or sl_tupA) ha.pe hl.po hh.po) fun σ H Q ⟨g, ρ, s, w, R, p⟩ => ?_⟩
  rw [hK]
  refine ⟨g, ρ, s, w, R, p.bnd.imp fun x s1 g1 H1 f1 w1 k1 vx hx => ⟨g1, ρ, s1, w1, R.fr f1, k1.bnd.imp fun l s2 g2 H2 f2 w2 k2 => ⟨g2, ρ, s2, w2, R.fr (f1.trans f2), k2.bnd.imp fun h s3 g3 H3 f3 w3 k3 => ?_⟩⟩⟩
  have hx3 := RepB.fr (f2.trans f3) hx
  have h0 : ∀ t, H3 t = none → H t = none := fun t ht => f1.there t (f2.there t (f3.there t ht))
  obtain ⟨d, e, k4⟩ := k3.lif
  unfold sliceD at e
  split at e
  · rename_i xs
    cases e
    obtain ⟨p, vs, rfl, h1, h2, h3⟩ := hx3.lst w3
    refine .inl ⟨p, vs, rfl, h1, fun t ht => ?_⟩
    exact k4.at (fr_new ht) (w3.new ht) _ (repF_new w3 ht (h0 t ht) (cut_reps h3 l h) (Nat.le_trans (cutV_length _ _ _) h2))
  · rename_i xs
    cases e
    obtain ⟨p, vs, rfl, h1, h1S, h2, h3⟩ := hx3.tup w3
    refine .inr ⟨p, vs, rfl, h1, fun hw => ?_, fun _ t ht => ?_⟩
    · have ex : cutD xs l h = xs := by
        unfold cutD
        rw [← h3.length, hw.1, hw.2, List.drop_zero, Nat.sub_zero]
        exact List.take_of_length_le (by rw [h3.length]; exact Nat.le_refl _)
      rw [ex] at k4
      exact k4.at (Fr.refl g3 H3) w3 _ (repF_sc (.tup h1S h2 h3))
    · obtain ⟨g', f, w', r⟩ := tup_new w3 ht (cut_reps h3 l h) (Nat.le_trans (cutV_length _ _ _) h2)
      exact k4.at f w' _ (repF_sc r)
  · cases e
/-! calls -/
def spD (C : Cfg) (n : Nat) (F : List D → M D) : Sp := fun vs H Q E => vs.length = n ∧ ∃ g ds s, Wd C.K g H s ∧ Reps C.K g vs ds ∧ Post C E g H (fun d _ g' H' => ∀ v, Rep C.K g' v d → Q v H') (F ds s)
theorem de_call {x : Str} {p : Pos} {f : Addr} {fd : FuncData} {ps : List Str} {n k : Nat} {F : List D → M D} (G : FnOk X.prog X.w X.K X.mg X.base (L2.CX X.prog X.w) k f fd ps (spD C n F)) (hr : Room k X.A) (hg : Gl X x) (hm : X.mg x = some (.ref f)) (hk : PySem.W.keepIn X.K (.ref f) = true) (hb : Binds X.K fd ps [])
    (hx : Passes (L2.CX X.prog X.w) X E) (ha : DA C E X (e :: es) fl) (hn : (e :: es).length = n) (hl : ∀ ρ s xs s', fl ρ s = .ok xs s' → xs.length = (e :: es).length) (hdb : (x == ("__debug__" : Str)) = false) (he : starEach (e :: es) X.env = (false, eval e X.env) :: starEach es X.env) (hpl : (backTo pos (starEach es X.env)).any (·.1) = false) :
    DE C E X (.Call (.Name x p) (e :: es) [] pos) (fun ρ => bnd (fl ρ) F) := by
  refine ⟨PE.imp (pe_call G hr hg hm hk hb .nil hx ha.pa hdb he hpl) fun σ H Q ⟨g, ρ, s, w, R, p⟩ => ⟨g, ρ, s, w, R, p.bnd.impE fun xs s1 g1 H1 eq f1 w1 k1 vs hv => ?_⟩⟩
  show spD C n F (vs ++ []) H1 Q E
  rw [List.append_nil]
  exact ⟨by rw [hv.length, hl ρ s xs s1 eq, hn], g1, xs, s1, w1, hv, k1⟩
theorem de_call0 {x : Str} {p : Pos} {f : Addr} {fd : FuncData} {ps : List Str} {k : Nat} {F : List D → M D} (G : FnOk X.prog X.w X.K X.mg X.base (L2.CX X.prog X.w) k f fd ps (spD C 0 F)) (hr : Room k X.A) (hg : Gl X x) (hm : X.mg x = some (.ref f)) (hk : PySem.W.keepIn X.K (.ref f) = true) (hb : Binds X.K fd ps [])
    (hx : Passes (L2.CX X.prog X.w) X E) (hdb : (x == ("__debug__" : Str)) = false) : DE C E X (.Call (.Name x p) [] [] pos) (fun ρ => bnd (pur []) F) := by
  refine ⟨PE.imp (pe_call0 G hr hg hm hk hb .nil hx hdb) fun σ H Q ⟨g, ρ, s, w, R, p⟩ => ?_⟩
  exact ⟨rfl, g, [], s, w, .nil, p.bnd.pur w⟩
/-! built-ins by values -/
def BfS (C : Cfg) (X : Cx) (fv : Value) (bf : List D → Option D) : Prop := ∃ r : List V → Hp → VK → Prop, CallR X fv r ∧
  ∀ (H0 : Hp) (g : Gh) (H : Hp) (s : Sto) (vs : List V) (ds : List D) (d : D), Wd C.K g H s → (∀ a, H a = none → H0 a = none) → RepsB C.K g H vs ds → bf ds = some d →
    ∀ Q : VK, (∀ g' H' v, Fr g H g' H' → Wd C.K g' H' s → RepF C.K H0 g' H' v d → Q v H') → r vs H Q
theorem df_bfB {id : String} {bf : List D → Option D} {x : Str} {p : Pos} (ho : BfS C X (.builtin id) bf) (hg : Gl X x) (hm : X.mg x = none) (hv : bootBuiltins x = some (.builtin id)) (ha : DAB C E X (e :: es) fl) (hn : x ≠ "__name__") (hdb : (x == ("__debug__" : Str)) = false)
    (he : starEach (e :: es) X.env = (false, eval e X.env) :: starEach es X.env) (hpl : (backTo pos (starEach es X.env)).any (·.1) = false) : DF C E X (.Call (.Name x p) (e :: es) [] pos) (fun ρ => bnd (fl ρ) fun xs => lif (bf xs)) := by
  obtain ⟨r, r1, r2⟩ := ho
  refine ⟨PE.imp (pe_callB r1 hg hm hv ha.pa hn hdb he hpl) fun σ H Q ⟨g, ρ, s, w, R, p⟩ => ⟨g, ρ, s, w, R, p.bnd.imp fun xs s1 g1 H1 f1 w1 k1 vs hvs => ?_⟩⟩
  obtain ⟨d, e, k2⟩ := k1.lif
  exact r2 H g1 H1 s1 vs xs d w1 f1.there hvs e Q fun g3 H3 v f3 w3 rf => k2.at f3 w3 v rf
theorem df_bfT {T : String} {bf : List D → Option D} {x : Str} {p : Pos} (ho : BfS C X (.type T) bf) (hg : Gl X x) (hm : X.mg x = none) (hv : bootBuiltins x = some (.type T)) (ha : DAB C E X (e :: es) fl) (hn : x ≠ "__name__") (hdb : (x == ("__debug__" : Str)) = false)
    (he : starEach (e :: es) X.env = (false, eval e X.env) :: starEach es X.env) (hpl : (backTo pos (starEach es X.env)).any (·.1) = false) : DF C E X (.Call (.Name x p) (e :: es) [] pos) (fun ρ => bnd (fl ρ) fun xs => lif (bf xs)) := by
  obtain ⟨r, r1, r2⟩ := ho
  refine ⟨PE.imp (pe_callTy r1 hg hm hv ha.pa hn hdb he hpl) fun σ H Q ⟨g, ρ, s, w, R, p⟩ => ⟨g, ρ, s, w, R, p.bnd.imp fun xs s1 g1 H1 f1 w1 k1 vs hvs => ?_⟩⟩
  obtain ⟨d, e, k2⟩ := k1.lif
  exact r2 H g1 H1 s1 vs xs d w1 f1.there hvs e Q fun g3 H3 v f3 w3 rf => k2.at f3 w3 v rf
end
end Mi
end
section
set_option Elab.async false
set_option linter.all false
set_option maxRecDepth 100000
set_option maxHeartbeats 1000000
/-! Mi5: the built-ins. -/
namespace Mi
open PySem PySem.Spec PyProof.Rows L2
section
variable {C : Cfg} {E : XK} {X : Cx} {K : PySem.W.Frag} {g : Gh} {H : Hp}
theorem BfS.or {f : Value} {p q : List D → Option D} {op : List D → Option D} (a : BfS C X f p) (b : BfS C X f q) (h : ∀ x d, op x = some d → p x = some d ∨ q x = some d) : BfS C X f op := by
  obtain ⟨r, r1, r2⟩ := a
  obtain ⟨t, t1, t2⟩ := b
  refine ⟨_, r1.or t1, fun H0 g H s vs ds d w hn hx e Q q => ?_⟩
  rcases h _ _ e with e | e
  · exact .inl (r2 H0 g H s vs ds d w hn hx e Q q)
  · exact .inr (t2 H0 g H s vs ds d w hn hx e Q q)
theorem BfS.imp {f : Value} {p : List D → Option D} {op : List D → Option D} (a : BfS C X f p) (h : ∀ x d, op x = some d → p x = some d) : BfS C X f op := by
  obtain ⟨r, r1, r2⟩ := a
  exact ⟨r, r1, fun H0 g H s vs ds d w hn hx e Q q => r2 H0 g H s vs ds d w hn hx (h _ _ e) Q q⟩
/-- of one value -/
def on1 (p : D → Option D) : List D → Option D
  | [x] => p x
  | _ => none
theorem on1_some {p : D → Option D} {xs : List D} {d : D} (h : on1 p xs = some d) : ∃ x, xs = [x] ∧ p x = some d := by
  unfold on1 at h
  split at h
  · exact ⟨_, rfl, h⟩
  · cases h
theorem reps1 {vs : List V} {x : D} (h : RepsB K g H vs [x]) : ∃ v, vs = [v] ∧ RepB K g H v x := by
  cases h with
  | cons a r => cases r; exact ⟨_, rfl, a⟩
theorem reps2 {vs : List V} {x y : D} (h : RepsB K g H vs [x, y]) : ∃ v u, vs = [v, u] ∧ RepB K g H v x ∧ RepB K g H u y := by
  cases h with
  | cons a r =>
    cases r with
    | cons b r => cases r; exact ⟨_, _, rfl, a, b⟩
def bLen : D → Option D
  | .lst xs => some (.int xs.length)
  | .tup xs => some (.int xs.length)
  | _ => none
theorem bf_len (hK : X.K = C.K) : BfS C X (.builtin "len") (bfn .len) := by
  refine BfS.or (p := on1 bLen) (q := on1 fun x => match x with | .str s => if s.length ≤ LIM then some (.int s.length) else none | _ => none) ?_ ?_ ?_
  · refine ⟨_, call_len_seq, fun H0 g H s vs ds d w hn hx e0 Q q => ?_⟩
    rw [hK]
    obtain ⟨x, rfl, e⟩ := on1_some e0
    obtain ⟨v, rfl, hv⟩ := reps1 hx
    unfold bLen at e
    split at e
    · cases e
      obtain ⟨p, us, rfl, h1, h2, h3⟩ := hv.lst w
      refine ⟨p, us, rfl, .inl h1, ?_⟩
      rw [h3.length]
      exact q g H _ (Fr.refl g H) w (repF_sc (.int _))
    · cases e
      obtain ⟨p, us, rfl, h1, _, h2, h3⟩ := hv.tup w
      refine ⟨p, us, rfl, .inr h1, ?_⟩
      rw [h3.length]
      exact q g H _ (Fr.refl g H) w (repF_sc (.int _))
    · cases e
  · refine ⟨_, call_len_str, fun H0 g H s vs ds d w hn hx e0 Q q => ?_⟩
    obtain ⟨x, rfl, e⟩ := on1_some e0
    obtain ⟨v, rfl, hv⟩ := reps1 hx
    split at e
    · split at e
      · rename_i hl
        cases e
        exact ⟨_, by rw [hv.str], by have := lim_eq; omega, q g H _ (Fr.refl g H) w (repF_sc (.int _))⟩
      · cases e
    · cases e
  · intro x d h
    unfold bfn at h
    split at h <;> first
      | exact .inl h
      | exact .inr h
      | (rename_i z; cases z; done)
      | cases h
def bTuple : D → Option D
  | .lst xs => some (.tup xs)
  | .tup xs => some (.tup xs)
  | _ => none
theorem bf_tuple (hK : X.K = C.K) : BfS C X (.type "tuple") (bfn .tuple) := by
  refine BfS.imp (p := on1 bTuple) ⟨_, call_tuple_of, fun H0 g H s vs ds d w hn hx e0 Q q => ?_⟩ ?_
  · rw [hK]
    obtain ⟨x, rfl, e⟩ := on1_some e0
    obtain ⟨v, rfl, hv⟩ := reps1 hx
    unfold bTuple at e
    split at e
    · cases e
      obtain ⟨p, us, rfl, h1, h2, h3⟩ := hv.lst w
      refine ⟨p, us, rfl, .inl ⟨h1, fun t ht => ?_⟩⟩
      obtain ⟨g', f, w', r⟩ := tup_new w ht h3 h2
      exact q g' _ _ f w' (repF_sc r)
    · cases e
      obtain ⟨p, us, rfl, h1, h1S, h2, h3⟩ := hv.tup w
      exact ⟨p, us, rfl, .inr ⟨h1, q g H _ (Fr.refl g H) w (repF_sc (.tup h1S h2 h3))⟩⟩
    · cases e
  · intro x d h
    unfold bfn at h
    split at h <;> first
      | exact h
      | (rename_i z; cases z; done)
      | cases h
def bList : D → Option D
  | .lst xs => some (.lst xs)
  | .tup xs => some (.lst xs)
  | _ => none
theorem bf_list (hK : X.K = C.K) : BfS C X (.type "list") (bfn .list) := by
  refine BfS.imp (p := on1 bList) ⟨_, call_list_of, fun H0 g H s vs ds d w hn hx e0 Q q => ?_⟩ ?_
  · rw [hK]
    obtain ⟨x, rfl, e⟩ := on1_some e0
    obtain ⟨v, rfl, hv⟩ := reps1 hx
    unfold bList at e
    split at e
    · cases e
      obtain ⟨p, us, rfl, h1, h2, h3⟩ := hv.lst w
      exact ⟨p, us, rfl, .inl h1, fun t ht => q g _ _ (fr_new ht) (w.new ht) (repF_new w ht (hn t ht) h3 h2)⟩
    · cases e
      obtain ⟨p, us, rfl, h1, h1S, h2, h3⟩ := hv.tup w
      exact ⟨p, us, rfl, .inr h1, fun t ht => q g _ _ (fr_new ht) (w.new ht) (repF_new w ht (hn t ht) h3 h2)⟩
    · cases e
  · intro x d h
    unfold bfn at h
    split at h <;> first
      | exact h
      | (rename_i z; cases z; done)
      | cases h
theorem reps_bls : ∀ {ds : List D} {vs : List V} {bs : List Bool}, Reps K g vs ds → blsOf ds = some bs → vs = bs.map V.bl
  | [], _, _, .nil, h => by
    cases h
    rfl
  | d :: ds, _, bs, .cons a r, h => by
    unfold blsOf at h
    split at h
    · cases h; rename_i z; cases z
    · rename_i i r' e
      cases e
      cases hq : blsOf ds with
      | none => rw [hq] at h; cases h
      | some bs' =>
        rw [hq] at h
        cases h
        cases a
        rw [reps_bls r hq]
        rfl
    · cases h
theorem reps_ints : ∀ {ds : List D} {vs : List V} {bs : List Int}, Reps K g vs ds → intsOf ds = some bs → vs = bs.map V.int
  | [], _, _, .nil, h => by
    cases h
    rfl
  | d :: ds, _, bs, .cons a r, h => by
    unfold intsOf at h
    split at h
    · cases h; rename_i z; cases z
    · rename_i i r' e
      cases e
      cases hq : intsOf ds with
      | none => rw [hq] at h; cases h
      | some bs' =>
        rw [hq] at h
        cases h
        cases a
        rw [reps_ints r hq]
        rfl
    · cases h
theorem bf_all (hK : X.K = C.K) (hc : X.calm = true) : BfS C X (.builtin "all") (bfn .all) := by
  refine BfS.imp (p := on1 fun x => match x with | .lst xs => (blsOf xs).map fun bs => .bl (bs.all id) | _ => none) ⟨_, cr_all hc, fun H0 g H s vs ds d w hn hx e0 Q q => ?_⟩ ?_
  · rw [hK]
    obtain ⟨x, rfl, e⟩ := on1_some e0
    obtain ⟨v, rfl, hv⟩ := reps1 hx
    split at e
    · rename_i xs
      cases hb : blsOf xs with
      | none => rw [hb] at e; cases e
      | some bs =>
        rw [hb] at e
        cases e
        obtain ⟨p, us, rfl, h1, h2, h3⟩ := hv.lst w
        rw [reps_bls h3 hb] at h1
        exact ⟨p, bs, rfl, h1, q g H _ (Fr.refl g H) w (repF_sc (.bl _))⟩
    · cases e
  · intro x d h
    unfold bfn at h
    split at h <;> first
      | exact h
      | (rename_i z; cases z; done)
      | cases h
theorem bf_any (hK : X.K = C.K) (hc : X.calm = true) : BfS C X (.builtin "any") (bfn .any) := by
  refine BfS.imp (p := on1 fun x => match x with | .lst xs => (blsOf xs).map fun bs => .bl (bs.any id) | _ => none) ⟨_, cr_any hc, fun H0 g H s vs ds d w hn hx e0 Q q => ?_⟩ ?_
  · rw [hK]
    obtain ⟨x, rfl, e⟩ := on1_some e0
    obtain ⟨v, rfl, hv⟩ := reps1 hx
    split at e
    · rename_i xs
      cases hb : blsOf xs with
      | none => rw [hb] at e; cases e
      | some bs =>
        rw [hb] at e
        cases e
        obtain ⟨p, us, rfl, h1, h2, h3⟩ := hv.lst w
        rw [reps_bls h3 hb] at h1
        exact ⟨p, bs, rfl, h1, q g H _ (Fr.refl g H) w (repF_sc (.bl _))⟩
    · cases e
  · intro x d h
    unfold bfn at h
    split at h <;> first
      | exact h
      | (rename_i z; cases z; done)
      | cases h
theorem bf_sum (hK : X.K = C.K) (hc : X.calm = true) : BfS C X (.builtin "sum") (bfn .sum) := by
  refine BfS.imp (p := on1 fun x => match x with | .lst xs => (intsOf xs).map fun bs => .int bs.sum | _ => none) ⟨_, cr_sum hc, fun H0 g H s vs ds d w hn hx e0 Q q => ?_⟩ ?_
  · rw [hK]
    obtain ⟨x, rfl, e⟩ := on1_some e0
    obtain ⟨v, rfl, hv⟩ := reps1 hx
    split at e
    · rename_i xs
      cases hb : intsOf xs with
      | none => rw [hb] at e; cases e
      | some bs =>
        rw [hb] at e
        cases e
        obtain ⟨p, us, rfl, h1, h2, h3⟩ := hv.lst w
        rw [reps_ints h3 hb] at h1
        exact ⟨p, bs, rfl, h1, q g H _ (Fr.refl g H) w (repF_sc (.int _))⟩
    · cases e
  · intro x d h
    unfold bfn at h
    split at h <;> first
      | exact h
      | (rename_i z; cases z; done)
      | cases h
theorem bf_abs : BfS C X (.builtin "abs") (bfn .abs) := by
  refine BfS.imp (p := on1 fun x => match x with | .int i => some (.int (if i < 0 then -i else i)) | _ => none) ⟨_, call_abs, fun H0 g H s vs ds d w hn hx e0 Q q => ?_⟩ ?_
  · obtain ⟨x, rfl, e⟩ := on1_some e0
    obtain ⟨v, rfl, hv⟩ := reps1 hx
    split at e
    · cases e
      exact ⟨_, by rw [hv.int], q g H _ (Fr.refl g H) w (repF_sc (.int _))⟩
    · cases e
  · intro x d h
    unfold bfn at h
    split at h <;> first
      | exact h
      | (rename_i z; cases z; done)
      | cases h
theorem bf_int : BfS C X (.type "int") (bfn .int) := by
  refine BfS.imp (p := on1 fun x => match x with | .int i => some (.int i) | .bl b => some (.int (if b then 1 else 0)) | _ => none) ⟨_, call_int1, fun H0 g H s vs ds d w hn hx e0 Q q => ?_⟩ ?_
  · obtain ⟨x, rfl, e⟩ := on1_some e0
    obtain ⟨v, rfl, hv⟩ := reps1 hx
    split at e
    · cases e
      exact .inl ⟨_, by rw [hv.int], q g H _ (Fr.refl g H) w (repF_sc (.int _))⟩
    · cases e
      exact .inr ⟨_, by rw [hv.bl], q g H _ (Fr.refl g H) w (repF_sc (.int _))⟩
    · cases e
  · intro x d h
    unfold bfn at h
    split at h <;> first
      | exact h
      | (rename_i z; cases z; done)
      | cases h
end
/-! max and min of a list, of a tuple -/
theorem maxOf_mem : ∀ (r : List Int) (i : Int), maxOf i r ∈ i :: r ∧ ∀ y ∈ i :: r, y ≤ maxOf i r
  | [], i => ⟨List.mem_cons_self, fun y hy => by
    have : y = i := by simpa using hy
    rw [this]
    exact Int.le_refl _⟩
  | a :: r, i => by
    have ih := maxOf_mem r (if a > i then a else i)
    have e : maxOf i (a :: r) = maxOf (if a > i then a else i) r := rfl
    rw [e]
    refine ⟨?_, fun y hy => ?_⟩
    · rcases List.mem_cons.mp ih.1 with h | h
      · rw [h]
        split <;> simp
      · simp [h]
    · have h0 := ih.2 (if a > i then a else i) List.mem_cons_self
      rcases List.mem_cons.mp hy with h | h
      · rw [h]
        split at h0 <;> split <;> omega
      · rcases List.mem_cons.mp h with h | h
        · rw [h]
          split at h0 <;> split <;> omega
        · exact ih.2 y (List.mem_cons_of_mem _ h)
theorem minOf_mem : ∀ (r : List Int) (i : Int), minOf i r ∈ i :: r ∧ ∀ y ∈ i :: r, minOf i r ≤ y
  | [], i => ⟨List.mem_cons_self, fun y hy => by
    have : y = i := by simpa using hy
    rw [this]
    exact Int.le_refl _⟩
  | a :: r, i => by
    have ih := minOf_mem r (if a < i then a else i)
    have e : minOf i (a :: r) = minOf (if a < i then a else i) r := rfl
    rw [e]
    refine ⟨?_, fun y hy => ?_⟩
    · rcases List.mem_cons.mp ih.1 with h | h
      · rw [h]
        split <;> simp
      · simp [h]
    · have h0 := ih.2 (if a < i then a else i) List.mem_cons_self
      rcases List.mem_cons.mp hy with h | h
      · rw [h]
        split at h0 <;> split <;> omega
      · rcases List.mem_cons.mp h with h | h
        · rw [h]
          split at h0 <;> split <;> omega
        · exact ih.2 y (List.mem_cons_of_mem _ h)
section
variable {prog : Program} {w : World} {A : Around} {E : Value → Shared → Prop} {s : Shared} {l : Addr} {xs : Array (Int × Tok)}
theorem iter_tupInts {items : Array Value} {Q : Value → Shared → Prop} (hl : s.heap.IsTuple l items)
    (h : ∀ s₂ : Shared, s₂ = { s with heap := s.heap.push { cls := .type "tuple_iterator", data := .fields #[.ref l, .int 0 0] } } → s₂.heap.IsTupleIter s.heap.objs.size l 0 ∧ s₂.heap.IsTuple l items →
      (∀ b ∈ [s.heap.objs.size, l], b < s₂.heap.objs.size) → l ≠ s.heap.objs.size → Q (.ref s.heap.objs.size) s₂) : wpAny (model prog w) A (pyIter (.ref l)) Q E s := by
  obtain ⟨o, ho, hc, n, hd⟩ := id hl
  have hlt : l < s.heap.objs.size := Heap.lt_size ho
  refine wpAny_pyIter_tuple hl (h _ rfl ⟨⟨_, Heap.get?_push_size _ rfl, rfl, rfl⟩, ⟨o, Heap.get?_push_of_some _ ho, hc, n, hd⟩⟩ (fun b hb => ?_) (Nat.ne_of_lt hlt))
  rw [Heap.size_push]
  rcases List.mem_cons.mp hb with e | hb
  · rw [e]
    exact Nat.lt_succ_self _
  · have : b = l := by simpa using hb
    rw [this]
    exact Nat.lt_succ_of_lt hlt
theorem max_tupInts {Q : Value → Shared → Prop} (hh : A.handled = none) (hl : s.heap.IsTuple l (intItems xs)) (hne : 0 < xs.size)
    (h : ∀ v h' tk, (intItems xs)[argBest (fun i j => decide (numAt xs i > numAt xs j)) (xs.size - 1)]? = some v → (∀ b o, s.heap.get? b = some o → h'.get? b = some o) → Q v { s with heap := h', toks := tk }) :
    wpAny (model prog w) A (call (.builtin "max") [.ref l]) Q E s := by
  refine call_max_walk (iter_tupInts hl fun s2 e st hfp hlI => ?_)
  subst e
  refine ⟨_, _, _, _, _, _, _, rfl, Walks.tuple (A := A.in1) hh _ l hlI (intItems xs), st, hfp, by simpa [intItems] using hne, CmpOf.ints_gt (numAt xs) (fun _ _ => intItems_at), fun v h' tk hP hk => ?_⟩
  exact h v h' tk (by simpa [intItems] using hP) (fun b o e => hk b o (fun hb => absurd (Heap.lt_size e) (by rw [List.mem_singleton.mp hb]; exact Nat.lt_irrefl _)) (Heap.get?_push_of_some _ e))
theorem min_tupInts {Q : Value → Shared → Prop} (hh : A.handled = none) (hl : s.heap.IsTuple l (intItems xs)) (hne : 0 < xs.size)
    (h : ∀ v h' tk, (intItems xs)[argBest (fun i j => decide (numAt xs i < numAt xs j)) (xs.size - 1)]? = some v → (∀ b o, s.heap.get? b = some o → h'.get? b = some o) → Q v { s with heap := h', toks := tk }) :
    wpAny (model prog w) A (call (.builtin "min") [.ref l]) Q E s := by
  refine call_min_walk (iter_tupInts hl fun s2 e st hfp hlI => ?_)
  subst e
  refine ⟨_, _, _, _, _, _, _, rfl, Walks.tuple (A := A.in1) hh _ l hlI (intItems xs), st, hfp, by simpa [intItems] using hne, CmpOf.ints_lt (numAt xs) (fun _ _ => intItems_at), fun v h' tk hP hk => ?_⟩
  exact h v h' tk (by simpa [intItems] using hP) (fun b o e => hk b o (fun hb => absurd (Heap.lt_size e) (by rw [List.mem_singleton.mp hb]; exact Nat.lt_irrefl _)) (Heap.get?_push_of_some _ e))
variable {its : List Value} {ns : List Int}
theorem max_rawT {Q : Value → Shared → Prop} (hh : A.handled = none) (hl : s.heap.IsTuple l its.toArray) (hi : IntsAre its ns) (hne : 0 < ns.length)
    (h : ∀ h' tk M t', (∀ b o, s.heap.get? b = some o → h'.get? b = some o) → M ∈ ns → (∀ a, a ∈ ns → a ≤ M) → Q (.int M t') { s with heap := h', toks := tk }) : wpAny (model prog w) A (call (.builtin "max") [.ref l]) Q E s := by
  obtain ⟨xs, e⟩ := hi.allInts.items
  have hn : numsOf (intItems xs).toList = ns := by rw [← e]; exact hi.numsOf
  rw [nums_intItems] at hn
  subst hn
  rw [e] at hl
  have hsz : 0 < xs.size := by simpa using hne
  refine max_tupInts hh hl hsz fun v h' tk hv hk => ?_
  obtain ⟨t, rfl⟩ := intItems_at hv
  obtain ⟨h1, h2⟩ := argBest_gt (numAt xs) (xs.size - 1)
  refine h h' tk _ t hk ?_ fun a ha => ?_
  · rw [numAt_eq]; exact PySem.getD_mem (by rw [List.length_map, Array.length_toList]; omega)
  · obtain ⟨j, hj, rfl⟩ := mem_getD ha
    rw [List.length_map, Array.length_toList] at hj
    rw [← numAt_eq]; exact h2 j (by omega)
theorem min_rawT {Q : Value → Shared → Prop} (hh : A.handled = none) (hl : s.heap.IsTuple l its.toArray) (hi : IntsAre its ns) (hne : 0 < ns.length)
    (h : ∀ h' tk M t', (∀ b o, s.heap.get? b = some o → h'.get? b = some o) → M ∈ ns → (∀ a, a ∈ ns → M ≤ a) → Q (.int M t') { s with heap := h', toks := tk }) : wpAny (model prog w) A (call (.builtin "min") [.ref l]) Q E s := by
  obtain ⟨xs, e⟩ := hi.allInts.items
  have hn : numsOf (intItems xs).toList = ns := by rw [← e]; exact hi.numsOf
  rw [nums_intItems] at hn
  subst hn
  rw [e] at hl
  have hsz : 0 < xs.size := by simpa using hne
  refine min_tupInts hh hl hsz fun v h' tk hv hk => ?_
  obtain ⟨t, rfl⟩ := intItems_at hv
  obtain ⟨h1, h2⟩ := argBest_lt (numAt xs) (xs.size - 1)
  refine h h' tk _ t hk ?_ fun a ha => ?_
  · rw [numAt_eq]; exact PySem.getD_mem (by rw [List.length_map, Array.length_toList]; omega)
  · obtain ⟨j, hj, rfl⟩ := mem_getD ha
    rw [List.length_map, Array.length_toList] at hj
    rw [← numAt_eq]; exact h2 j (by omega)
end
section
variable {C : Cfg} {E : XK} {X : Cx} {K : PySem.W.Frag} {g : Gh} {H : Hp}
def rMaxT (K : PySem.W.Frag) : List V → Hp → VK → Prop := fun vs H Q => ∃ (a : Addr) (ns : List Int), vs = [V.ref a] ∧ SqT K H a (ns.map V.int) ∧ 0 < ns.length ∧ ∀ m, m ∈ ns → (∀ y, y ∈ ns → y ≤ m) → Q (.int m) H
def rMinT (K : PySem.W.Frag) : List V → Hp → VK → Prop := fun vs H Q => ∃ (a : Addr) (ns : List Int), vs = [V.ref a] ∧ SqT K H a (ns.map V.int) ∧ 0 < ns.length ∧ ∀ m, m ∈ ns → (∀ y, y ∈ ns → m ≤ y) → Q (.int m) H
theorem cr_maxT (hc : X.calm = true) : CallR X (.builtin "max") (rMaxT X.K) := by
  intro pins s σ H vs us Q I r h
  obtain ⟨a, ns, rfl, hs, hne, q⟩ := h
  obtain ⟨its, rv, hl, _⟩ := I.tuple hs
  rw [Vals.ref1 r]
  exact max_rawT (I.ok.hd hc) hl rv.ints hne fun h' tk m t' hk h1 h2 => ⟨.int _, H, I.kept hk, ⟨_, rfl⟩, q m h1 h2⟩
theorem cr_minT (hc : X.calm = true) : CallR X (.builtin "min") (rMinT X.K) := by
  intro pins s σ H vs us Q I r h
  obtain ⟨a, ns, rfl, hs, hne, q⟩ := h
  obtain ⟨its, rv, hl, _⟩ := I.tuple hs
  rw [Vals.ref1 r]
  exact min_rawT (I.ok.hd hc) hl rv.ints hne fun h' tk m t' hk h1 h2 => ⟨.int _, H, I.kept hk, ⟨_, rfl⟩, q m h1 h2⟩
theorem eq_maxOf {r : List Int} {i m : Int} (h1 : m ∈ i :: r) (h2 : ∀ y ∈ i :: r, y ≤ m) : m = maxOf i r := by
  obtain ⟨k1, k2⟩ := maxOf_mem r i
  have a := h2 _ k1
  have b := k2 _ h1
  omega
theorem eq_minOf {r : List Int} {i m : Int} (h1 : m ∈ i :: r) (h2 : ∀ y ∈ i :: r, m ≤ y) : m = minOf i r := by
  obtain ⟨k1, k2⟩ := minOf_mem r i
  have a := h2 _ k1
  have b := k2 _ h1
  omega
def bMax : D → Option D
  | .lst xs => match intsOf xs with
    | some (i :: r) => some (.int (maxOf i r))
    | _ => none
  | .tup xs => match intsOf xs with
    | some (i :: r) => some (.int (maxOf i r))
    | _ => none
  | _ => none
def bMin : D → Option D
  | .lst xs => match intsOf xs with
    | some (i :: r) => some (.int (minOf i r))
    | _ => none
  | .tup xs => match intsOf xs with
    | some (i :: r) => some (.int (minOf i r))
    | _ => none
  | _ => none
def bMax2 : List D → Option D
  | [.int a, .int b] => some (.int (if b > a then b else a))
  | _ => none
def bMin2 : List D → Option D
  | [.int a, .int b] => some (.int (if b < a then b else a))
  | _ => none
theorem bf_max (hK : X.K = C.K) (hc : X.calm = true) : BfS C X (.builtin "max") (bfn .max) := by
  refine BfS.or (p := on1 bMax) (q := bMax2) ⟨_, (cr_max hc).or (cr_maxT hc), fun H0 g H s vs ds d w hn hx e0 Q q => ?_⟩ ⟨_, call_max2 hc, fun H0 g H s vs ds d w hn hx e0 Q q => ?_⟩ ?_
  · rw [hK]
    obtain ⟨x, rfl, e⟩ := on1_some e0
    obtain ⟨v, rfl, hv⟩ := reps1 hx
    unfold bMax at e
    split at e
    · split at e
      · rename_i hb
        cases e
        obtain ⟨p, us, rfl, h1, h2, h3⟩ := hv.lst w
        rw [reps_ints h3 hb] at h1
        refine .inl ⟨p, _, rfl, h1, by simp, fun m m1 m2 => ?_⟩
        rw [eq_maxOf m1 m2]
        exact q g H _ (Fr.refl g H) w (repF_sc (.int _))
      · cases e
    · split at e
      · rename_i hb
        cases e
        obtain ⟨p, us, rfl, h1, _, h2, h3⟩ := hv.tup w
        rw [reps_ints h3 hb] at h1
        refine .inr ⟨p, _, rfl, h1, by simp, fun m m1 m2 => ?_⟩
        rw [eq_maxOf m1 m2]
        exact q g H _ (Fr.refl g H) w (repF_sc (.int _))
      · cases e
    · cases e
  · unfold bMax2 at e0
    split at e0
    · cases e0
      obtain ⟨v, u, rfl, h1, h2⟩ := reps2 hx
      exact ⟨_, _, by rw [h1.int, h2.int], q g H _ (Fr.refl g H) w (repF_sc (.int _))⟩
    · cases e0
  · intro x d h
    unfold bfn at h
    split at h <;> first
      | exact .inl h
      | exact .inr h
      | (rename_i z; cases z; done)
      | cases h
theorem bf_min (hK : X.K = C.K) (hc : X.calm = true) : BfS C X (.builtin "min") (bfn .min) := by
  refine BfS.or (p := on1 bMin) (q := bMin2) ⟨_, (cr_min hc).or (cr_minT hc), fun H0 g H s vs ds d w hn hx e0 Q q => ?_⟩ ⟨_, call_min2 hc, fun H0 g H s vs ds d w hn hx e0 Q q => ?_⟩ ?_
  · rw [hK]
    obtain ⟨x, rfl, e⟩ := on1_some e0
    obtain ⟨v, rfl, hv⟩ := reps1 hx
    unfold bMin at e
    split at e
    · split at e
      · rename_i hb
        cases e
        obtain ⟨p, us, rfl, h1, h2, h3⟩ := hv.lst w
        rw [reps_ints h3 hb] at h1
        refine .inl ⟨p, _, rfl, h1, by simp, fun m m1 m2 => ?_⟩
        rw [eq_minOf m1 m2]
        exact q g H _ (Fr.refl g H) w (repF_sc (.int _))
      · cases e
    · split at e
      · rename_i hb
        cases e
        obtain ⟨p, us, rfl, h1, _, h2, h3⟩ := hv.tup w
        rw [reps_ints h3 hb] at h1
        refine .inr ⟨p, _, rfl, h1, by simp, fun m m1 m2 => ?_⟩
        rw [eq_minOf m1 m2]
        exact q g H _ (Fr.refl g H) w (repF_sc (.int _))
      · cases e
    · cases e
  · unfold bMin2 at e0
    split at e0
    · cases e0
      obtain ⟨v, u, rfl, h1, h2⟩ := reps2 hx
      exact ⟨_, _, by rw [h1.int, h2.int], q g H _ (Fr.refl g H) w (repF_sc (.int _))⟩
    · cases e0
  · intro x d h
    unfold bfn at h
    split at h <;> first
      | exact .inl h
      | exact .inr h
      | (rename_i z; cases z; done)
      | cases h
/-! isinstance of built-in types -/
def tyN : Ty → String
  | .int => "int"
  | .bool => "bool"
  | .str => "str"
  | .list => "list"
  | .tuple => "tuple"
def kN : Kd → String
  | .non => "NoneType"
  | .bl => "bool"
  | .int => "int"
  | .str => "str"
  | .tup => "tuple"
  | .lst => "list"
def tyOf (d : D) : String := kN (kd d)
theorem rep_ty {s : Sto} (w : Wd K g H s) {v : V} {d : D} (h : RepB K g H v d) : TyX K H v (.type (tyOf d)) := by
  rcases h with h | ⟨a, vs, ds, rfl, rfl, h1, _⟩
  · cases h with
    | non => exact .base .non
    | bl b => exact .base (.bl b)
    | int i => exact .base (.int i)
    | str x => exact .base (.str x)
    | tup h l r =>
      rcases sqT_mono w.sub h with (h | ⟨o, h⟩) | ⟨o, its, n, h1, h2, _⟩
      · exact .base (.tup h)
      · exact .fTuple h
      · exact .kTuple h1 h2
    | lst h l r =>
      rcases sqL_mono w.sub h with (h | ⟨o, h⟩) | ⟨o, its, n, h1, h2, _⟩
      · exact .base (.lst h)
      · exact .base (.frz h)
      · exact .kList h1 h2
    | box h =>
      rename_i a l
      have hl : l < s.length := by
        rw [← w.len]
        exact (List.getElem?_eq_some_iff.mp h).1
      obtain ⟨b, us, h1, h2, _⟩ := w.box l s[l] (List.getElem?_eq_getElem hl)
      rw [h] at h1
      cases h1
      exact .base (.lst h2)
  · exact .base (.lst h1)
theorem kit_k (t : Ty) (k : Kd) : kitB (kN k) (tyN t) = some (isK t k) := by
  cases t <;> cases k <;> decide +kernel
theorem kit_all (t : Ty) (d : D) : kitB (tyOf d) (tyN t) = some (isTy t d) := kit_k t (kd d)
end
end Mi
end
section
set_option Elab.async false
set_option linter.all false
set_option maxRecDepth 100000
set_option maxHeartbeats 1000000
/-! Mi6: isinstance, what is walked, targets, comprehensions. -/
namespace Mi
open PySem PySem.Spec PyProof.Rows L2
section
variable {C : Cfg} {E : XK} {X : Cx} {a b c e : Expr} {es : List Expr} {fa fb fc : Ev → M D} {fl : Ev → M (List D)} {pos : Pos} {K : PySem.W.Frag} {g : Gh} {H : Hp}
theorem de_isi {t : Ty} {x : Str} {p p2 : Pos} (hK : X.K = C.K) (ha : DB C E X a fa) (hg : Gl X "isinstance") (hm : X.mg "isinstance" = none) (hgT : Gl X x) (hmT : X.mg x = none) (hvT : bootBuiltins x = some (.type (tyN t))) (hn : x ≠ "__name__") (hd : (x == ("__debug__" : Str)) = false)
    (he : starEach [a, .Name x p2] X.env = (false, eval a X.env) :: starEach [.Name x p2] X.env) (hpl : (backTo pos (starEach [.Name x p2] X.env)).any (·.1) = false) :
    DE C E X (.Call (.Name "isinstance" p) [a, .Name x p2] [] pos) (fun ρ => bnd (fa ρ) fun x => pur (.bl (isTy t x))) := by
  have hT : PE X (.Name x p2) (tC (.ty (tyN t))) := pe_bltn hgT hmT hvT rfl hn hd
  refine ⟨PE.imp (pe_callB call_isi hg hm PyProof.Rows.boot_isinstance (pa_cons ha.pe (pa_cons hT pa_nil (by rfl)) he) (by decide) (by decide) he hpl) fun σ H Q ⟨g, ρ, s, w, R, p⟩ => ?_⟩
  rw [hK]
  refine ⟨g, ρ, s, w, R, p.bnd.imp fun x s1 g1 H1 f1 w1 k1 v hv => ?_⟩
  exact ⟨v, _, _, _, isTy t x, rfl, .ty _, rep_ty w1 hv, kit_ty (kit_all t x), k1.pur w1 _ (.bl _)⟩
theorem de_isi2 {t u : Ty} {x y : Str} {p p2 p3 p4 : Pos} {k : Nat} (hK : X.K = C.K) (ha : DB C E X a fa) (hg : Gl X "isinstance") (hm : X.mg "isinstance" = none) (hgT : Gl X x) (hmT : X.mg x = none) (hvT : bootBuiltins x = some (.type (tyN t))) (hn : x ≠ "__name__") (hd : (x == ("__debug__" : Str)) = false)
    (hgU : Gl X y) (hmU : X.mg y = none) (hvU : bootBuiltins y = some (.type (tyN u))) (hnU : y ≠ "__name__") (hdU : (y == ("__debug__" : Str)) = false)
    (he : starEach [a, .Tuple [.Name x p2, .Name y p3] k p4] X.env = (false, eval a X.env) :: starEach [.Tuple [.Name x p2, .Name y p3] k p4] X.env) (hpl : (backTo pos (starEach [.Tuple [.Name x p2, .Name y p3] k p4] X.env)).any (·.1) = false) :
    DE C E X (.Call (.Name "isinstance" p) [a, .Tuple [.Name x p2, .Name y p3] k p4] [] pos) (fun ρ => bnd (fa ρ) fun x => pur (.bl (isTy t x || isTy u x))) := by
  have hT : PE X (.Name x p2) (tC (.ty (tyN t))) := pe_bltn hgT hmT hvT rfl hn hd
  have hU : PE X (.Name y p3) (tC (.ty (tyN u))) := pe_bltn hgU hmU hvU rfl hnU hdU
  have hTU : PA X [.Name x p2, .Name y p3] (tCons (tC (.ty (tyN t))) (tCons (tC (.ty (tyN u))) tNil)) := pa_cons hT (pa_cons hU pa_nil (by rfl)) (by rfl)
  refine ⟨PE.imp (pe_callB call_isiT hg hm PyProof.Rows.boot_isinstance (pa_cons ha.pe (pa_cons (pe_tup hTU) pa_nil (by rfl)) he) (by decide) (by decide) he hpl) fun σ H Q ⟨g, ρ, s, w, R, p⟩ => ?_⟩
  rw [hK]
  refine ⟨g, ρ, s, w, R, p.bnd.imp fun x s1 g1 H1 f1 w1 k1 v hv => ⟨by show 2 ≤ sizeLine; decide, fun q hq => ?_⟩⟩
  have hv2 : RepB C.K g1 (upd H1 q (.tup [.ty (tyN t), .ty (tyN u)])) v x := RepB.fr (fr_new hq) hv
  have wN : Wd C.K g1 (upd H1 q (.tup [.ty (tyN t), .ty (tyN u)])) s1 := w1.new hq
  refine ⟨v, q, _, _, [.type (tyN t), .type (tyN u)], isTy t x || isTy u x, rfl, upd_same, .cons (.ty _) (.cons (.ty _) .nil), rep_ty wN hv2, ?_, k1.at (fr_new hq) wN _ (.bl _)⟩
  refine kitAny_cons (kit_ty (kit_all t x)) (fun h => ?_) fun h => by rw [h]; rfl
  rw [h]
  refine kitAny_cons (kit_ty (kit_all u x)) (fun h2 => ?_) fun h2 => by rw [h2]; rfl
  rw [h2]
  exact kitAny_nil
/-! ### what is walked -/
/-- a later world: behind things that know no less | behind a frame -/
def Good (K : PySem.W.Frag) (bo : Bool) (g : Gh) (H : Hp) (g1 : Gh) (H1 : Hp) : Prop := (∃ s, Wd K g1 H1 s) ∧ Le g g1 ∧ (bo = true → Fr g H g1 H1)
structure ItS (K : PySem.W.Frag) (bo : Bool) (g : Gh) (H : Hp) (J : It) (ds : List D) : Prop where
  go : ∀ g1 H1 (i : Nat), Good K bo g H g1 H1 → i < ds.length → J.go i H1
  yld : ∀ g1 H1 (i : Nat) x H2, Good K bo g H g1 H1 → i < ds.length → J.yld i H1 x H2 → ∃ g2 d, ds[i]? = some d ∧ Fr g1 H1 g2 H2 ∧ (∀ s, Wd K g1 H1 s → Wd K g2 H2 s) ∧ Rep K g2 x d
  stop : ∀ g1 H1 (i : Nat), Good K bo g H g1 H1 → ds.length ≤ i → J.stop i H1
def tDI (C : Cfg) (E : XK) (bo : Bool) (f : Ev → M (List D)) : TI := fun σ H R => ∃ g ρ s, Wd C.K g H s ∧ REnv C.K g H σ ρ ∧ Post C E g H (fun ds _ g' H' => ∀ J, ItS C.K bo g' H' J ds → ds.length ≤ LIM → R J H') (f ρ s)
structure DI (C : Cfg) (E : XK) (X : Cx) (tg e : Expr) (bo : Bool) (f : Ev → M (List D)) : Prop where
  pi : PI X tg e (tDI C E bo f)
theorem PI.imp {X : Cx} {tg e : Expr} {t t' : TI} (h : PI X tg e t) (i : ∀ σ H Q, t' σ H Q → t σ H Q) : PI X tg e t' := ⟨fun pins s σ H Q I q => h.run pins s σ H Q I (i σ H Q q)⟩
/-- a list or a tuple -/
def iSeq (K : PySem.W.Frag) (tl : TE) : TI := fun σ H R => tl σ H fun x H1 => ∃ a, x = .ref a ∧ ((∃ xs, SqL K H1 a xs ∧ R (Itl K a) H1) ∨ ∃ xs, SqT K H1 a xs ∧ R (Itt K a) H1)
theorem pi_seq {tg l : Expr} {tl : TE} (hl : PE X l tl) : PI X tg l (iSeq X.K tl) := by
  refine ⟨fun pins s σ H R I h => ?_⟩
  refine L2.thn (hl.run pins s σ H _ I h) fun v s1 ⟨x, H1, I1, r1, q1⟩ => ?_
  obtain ⟨a, e, q⟩ := q1
  subst e
  cases r1
  rcases q with ⟨xs, hq, q⟩ | ⟨xs, hq, q⟩
  · obtain ⟨its, rv, p, hz⟩ := I1.list hq
    refine wpAny_pyIter_list p.isList ?_
    refine ⟨s1.heap.objs.size, [s1.heap.objs.size], _, _, H1, rfl, I1.kept (t' := s1.toks) fun b o e => Heap.get?_push_of_some _ e, turn_list a _, ⟨_, Heap.get?_push_size _ rfl, rfl, rfl⟩, fun b hb => ?_, q⟩
    have e : b = s1.heap.objs.size := by simpa using hb
    subst e
    exact I1.fpOk (Nat.le_refl _) (I1.hok.fresh (Nat.le_refl _))
  · obtain ⟨its, rv, p, hz⟩ := I1.tuple hq
    refine wpAny_pyIter_tuple (show s1.heap.IsTuple a its.toArray from p) ?_
    refine ⟨s1.heap.objs.size, [s1.heap.objs.size], _, _, H1, rfl, I1.kept (t' := s1.toks) fun b o e => Heap.get?_push_of_some _ e, turn_tuple a _, ⟨_, Heap.get?_push_size _ rfl, rfl, rfl⟩, fun b hb => ?_, q⟩
    have e : b = s1.heap.objs.size := by simpa using hb
    subst e
    exact I1.fpOk (Nat.le_refl _) (I1.hok.fresh (Nat.le_refl _))
theorem its_tup {bo : Bool} {p : Addr} {vs : List V} {ds : List D} (h : SqT K g.S p vs) (r : Reps K g vs ds) : ItS K bo g H (Itt K p) ds where
  go := fun g1 H1 i ⟨⟨s, w⟩, le, _⟩ hi => by
    obtain ⟨v, h1, _⟩ := r.get (List.getElem?_eq_getElem hi)
    exact ⟨vs, v, sqT_mono w.sub (sqT_mono le.S h), h1⟩
  yld := fun g1 H1 i x H2 ⟨⟨s, w⟩, le, _⟩ hi ⟨e, y⟩ => by
    subst e
    have h1 := y vs (sqT_mono w.sub (sqT_mono le.S h))
    obtain ⟨d, h2, h3⟩ := r.getV h1
    exact ⟨g1, d, h2, Fr.refl _ _, fun _ h => h, h3.mono le⟩
  stop := fun g1 H1 i ⟨⟨s, w⟩, le, _⟩ hi => ⟨vs, sqT_mono w.sub (sqT_mono le.S h), by rw [r.length]; exact hi⟩
theorem its_lst {bo : Bool} {p : Addr} {vs : List V} {ds : List D} (h : ∀ g1 H1, Good K bo g H g1 H1 → SqL K H1 p vs) (r : Reps K g vs ds) : ItS K bo g H (Itl K p) ds where
  go := fun g1 H1 i gd hi => by
    obtain ⟨v, h1, _⟩ := r.get (List.getElem?_eq_getElem hi)
    exact ⟨vs, v, h _ _ gd, h1⟩
  yld := fun g1 H1 i x H2 gd hi ⟨e, y⟩ => by
    subst e
    have h1 := y vs (h _ _ gd)
    obtain ⟨d, h2, h3⟩ := r.getV h1
    exact ⟨g1, d, h2, Fr.refl _ _, fun _ h => h, h3.mono gd.2.1⟩
  stop := fun g1 H1 i gd hi => ⟨vs, h _ _ gd, by rw [r.length]; exact hi⟩
theorem di_seq {tg : Expr} {bo : Bool} (hK : X.K = C.K) (ha : DE C E X a fa) : DI C E X tg a bo (fun ρ => bnd (fa ρ) fun x => lif (seqOf x)) := by
  refine ⟨PI.imp (pi_seq ha.pe) fun σ H R ⟨g, ρ, s, w, R, p⟩ => ?_⟩
  rw [hK]
  refine ⟨g, ρ, s, w, R, p.bnd.imp fun x s1 g1 H1 f1 w1 k1 v hv => ?_⟩
  obtain ⟨ds, e, k2⟩ := k1.lif
  have k3 := k2.pur w1
  cases hv with
  | tup h l r =>
    cases e
    exact ⟨_, rfl, .inr ⟨_, sqT_mono w1.sub h, k3 _ (its_tup h r) (by rw [← r.length]; exact l)⟩⟩
  | lst h l r =>
    cases e
    exact ⟨_, rfl, .inl ⟨_, sqL_mono w1.sub h, k3 _ (its_lst (fun g2 H2 ⟨⟨s2, w2⟩, le, _⟩ => sqL_mono w2.sub (sqL_mono le.S h)) r) (by rw [← r.length]; exact l)⟩⟩
  | _ => cases e
theorem di_seqB {tg : Expr} (hK : X.K = C.K) (ha : DB C E X a fa) : DI C E X tg a true (fun ρ => bnd (fa ρ) fun x => lif (seqOf x)) := by
  refine ⟨PI.imp (pi_seq ha.pe) fun σ H R ⟨g, ρ, s, w, R, p⟩ => ?_⟩
  rw [hK]
  refine ⟨g, ρ, s, w, R, p.bnd.imp fun x s1 g1 H1 f1 w1 k1 v hv => ?_⟩
  obtain ⟨ds, e, k2⟩ := k1.lif
  have k3 := k2.pur w1
  rcases hv with hv | ⟨q, vs, es, rfl, rfl, h1, h2, h3, h4, h5⟩
  · cases hv with
    | tup h l r =>
      cases e
      exact ⟨_, rfl, .inr ⟨_, sqT_mono w1.sub h, k3 _ (its_tup h r) (by rw [← r.length]; exact l)⟩⟩
    | lst h l r =>
      cases e
      exact ⟨_, rfl, .inl ⟨_, sqL_mono w1.sub h, k3 _ (its_lst (fun g2 H2 ⟨⟨s2, w2⟩, le, _⟩ => sqL_mono w2.sub (sqL_mono le.S h)) r) (by rw [← r.length]; exact l)⟩⟩
    | _ => cases e
  · cases e
    exact ⟨_, rfl, .inl ⟨_, .inl (.inl h1), k3 _ (its_lst (fun g2 H2 ⟨_, _, fr⟩ => .inl (.inl ((fr rfl).keep q _ h1 h5))) h3) (by rw [← h3.length]; exact h2)⟩⟩
theorem its_rng {bo : Bool} {lo : Int} {n : Nat} : ItS K bo g H (Itr lo n) ((List.range n).map fun (k : Nat) => D.int (lo + (k : Int))) where
  go := fun g1 H1 i _ hi => by
    show i < n
    simpa using hi
  yld := fun g1 H1 i x H2 _ hi ⟨e, y⟩ => by
    subst e y
    have hi2 : i < n := by simpa using hi
    refine ⟨g1, .int (lo + i), by simp [hi2], Fr.refl _ _, fun _ h => h, .int _⟩
  stop := fun g1 H1 i _ hi => by
    show n ≤ i
    simpa using hi
def rngL : List D → M (List D)
  | [.int n] => lif (rngD 0 n)
  | [.int a, .int b] => lif (rngD a b)
  | _ => stk
theorem rngD_some {lo hi : Int} {ds : List D} (h : rngD lo hi = some ds) : (-4611686018427387904 ≤ lo ∧ lo < 4611686018427387904 ∧ -4611686018427387904 ≤ hi ∧ hi < 4611686018427387904 ∧ (hi - lo).toNat ≤ LIM) ∧ ds = (List.range (hi - lo).toNat).map fun (k : Nat) => D.int (lo + (k : Int)) := by
  unfold rngD at h
  split at h
  · rename_i k
    cases h
    exact ⟨k, rfl⟩
  · cases h
theorem di_rng1 {tg : Expr} {bo : Bool} {p : Pos} (hg : Gl X "range") (hm : X.mg "range" = none) (ha : DA C E X [a] fl) (hs : starEach [a] X.env = [(false, eval a X.env)]) (hl : ∀ ρ s xs s', fl ρ s = .ok xs s' → xs.length = 1) : DI C E X tg (.Call (.Name "range" p) [a] [] pos) bo (fun ρ => bnd (fl ρ) rngL) := by
  refine ⟨PI.imp (pi_range1 hg hm ha.pa hs) fun σ H R ⟨g, ρ, s, w, R, p⟩ => ⟨g, ρ, s, w, R, p.bnd.impE fun xs s1 g1 H1 eq f1 w1 k1 vs hv => ?_⟩⟩
  have hl1 := hl ρ s xs s1 eq
  unfold rngL at k1
  split at k1
  · rename_i n
    obtain ⟨ds, e, k2⟩ := k1.lif
    obtain ⟨⟨e1, e2, e3, e4, e5⟩, rfl⟩ := rngD_some e
    cases hv with
    | cons a r =>
      cases r
      cases a
      refine ⟨n, rfl, by omega, by omega, ?_⟩
      have k3 := k2.pur w1 (Itr 0 (n - 0).toNat) its_rng (by simpa using e5)
      simpa using k3
  · simp at hl1
  · exact k1.elim
theorem di_rng2 {tg : Expr} {bo : Bool} {p : Pos} (hg : Gl X "range") (hm : X.mg "range" = none) (ha : DA C E X [a, b] fl) (hs : starEach [a, b] X.env = [(false, eval a X.env), (false, eval b X.env)]) (hs2 : starEach [b] X.env = [(false, eval b X.env)]) (hl : ∀ ρ s xs s', fl ρ s = .ok xs s' → xs.length = 2) : DI C E X tg (.Call (.Name "range" p) [a, b] [] pos) bo (fun ρ => bnd (fl ρ) rngL) := by
  refine ⟨PI.imp (pi_range2 hg hm ha.pa hs hs2) fun σ H R ⟨g, ρ, s, w, R, p⟩ => ⟨g, ρ, s, w, R, p.bnd.impE fun xs s1 g1 H1 eq f1 w1 k1 vs hv => ?_⟩⟩
  have hl1 := hl ρ s xs s1 eq
  unfold rngL at k1
  split at k1
  · simp at hl1
  · rename_i m n
    obtain ⟨ds, e, k2⟩ := k1.lif
    obtain ⟨⟨e1, e2, e3, e4, e5⟩, rfl⟩ := rngD_some e
    cases hv with
    | cons a r =>
      cases r with
      | cons b r =>
        cases r
        cases a
        cases b
        exact ⟨m, n, rfl, ⟨by omega, by omega, by omega, by omega⟩, k2.pur w1 (Itr m (n - m).toNat) its_rng (by simpa using e5)⟩
  · exact k1.elim
/-! zip -/
theorem zipD_len : ∀ xs ys : List D, (zipD xs ys).length = min xs.length ys.length
  | [], _ => by simp [zipD]
  | _ :: _, [] => by simp [zipD]
  | a :: as, b :: bs => by
    simp only [zipD, List.length_cons, zipD_len as bs]
    omega
theorem zipD_get : ∀ (xs ys : List D) (i : Nat) (x y : D), xs[i]? = some x → ys[i]? = some y → (zipD xs ys)[i]? = some (.tup [x, y])
  | [], _, _, _, _, h, _ => by simp at h
  | _ :: _, [], _, _, _, _, h => by simp at h
  | a :: as, b :: bs, 0, x, y, h1, h2 => by
    simp at h1 h2
    subst h1 h2
    rfl
  | a :: as, b :: bs, i + 1, x, y, h1, h2 => by
    simpa [zipD] using zipD_get as bs i x y (by simpa using h1) (by simpa using h2)
theorem pair_new {s : Sto} (w : Wd K g H s) {T : Addr} (h : H T = none) {u v : V} {x y : D} (hu : Rep K g u x) (hv : Rep K g v y) : ∃ g2, Fr g H g2 (upd H T (.tup [u, v])) ∧ (∀ s, Wd K g H s → Wd K g2 (upd H T (.tup [u, v])) s) ∧ Rep K g2 (.ref T) (.tup [x, y]) := by
  refine ⟨addS g T (.tup [u, v]), fr_addS (fr_new h) h (w.none h).1, fun s w => wd_addS (w.new h) (w.none h).1 upd_same (w.none h).2, .tup (.inl (.inl upd_same)) (by show 2 ≤ LIM; decide) (.cons (hu.mono (le_addS (w.none h).1)) (.cons (hv.mono (le_addS (w.none h).1)) .nil))⟩
def zipB (bo : Bool) : D → D → M (List D) := fun x y => match x, y with
    | .lst xs, .lst ys => pur (zipD xs ys)
    | .tup xs, .tup ys => pur (zipD xs ys)
    | _, _ => stk
theorem di_zip {bo : Bool} {p tpos : Pos} {elts : List Expr} {kk : Nat} (hK : X.K = C.K) (hg : Gl X "zip") (hm : X.mg "zip" = none) (ha : DE C E X a fa) (hb : DE C E X b fb)
    (hs : starEach [a, b] X.env = (false, eval a X.env) :: starEach [b] X.env) (hs2 : starEach [b] X.env = (false, eval b X.env) :: starEach [] X.env) (hpl : (backTo pos (starEach [b] X.env)).any (·.1) = false) :
    DI C E X (.Tuple elts kk tpos) (.Call (.Name "zip" p) [a, b] [] pos) bo (fun ρ => bnd (fa ρ) fun x => bnd (fb ρ) fun y => zipB bo x y) := by
  refine ⟨PI.imp (RZ.pi_zipA hg hm (pa_cons ha.pe (pa_cons hb.pe pa_nil hs2) hs) hs hpl) fun σ H R ⟨g, ρ, s, w, R, p⟩ => ?_⟩
  rw [hK]
  refine ⟨g, ρ, s, w, R, p.bnd.imp fun x s1 g1 H1 f1 w1 k1 vx hx => ⟨g1, ρ, s1, w1, R.fr f1, k1.bnd.imp fun y s2 g2 H2 f2 w2 k2 vy hy => ?_⟩⟩
  have hx2 := hx.mono f2.le
  unfold zipB at k2
  cases hx2 with
  | lst h l r =>
    cases hy with
    | lst h' l' r' =>
      rename_i pa us ds pb us' ds'
      have k3 := k2.pur w2
      have la := r.length
      have lb := r'.length
      refine ⟨pa, pb, us, us', rfl, .inl ⟨sqL_mono w2.sub h, sqL_mono w2.sub h', k3 _ ⟨?_, ?_, ?_⟩ (by rw [zipD_len]; omega)⟩⟩
      · intro g3 H3 i ⟨⟨s3, w3⟩, le, _⟩ hi
        rw [zipD_len] at hi
        obtain ⟨v, h1, _⟩ := r.get (List.getElem?_eq_getElem (show i < ds.length by omega))
        obtain ⟨v', h1', _⟩ := r'.get (List.getElem?_eq_getElem (show i < ds'.length by omega))
        exact ⟨us, us', v, v', sqL_mono w3.sub (sqL_mono le.S h), sqL_mono w3.sub (sqL_mono le.S h'), h1, h1'⟩
      · intro g3 H3 i x H4 ⟨⟨s3, w3⟩, le, _⟩ hi ⟨T, u, v, e1, e2, e3, e4, e5⟩
        subst e1 e3
        obtain ⟨d, h2, h3⟩ := r.getV (e4 us (sqL_mono w3.sub (sqL_mono le.S h)))
        obtain ⟨d', h2', h3'⟩ := r'.getV (e5 us' (sqL_mono w3.sub (sqL_mono le.S h')))
        obtain ⟨g4, q1, q2, q3⟩ := pair_new w3 e2 (h3.mono le) (h3'.mono le)
        exact ⟨g4, _, zipD_get _ _ _ _ _ h2 h2', q1, q2, q3⟩
      · intro g3 H3 i ⟨⟨s3, w3⟩, le, _⟩ hi
        rw [zipD_len] at hi
        exact ⟨us, us', sqL_mono w3.sub (sqL_mono le.S h), sqL_mono w3.sub (sqL_mono le.S h'), by omega⟩
    | _ => exact k2.elim
  | tup h l r =>
    cases hy with
    | tup h' l' r' =>
      rename_i pa us ds pb us' ds'
      have k3 := k2.pur w2
      have la := r.length
      have lb := r'.length
      refine ⟨pa, pb, us, us', rfl, .inr ⟨sqT_mono w2.sub h, sqT_mono w2.sub h', k3 _ ⟨?_, ?_, ?_⟩ (by rw [zipD_len]; omega)⟩⟩
      · intro g3 H3 i ⟨⟨s3, w3⟩, le, _⟩ hi
        rw [zipD_len] at hi
        obtain ⟨v, h1, _⟩ := r.get (List.getElem?_eq_getElem (show i < ds.length by omega))
        obtain ⟨v', h1', _⟩ := r'.get (List.getElem?_eq_getElem (show i < ds'.length by omega))
        exact ⟨us, us', v, v', sqT_mono w3.sub (sqT_mono le.S h), sqT_mono w3.sub (sqT_mono le.S h'), h1, h1'⟩
      · intro g3 H3 i x H4 ⟨⟨s3, w3⟩, le, _⟩ hi ⟨T, u, v, e1, e2, e3, e4, e5⟩
        subst e1 e3
        obtain ⟨d, h2, h3⟩ := r.getV (e4 us (sqT_mono w3.sub (sqT_mono le.S h)))
        obtain ⟨d', h2', h3'⟩ := r'.getV (e5 us' (sqT_mono w3.sub (sqT_mono le.S h')))
        obtain ⟨g4, q1, q2, q3⟩ := pair_new w3 e2 (h3.mono le) (h3'.mono le)
        exact ⟨g4, _, zipD_get _ _ _ _ _ h2 h2', q1, q2, q3⟩
      · intro g3 H3 i ⟨⟨s3, w3⟩, le, _⟩ hi
        rw [zipD_len] at hi
        exact ⟨us, us', sqT_mono w3.sub (sqT_mono le.S h), sqT_mono w3.sub (sqT_mono le.S h'), by omega⟩
    | _ => exact k2.elim
  | _ => exact k2.elim
end
end Mi
end
section
set_option Elab.async false
set_option linter.all false
set_option maxRecDepth 100000
set_option maxHeartbeats 1000000
/-! Mi7: targets, list comprehensions. -/
namespace Mi
open PySem PySem.Spec PyProof.Rows L2
mutual
def CT.ix : CT → List Nat
  | .nm i => [i]
  | .tp ts => ts.ix
def CTs.ix : CTs → List Nat
  | .nil => []
  | .cons t r => t.ix ++ r.ix
end
def CTs.len : CTs → Nat
  | .nil => 0
  | .cons _ r => r.len + 1
/-- only these slots have turned -/
structure Upd (σ σ' : L2.St) (l : List Nat) : Prop where
  len : σ'.length = σ.length
  out : ∀ (i : Nat), i ∉ l → σ'[i]? = σ[i]?
theorem Upd.refl (σ : L2.St) (l : List Nat) : Upd σ σ l := ⟨rfl, fun _ _ => rfl⟩
theorem Upd.trans {a b c : L2.St} {l m : List Nat} (x : Upd a b l) (y : Upd b c m) : Upd a c (l ++ m) := ⟨y.len.trans x.len, fun i hi => (y.out i fun h => hi (List.mem_append_right _ h)).trans (x.out i fun h => hi (List.mem_append_left _ h))⟩
theorem Upd.set (σ : L2.St) (i : Nat) (o : Option V) : Upd σ (σ.set i o) [i] := ⟨List.length_set, fun j hj => by
  rw [List.getElem?_set_ne]
  intro e
  subst e
  exact hj List.mem_cons_self⟩
theorem wipe_get (σ : L2.St) : ∀ (vs : List Nat) (i : Nat), (wipe σ vs)[i]? = if i ∈ vs then (σ[i]?).map fun _ => none else σ[i]?
  | [], i => by simp [wipe]
  | v :: vs, i => by
    show ((wipe σ vs).set v none)[i]? = _
    by_cases e : v = i
    · subst e
      rw [if_pos List.mem_cons_self]
      by_cases hl : v < σ.length
      · rw [List.getElem?_set_self (by rw [wipe_length]; exact hl), List.getElem?_eq_getElem hl]
        rfl
      · rw [List.getElem?_eq_none (by rw [List.length_set, wipe_length]; omega), List.getElem?_eq_none (by omega)]
        rfl
    · rw [List.getElem?_set_ne e, wipe_get σ vs i]
      by_cases h : i ∈ vs
      · rw [if_pos h, if_pos (List.mem_cons_of_mem _ h)]
      · rw [if_neg h, if_neg (fun z => by
          rcases List.mem_cons.mp z with z | z
          · exact e z.symm
          · exact h z)]
theorem wipe_upd {σ σ' : L2.St} {vs l : List Nat} (u : Upd (wipe σ vs) σ' l) (h : ∀ i ∈ l, i ∈ vs) : wipe σ' vs = wipe σ vs := by
  have hl : σ'.length = σ.length := by rw [u.len, wipe_length]
  apply List.ext_getElem?
  intro i
  rw [wipe_get, wipe_get]
  by_cases hi : i ∈ vs
  · rw [if_pos hi, if_pos hi]
    by_cases hlt : i < σ.length
    · rw [List.getElem?_eq_getElem hlt, List.getElem?_eq_getElem (by rw [hl]; exact hlt)]
      rfl
    · rw [List.getElem?_eq_none (by omega), List.getElem?_eq_none (by omega)]
  · rw [if_neg hi, if_neg hi, u.out i fun z => hi (h i z), wipe_get, if_neg hi]
section
variable {K : PySem.W.Frag} {g : Gh} {H : Hp} {σ : L2.St} {ρ : Ev}
theorem REnv.set (r : REnv K g H σ ρ) {v : V} {d : D} (h : Rep K g v d) (i : Nat) : REnv K g H (σ.set i (some v)) (ρ.set i (.val d)) where
  len := by rw [List.length_set, List.length_set, r.len]
  val := fun j e q => by
    by_cases hj : i = j
    · subst hj
      have hlt : i < ρ.length := by
        have := (List.getElem?_eq_some_iff.mp q).1
        rwa [List.length_set] at this
      rw [List.getElem?_set_self hlt] at q
      cases q
      exact ⟨v, List.getElem?_set_self (by rw [← r.len]; exact hlt), h⟩
    · rw [List.getElem?_set_ne hj] at q
      rw [List.getElem?_set_ne hj]
      exact r.val j e q
  own := fun j e q => by
    by_cases hj : i = j
    · subst hj
      have hlt : i < ρ.length := by
        have := (List.getElem?_eq_some_iff.mp q).1
        rwa [List.length_set] at this
      rw [List.getElem?_set_self hlt] at q
      cases q
    · rw [List.getElem?_set_ne hj] at q
      rw [List.getElem?_set_ne hj]
      exact r.own j e q
  inj := fun j k e f a q1 q2 q3 q4 => by
    by_cases hj : i = j
    · subst hj
      have hlt : i < ρ.length := by
        have := (List.getElem?_eq_some_iff.mp q1).1
        rwa [List.length_set] at this
      rw [List.getElem?_set_self hlt] at q1
      cases q1
    · by_cases hk : i = k
      · subst hk
        have hlt : i < ρ.length := by
          have := (List.getElem?_eq_some_iff.mp q2).1
          rwa [List.length_set] at this
        rw [List.getElem?_set_self hlt] at q2
        cases q2
      · rw [List.getElem?_set_ne hj] at q1 q3
        rw [List.getElem?_set_ne hk] at q2 q4
        exact r.inj j k e f a q1 q2 q3 q4
theorem REnv.set0 (r : REnv K g H σ ρ) (i : Nat) : REnv K g H (σ.set i none) (ρ.set i .no) where
  len := by rw [List.length_set, List.length_set, r.len]
  val := fun j e q => by
    by_cases hj : i = j
    · subst hj
      have hlt : i < ρ.length := by
        have := (List.getElem?_eq_some_iff.mp q).1
        rwa [List.length_set] at this
      rw [List.getElem?_set_self hlt] at q
      cases q
    · rw [List.getElem?_set_ne hj] at q
      rw [List.getElem?_set_ne hj]
      exact r.val j e q
  own := fun j e q => by
    by_cases hj : i = j
    · subst hj
      have hlt : i < ρ.length := by
        have := (List.getElem?_eq_some_iff.mp q).1
        rwa [List.length_set] at this
      rw [List.getElem?_set_self hlt] at q
      cases q
    · rw [List.getElem?_set_ne hj] at q
      rw [List.getElem?_set_ne hj]
      exact r.own j e q
  inj := fun j k e f a q1 q2 q3 q4 => by
    by_cases hj : i = j
    · subst hj
      have hlt : i < ρ.length := by
        have := (List.getElem?_eq_some_iff.mp q1).1
        rwa [List.length_set] at this
      rw [List.getElem?_set_self hlt] at q1
      cases q1
    · by_cases hk : i = k
      · subst hk
        have hlt : i < ρ.length := by
          have := (List.getElem?_eq_some_iff.mp q2).1
          rwa [List.length_set] at this
        rw [List.getElem?_set_self hlt] at q2
        cases q2
      · rw [List.getElem?_set_ne hj] at q1 q3
        rw [List.getElem?_set_ne hk] at q2 q4
        exact r.inj j k e f a q1 q2 q3 q4
theorem REnv.wipe : ∀ (vs : List Nat), REnv K g H σ ρ → REnv K g H (wipe σ vs) (wipeD ρ vs)
  | [], r => r
  | v :: vs, r => (REnv.wipe vs r).set0 v
end
/-! ### targets -/
def gD (K : PySem.W.Frag) (t : CT) : TG := fun v σ H Q => ∃ g ρ s d ρ', Wd K g H s ∧ REnv K g H σ ρ ∧ Rep K g v d ∧ tgt t d ρ = some ρ' ∧ ∀ σ', REnv K g H σ' ρ' → Upd σ σ' t.ix → Q σ' H
def gDs (K : PySem.W.Frag) (t : CTs) : TGs := fun v σ H Q => ∃ g ρ s d ρ', Wd K g H s ∧ REnv K g H σ ρ ∧ Reps K g v d ∧ tgts t d ρ = some ρ' ∧ ∀ σ', REnv K g H σ' ρ' → Upd σ σ' t.ix → Q σ' H
theorem PG.imp {X : Cx} {e : Expr} {t t' : TG} (h : PG X e t) (i : ∀ v σ H Q, t' v σ H Q → t v σ H Q) : PG X e t' := ⟨fun pins s σ H v u Q I r q => h.run pins s σ H v u Q I r (i v σ H Q q)⟩
theorem PGs.imp {X : Cx} {e : List Expr} {t t' : TGs} (h : PGs X e t) (i : ∀ v σ H Q, t' v σ H Q → t v σ H Q) : PGs X e t' := ⟨fun pins s σ H v u Q I r q => h.run pins s σ H v u Q I r (i v σ H Q q)⟩
section
variable {K : PySem.W.Frag} {X : Cx} {e : Expr} {es : List Expr} {pos : Pos}
theorem dg_name {i : Nat} {x : Str} (hN : X.N.Nodup) (hi : X.N[i]? = some x) (hx : Loc X.env.scope x) (hf : X.fn x = true ∨ X.env.scope.names.lookup x = some .local) : PG X (.Name x pos) (gD K (.nm i)) :=
  PG.imp (pg_name hN hi hx hf) fun v σ H Q ⟨g, ρ, s, d, ρ', w, R, h, e, q⟩ => by
    have e' : some (ρ.set i (.val d)) = some ρ' := e
    cases e'
    exact q _ (R.set h i) (Upd.set σ i (some v))
theorem dgs_nil : PGs X [] (gDs K .nil) := PGs.imp pgs_nil fun v σ H Q ⟨g, ρ, s, d, ρ', w, R, h, e, q⟩ => by
  cases h with
  | nil =>
    have e' : some ρ = some ρ' := e
    cases e'
    exact ⟨rfl, q σ R (Upd.refl σ _)⟩
  | cons a r => cases e
theorem dgs_cons {t : CT} {r : CTs} (h1 : PG X e (gD K t)) (h2 : PGs X es (gDs K r)) (hs : (assignEach (e :: es) X.env).map (·.2) = assign e X.env :: (assignEach es X.env).map (·.2)) : PGs X (e :: es) (gDs K (.cons t r)) :=
  PGs.imp (pgs_cons h1 h2 hs) fun v σ H Q ⟨g, ρ, s, d, ρ', w, R, h, e, q⟩ => by
    cases h with
    | nil => cases e
    | @cons x xs y ys a b =>
      have e' : (match tgt t y ρ with | some ρ' => tgts r ys ρ' | none => none) = some ρ' := e
      cases e1 : tgt t y ρ with
      | none => rw [e1] at e'; cases e'
      | some ρ1 =>
        rw [e1] at e'
        refine ⟨x, xs, rfl, g, ρ, s, y, ρ1, w, R, a, e1, fun σ1 R1 u1 => ⟨g, ρ1, s, ys, ρ', w, R1, b, e', fun σ2 R2 u2 => q σ2 R2 (u1.trans u2)⟩⟩
theorem dg_tup {k : Nat} {ts : CTs} (hK : X.K = K) (hc : X.calm = true) (h : PGs X es (gDs K ts)) (hn : (assignEach es X.env).length = ts.len) (hst : (assignEach es X.env).findIdx? (·.1) = none) : PG X (.Tuple es k pos) (gD K (.tp ts)) :=
  PG.imp (pg_tup hc h hn hst) fun v σ H Q ⟨g, ρ, s, d, ρ', w, R, h, e, q⟩ => by
    rw [hK]
    cases d with
    | tup ds =>
      have e' : tgts ts ds ρ = some ρ' := e
      have key : ∀ (ts : CTs) (ds : List D) (ρ ρ' : Ev), tgts ts ds ρ = some ρ' → ds.length = ts.len := by
        intro ts
        induction ts using CTs.rec (motive_1 := fun _ => True) with
        | nm => trivial
        | tp => trivial
        | nil =>
          intro ds ρ ρ' h
          cases ds with
          | nil => rfl
          | cons a r => cases h
        | cons t r _ ih =>
          intro ds ρ ρ' h
          cases ds with
          | nil => cases h
          | cons a b =>
            have h' : (match tgt t a ρ with | some ρ1 => tgts r b ρ1 | none => none) = some ρ' := h
            cases e1 : tgt t a ρ with
            | none => rw [e1] at h'; cases h'
            | some ρ1 =>
              rw [e1] at h'
              show b.length + 1 = r.len + 1
              rw [ih b ρ1 ρ' h']
      cases h with
      | tup h l r =>
        exact ⟨_, _, rfl, sqT_mono w.sub h, by rw [r.length, key _ _ _ _ e'], g, ρ, s, ds, ρ', w, R, r, e', q⟩
    | _ => cases e
end
/-! ### evaluations that come through -/
theorem bnd_ok {α β : Type} {m : M α} {f : α → M β} {s s2 : Sto} {b : β} (h : bnd m f s = .ok b s2) : ∃ a s1, m s = .ok a s1 ∧ f a s1 = .ok b s2 := by
  unfold bnd at h
  cases e : m s with
  | ok a s1 => rw [e] at h; exact ⟨a, s1, rfl, h⟩
  | exc c a s1 => rw [e] at h; cases h
  | stuck => rw [e] at h; cases h
theorem lif_ok {α : Type} {o : Option α} {s s2 : Sto} {a : α} (h : lif o s = .ok a s2) : o = some a ∧ s2 = s := by
  cases o with
  | none => cases h
  | some b => cases h; exact ⟨rfl, rfl⟩
theorem pur_ok {α : Type} {s s2 : Sto} {a b : α} (h : pur a s = .ok b s2) : b = a ∧ s2 = s := by
  cases h
  exact ⟨rfl, rfl⟩
theorem post_ok {α : Type} {C : Cfg} {E : XK} {g : Gh} {H : Hp} {k : α → Sto → Gh → Hp → Prop} {r : Res α} {a : α} {s : Sto} (e : r = .ok a s) (h : ∀ g' H', Fr g H g' H' → Wd C.K g' H' s → k a s g' H') : Post C E g H k r := by
  rw [e]
  exact h
theorem nox_post {α : Type} {C : Cfg} {E : XK} {g : Gh} {H : Hp} {k : α → Sto → Gh → Hp → Prop} {m : M α} {s : Sto} (h : Post C E g H k (nox m s)) : ∃ a s', m s = .ok a s' ∧ Post C E g H k (.ok a s') := by
  unfold nox at h
  cases e : m s with
  | ok a s' => rw [e] at h; exact ⟨a, s', rfl, h⟩
  | exc c a s' => rw [e] at h; exact h.elim
  | stuck => rw [e] at h; exact h.elim
/-- a place that stands for nothing known is written -/
theorem Wd.write {K : PySem.W.Frag} {g : Gh} {H : Hp} {s : Sto} {p : Addr} {o : HO} (w : Wd K g H s) (h1 : g.S p = Option.none) (h2 : p ∉ g.B) : Wd K g (upd H p o) s where
  sub := fun a u e => by
    rw [upd_ne (ne_of_none e h1)]
    exact w.sub a u e
  len := w.len
  box := fun l xs q => by
    obtain ⟨b, vs, k1, k2, k3⟩ := w.box l xs q
    have ne : b ≠ p := fun z => by
      subst z
      exact h2 (List.mem_of_getElem? k1)
    exact ⟨b, vs, k1, by rw [upd_ne ne]; exact k2, k3⟩
  inj := w.inj
  bs := w.bs
theorem Fr.write {g g' : Gh} {H H' : Hp} {p : Addr} {o : HO} (f : Fr g H g' H') (h : H p = none) : Fr g H g' (upd H' p o) where
  le := f.le
  keep := fun a u e n => by
    rw [upd_ne (ne_of_none e h)]
    exact f.keep a u e n
  there := fun a e => by
    by_cases hp : a = p
    · rw [hp]; exact h
    · rw [upd_ne hp] at e
      exact f.there a e
  newS := f.newS
  newB := f.newB
structure DTs (C : Cfg) (E : XK) (X : Cx) (ifs : List Expr) (f : Ev → M Bool) : Prop where
  pt : PTs X ifs (tDT C E f)
theorem PTs.imp {X : Cx} {e : List Expr} {t t' : TT} (h : PTs X e t) (i : ∀ σ H Q, t' σ H Q → t σ H Q) : PTs X e t' := ⟨fun pins s σ H Q I q => h.run pins s σ H Q I (i σ H Q q)⟩
theorem dts_nil {C : Cfg} {E : XK} {X : Cx} : DTs C E X [] (fun _ => pur true) := ⟨PTs.imp pts_nil fun σ H Q ⟨g, ρ, s, w, R, p⟩ => p.pur w⟩
theorem dts_one {C : Cfg} {E : XK} {X : Cx} {c : Expr} {f : Ev → M Bool} (h : DT C E X c f) : DTs C E X [c] f := ⟨pts_one h.pt⟩
/-- the turn of a comprehension -/
def lcStep (t : CT) (fc : Ev → M Bool) (fe : Ev → M D) (ρ0 : Ev) (d : D) : M (List D) := bnd (lif (tgt t d ρ0)) fun ρ1 => bnd (fc ρ1) fun k => match k with
      | true => bnd (fe ρ1) fun x => pur [x]
      | false => pur []
abbrev E00 : XK := fun _ _ _ => False
theorem tD_lc {C : Cfg} {E : XK} {own : List (Str × Nat)} {t : CT} {fi : Ev → M (List D)} {fc : Ev → M Bool} {fe : Ev → M D} (ht : ∀ i ∈ t.ix, i ∈ own.map (·.2)) : ∀ (σ : L2.St) (H : Hp) (Q : VK),
    tD C E (rF C.K) (fun ρ => bnd (fi ρ) fun ds => nox (bnd (compL (lcStep t fc fe (wipeD ρ (own.map (·.2)))) ds) fun xs => pur (.lst xs))) σ H Q →
    tLc (tDI C E true fi) (gD C.K t) (tDT C E00 fc) (tD C E00 (rS C.K) fe) (own.map (·.2)) σ H Q := by
  intro σ H Q ⟨g, ρ, s, w, R, p⟩
  refine ⟨g, ρ, s, w, R, p.bnd.imp fun ds s1 g1 H1 f1 w1 k1 J hJ hlen Dd hD => ?_⟩
  obtain ⟨r0, s2, e0, k2⟩ := nox_post k1
  obtain ⟨xs, s3, e1, e2⟩ := bnd_ok e0
  obtain ⟨rfl, rfl⟩ := pur_ok e2
  have hDS := w1.none hD
  have hDH : H Dd = none := f1.there Dd hD
  -- the invariant
  refine ⟨fun i m H' => m = ds.length - i ∧ i ≤ ds.length ∧ ∃ g' s' vs acc rest, Fr g1 H1 g' H' ∧ Wd C.K g' H' s' ∧ H' Dd = some (.lst vs) ∧ g'.S Dd = none ∧ Dd ∉ g'.B ∧ Reps C.K g' vs acc ∧ acc.length ≤ i ∧
    compL (lcStep t fc fe (wipeD ρ (own.map (·.2)))) (ds.drop i) s' = .ok rest s2 ∧ xs = acc ++ rest,
    ⟨ds.length, by simp, Nat.zero_le _, g1, s1, [], [], xs, (Fr.refl g1 H1).write hD, w1.write hDS.1 hDS.2, upd_same, hDS.1, hDS.2, .nil, Nat.le_refl _, e1, rfl⟩, ?_⟩
  rintro i m H' ⟨rfl, hi, g', s', vs, acc, rest, fr, wd, hDd, nS, nB, rp, hacc, ec, ex⟩
  have gd : Good C.K true g1 H1 g' H' := ⟨⟨s', wd⟩, fr.le, fun _ => fr⟩
  by_cases hlt : i < ds.length
  · refine .inr ⟨hJ.go g' H' i gd hlt, fun H'' => ∃ m', m' < ds.length - i ∧ (m' = ds.length - (i + 1) ∧ i + 1 ≤ ds.length ∧ ∃ g' s' vs acc rest, Fr g1 H1 g' H'' ∧ Wd C.K g' H'' s' ∧ H'' Dd = some (.lst vs) ∧ g'.S Dd = none ∧ Dd ∉ g'.B ∧ Reps C.K g' vs acc ∧ acc.length ≤ i + 1 ∧
      compL (lcStep t fc fe (wipeD ρ (own.map (·.2)))) (ds.drop (i + 1)) s' = .ok rest s2 ∧ xs = acc ++ rest), fun H'' h => h, fun x Hy hy => ?_⟩
    obtain ⟨g2, d, hd, fr2, wd2, rx⟩ := hJ.yld g' H' i x Hy gd hlt hy
    have wd2' := wd2 s' wd
    have ed : ds.drop i = d :: ds.drop (i + 1) := by
      rw [List.drop_eq_getElem_cons hlt]
      congr 1
      rw [List.getElem?_eq_getElem hlt] at hd
      exact Option.some.inj hd
    rw [ed] at ec
    obtain ⟨o, s4, c1, c2⟩ := bnd_ok (show bnd (lcStep t fc fe (wipeD ρ (own.map (·.2))) d) (fun o => bnd (compL (lcStep t fc fe (wipeD ρ (own.map (·.2)))) (ds.drop (i + 1))) fun r => pur (o ++ r)) s' = .ok rest s2 from ec)
    obtain ⟨rest', s5, c3, c4⟩ := bnd_ok c2
    obtain ⟨rfl, rfl⟩ := pur_ok c4
    obtain ⟨ρ1, s6, c5, c6⟩ := bnd_ok c1
    obtain ⟨c7, rfl⟩ := lif_ok c5
    obtain ⟨b, s7, c8, c9⟩ := bnd_ok c6
    have frA : Fr g H g2 Hy := f1.trans (fr.trans fr2)
    have RA := (R.fr frA).wipe (own.map (·.2))
    have hDy : Hy Dd = some (.lst vs) := fr2.keep Dd _ hDd nB
    have nS2 := fr2.newS Dd _ hDd nS
    have nB2 := fr2.newB Dd _ hDd nB
    refine ⟨g2, _, s6, d, ρ1, wd2', RA, rx, c7, fun σ2 R2 u2 => ⟨wipe_upd u2 ht, g2, ρ1, s6, wd2', R2, post_ok c8 fun g3 H3 fr3 wd3 => ?_⟩⟩
    have hD3 : H3 Dd = some (.lst vs) := fr3.keep Dd _ hDy nB2
    have nS3 := fr3.newS Dd _ hDy nS2
    have nB3 := fr3.newB Dd _ hDy nB2
    cases b with
    | true =>
      refine iteT ?_
      obtain ⟨y, s8, c10, c11⟩ := bnd_ok c9
      obtain ⟨rfl, rfl⟩ := pur_ok c11
      refine ⟨g3, ρ1, s7, wd3, R2.fr fr3, post_ok c10 fun g4 H4 fr4 wd4 v hv => ?_⟩
      have hD4 : H4 Dd = some (.lst vs) := fr4.keep Dd _ hD3 nB3
      have nS4 := fr4.newS Dd _ hD3 nS3
      have nB4 := fr4.newB Dd _ hD3 nB3
      have lv := rp.length
      have ll := lim_eq
      refine ⟨vs, hD4, by omega, ds.length - (i + 1), by omega, rfl, hlt, g4, _, vs ++ [v], acc ++ [y], rest', ?_, wd4.write nS4 nB4, upd_same, nS4, nB4, ?_, by rw [List.length_append]; simp; omega, c3, ?_⟩
      · exact ((fr.trans fr2).trans (fr3.trans fr4)).write hD
      · exact ((((rp.mono fr2.le).mono fr3.le).mono fr4.le)).append (.cons hv .nil)
      · rw [ex]
        simp
    | false =>
      refine iteF ?_
      obtain ⟨rfl, rfl⟩ := pur_ok c9
      refine ⟨ds.length - (i + 1), by omega, rfl, hlt, g3, _, vs, acc, rest', (fr.trans fr2).trans fr3, wd3, hD3, nS3, nB3, (rp.mono fr2.le).mono fr3.le, by omega, c3, ?_⟩
      rw [ex]
      simp
  · have e3 : i = ds.length := by omega
    subst e3
    rw [List.drop_length] at ec
    obtain ⟨rfl, rfl⟩ := pur_ok (show pur ([] : List D) s' = .ok rest s2 from ec)
    refine .inl ⟨hJ.stop g' H' _ gd (Nat.le_refl _), ?_⟩
    rw [List.append_nil] at ex
    subst ex
    refine k2 g' H' fr wd _ ⟨fun es ee => ?_, fun n => absurd rfl (n xs)⟩
    have ee' : xs = es := D.lst.inj ee
    subst ee'
    exact ⟨Dd, vs, rfl, hDH, hDd, by rw [rp.length]; omega, rp, nS, nB⟩
theorem df_lc {C : Cfg} {E : XK} {X : Cx} {elt tg iter : Expr} {ifs : List Expr} {scope : Scope} {own : List (Str × Nat)} {pos : Pos} {t : CT} {fi : Ev → M (List D)} {fc : Ev → M Bool} {fe : Ev → M D} (hc : X.calm = true) (hN : X.N.Nodup) (hi : DI C E X tg iter true fi) (ok : BlkOk X.N X.env.scope scope own)
    (ht : ∀ i ∈ t.ix, i ∈ own.map (·.2))
    (hg : ∀ (s : Shared) (H : Hp) (C' : Addr) (cl : List (Str × Addr)) (fp : List Addr), PG (X.blk s H scope (compEnvC scope cl C' X.env) fp) tg (gD C.K t)) (hif : ∀ (s : Shared) (H : Hp) (C' : Addr) (cl : List (Str × Addr)) (fp : List Addr), DTs C E00 (X.blk s H scope (compEnvC scope cl C' X.env) fp) ifs fc)
    (he : ∀ (s : Shared) (H : Hp) (C' : Addr) (cl : List (Str × Addr)) (fp : List Addr), DE C E00 (X.blk s H scope (compEnvC scope cl C' X.env) fp) elt fe) (hs : ∀ x, foldedSetIterable iter X.env x = pure x) :
    DF C E X (.ListComp elt [⟨tg, iter, ifs, 0⟩] scope pos) (fun ρ => bnd (fi ρ) fun ds => nox (bnd (compL (lcStep t fc fe (wipeD ρ (own.map (·.2)))) ds) fun xs => pur (.lst xs))) := by
  exact ⟨PE.imp (pe_lc hc hN hi.pi ok hg (fun s H C' cl fp => (hif s H C' cl fp).pt) (fun s H C' cl fp => (he s H C' cl fp).pe) hs) (tD_lc ht)⟩
end Mi
end
section
set_option Elab.async false
set_option linter.all false
set_option maxRecDepth 100000
set_option maxHeartbeats 1000000
/-! Mi8: chains, list(range), the checker. -/
namespace Mi
open PySem PySem.Spec PyProof.Rows L2
section
variable {C : Cfg} {E : XK} {X : Cx} {a b c e : Expr} {es : List Expr} {fa fb fc : Ev → M D} {fl : Ev → M (List D)} {pos : Pos} {K : PySem.W.Frag} {g : Gh} {H : Hp}
theorem lastMarks2 {op op' : CmpOp} (h : behindInMarks op' c = false) : lastMarks [op, op'] [b, c] = false := by
  show behindInMarks op' c = false
  exact h
theorem de_chain {op op' : CmpOp} {k k' : D → D → Option Bool} (ho : OpS C X (compareOp op) (bx k)) (ho' : OpS C X (compareOp op') (bx k')) (ha : DE C E X a fa) (hb : DE C E X b fb) (hc : DE C E X c fc) (hm : behindInMarks op' c = false) :
    DE C E X (.Compare a [op, op'] [b, c] pos) (fun ρ => bnd (fa ρ) fun x => bnd (fb ρ) fun y => bnd (lif (k x y)) fun k => match k with
    | true => bnd (fc ρ) fun z => lif ((k' y z).map .bl)
    | false => pur (.bl false)) := by
  obtain ⟨r, r1, r2⟩ := ho
  obtain ⟨t, t1, t2⟩ := ho'
  refine ⟨PE.imp (pe_chain r1 t1 ha.pe hb.pe hc.pe (lastMarks2 hm)) fun σ H Q ⟨g, ρ, s, w, R, p⟩ => ?_⟩
  refine ⟨g, ρ, s, w, R, p.bnd.imp fun x s1 g1 H1 f1 w1 k1 vx hx => ⟨g1, ρ, s1, w1, R.fr f1, k1.bnd.imp fun y s2 g2 H2 f2 w2 k2 vy hy => ?_⟩⟩
  obtain ⟨b0, e, k3⟩ := k2.bnd.lif
  have eb : bx k x y = some (.bl b0) := by unfold bx; rw [e]; rfl
  refine r2 H g2 H2 s2 vx vy x y _ w2 (fun a h => f1.there a (f2.there a h)) (RepB.fr f2 (.inl hx)) (.inl hy) eb _ fun g3 H3 v f3 w3 rf => ⟨b0, ?_, ?_⟩
  · have := rep_bl rf
    cases this
    rfl
  · have k4 := k3.at f3 w3
    cases b0 with
    | true =>
      refine iteT ⟨g3, ρ, s2, w3, R.fr (f1.trans (f2.trans f3)), k4.bnd.imp fun z s4 g4 H4 f4 w4 k5 vz hz => ?_⟩
      obtain ⟨d, e', k6⟩ := k5.lif
      obtain ⟨b1, _, rfl⟩ := bx_some (f := k') (show bx k' y z = some d from e')
      exact t2 H g4 H4 s4 vy vz y z _ w4 (fun a h => f1.there a (f2.there a (f3.there a (f4.there a h)))) (.inl (hy.mono (f3.trans f4).le)) (.inl hz) e' Q fun g5 H5 v5 f5 w5 rf5 => k6.at f5 w5 v5 (rep_bl rf5)
    | false => exact iteF (k4.pur w3 _ (.bl _))
theorem dt_chain {op op' : CmpOp} {k k' : D → D → Option Bool} (ho : OpS C X (compareOp op) (bx k)) (ho' : OpS C X (compareOp op') (bx k')) (ha : DE C E X a fa) (hb : DE C E X b fb) (hc : DE C E X c fc) (hm : behindInMarks op' c = false) :
    DT C E X (.Compare a [op, op'] [b, c] pos) (fun ρ => bnd (bnd (fa ρ) fun x => bnd (fb ρ) fun y => bnd (lif (k x y)) fun k => match k with
    | true => bnd (fc ρ) fun z => lif ((k' y z).map .bl)
    | false => pur (.bl false)) fun x => lif (asB x)) := by
  obtain ⟨r, r1, r2⟩ := ho
  obtain ⟨t, t1, t2⟩ := ho'
  refine ⟨PT.imp (pt_chain r1 t1 ha.pe hb.pe hc.pe (lastMarks2 hm)) fun σ H Q ⟨g, ρ, s, w, R, p⟩ => ?_⟩
  refine ⟨g, ρ, s, w, R, p.bnd.bnd.imp fun x s1 g1 H1 f1 w1 k1 vx hx => ⟨g1, ρ, s1, w1, R.fr f1, k1.bnd.imp fun y s2 g2 H2 f2 w2 k2 vy hy => ?_⟩⟩
  obtain ⟨b0, e, k3⟩ := k2.bnd.lif
  have eb : bx k x y = some (.bl b0) := by unfold bx; rw [e]; rfl
  refine r2 H g2 H2 s2 vx vy x y _ w2 (fun a h => f1.there a (f2.there a h)) (RepB.fr f2 (.inl hx)) (.inl hy) eb _ fun g3 H3 v f3 w3 rf => ⟨b0, ?_, ?_⟩
  · have := rep_bl rf
    cases this
    rfl
  · have k4 := k3.at f3 w3
    cases b0 with
    | true =>
      refine iteT ⟨g3, ρ, s2, w3, R.fr (f1.trans (f2.trans f3)), k4.bnd.imp fun z s4 g4 H4 f4 w4 k5 vz hz => ?_⟩
      obtain ⟨d, e', k6⟩ := k5.lif
      obtain ⟨b1, _, rfl⟩ := bx_some (f := k') (show bx k' y z = some d from e')
      refine t2 H g4 H4 s4 vy vz y z _ w4 (fun a h => f1.there a (f2.there a (f3.there a (f4.there a h)))) (.inl (hy.mono (f3.trans f4).le)) (.inl hz) e' _ fun g5 H5 v5 f5 w5 rf5 => ⟨b1, ?_, ?_⟩
      · have := rep_bl rf5
        cases this
        rfl
      · exact (k6.at f5 w5).pur w5
    | false => exact iteF ⟨false, rfl, (k4.pur w3).pur w3⟩
def rngV : List D → M D
    | [.int n] => lif ((rngD 0 n).map .lst)
    | [.int a, .int b] => lif ((rngD a b).map .lst)
    | _ => stk
theorem rg_reps (lo hi : Int) : Reps K g (rgV lo hi) ((List.range (hi - lo).toNat).map fun (k : Nat) => D.int (lo + (k : Int))) := Reps.map _ _ (fun k => .int _) _
theorem pur_bnd {α β : Type} (a : α) (f : α → M β) : bnd (pur a) f = f a := rfl
theorem df_lrng1 {p p2 pos2 : Pos} (hc : X.calm = true) (hg : Gl X "list") (hm : X.mg "list" = none) (hg2 : Gl X "range") (hm2 : X.mg "range" = none) (ha : DE C E X a fa) (na : starEach [a] X.env = (false, eval a X.env) :: starEach [] X.env) :
    DF C E X (.Call (.Name "list" p) [.Call (.Name "range" p2) [a] [] pos2] [] pos) (fun ρ => bnd (fa ρ) fun x => rngV [x]) := by
  refine ⟨PE.imp (pe_listRg hc hg hm (prg_1 hg2 hm2 ha.pe na) (by rfl)) fun σ H Q ⟨g, ρ, s, w, R, p⟩ => ⟨g, ρ, s, w, R, p.bnd.imp fun x s1 g1 H1 f1 w1 k1 v hv => ?_⟩⟩
  cases x with
  | int n =>
    cases hv
    obtain ⟨d, e1, k4⟩ := Post.lif (show Post C E g1 H1 _ (lif ((rngD 0 n).map D.lst) s1) from k1)
    cases e2 : rngD 0 n with
    | none => rw [e2] at e1; cases e1
    | some ds =>
      rw [e2] at e1
      cases e1
      obtain ⟨⟨q1, q2, q3, q4, q5⟩, rfl⟩ := rngD_some e2
      refine ⟨n, rfl, ⟨by omega, by omega, by omega, by omega, by simpa using q5⟩, fun t ht => ?_⟩
      exact k4.at (fr_new ht) (w1.new ht) _ (repF_new w1 ht (f1.there t ht) (rg_reps 0 n) (by rw [rgV_length]; exact q5))
  | _ => exact k1.elim
theorem df_lrng2 {p p2 pos2 : Pos} (hc : X.calm = true) (hg : Gl X "list") (hm : X.mg "list" = none) (hg2 : Gl X "range") (hm2 : X.mg "range" = none) (ha : DE C E X a fa) (hb : DE C E X b fb) (na : starEach [a, b] X.env = (false, eval a X.env) :: starEach [b] X.env) (nb : starEach [b] X.env = (false, eval b X.env) :: starEach [] X.env) (hp : (backTo pos2 (starEach [b] X.env)).any (·.1) = false) :
    DF C E X (.Call (.Name "list" p) [.Call (.Name "range" p2) [a, b] [] pos2] [] pos) (fun ρ => bnd (fa ρ) fun x => bnd (fb ρ) fun y => rngV [x, y]) := by
  refine ⟨PE.imp (pe_listRg hc hg hm (prg_2 hg2 hm2 ha.pe hb.pe na nb hp) (by rfl)) fun σ H Q ⟨g, ρ, s, w, R, p⟩ => ⟨g, ρ, s, w, R, p.bnd.imp fun x s1 g1 H1 f1 w1 k1 v hv => ⟨g1, ρ, s1, w1, R.fr f1, k1.bnd.imp fun y s2 g2 H2 f2 w2 k2 v2 hv2 => ?_⟩⟩⟩
  cases x with
  | int m =>
    cases y with
    | int n =>
      cases hv
      cases hv2
      obtain ⟨d, e1, k4⟩ := Post.lif (show Post C E g2 H2 _ (lif ((rngD m n).map D.lst) s2) from k2)
      cases e2 : rngD m n with
      | none => rw [e2] at e1; cases e1
      | some ds =>
        rw [e2] at e1
        cases e1
        obtain ⟨⟨q1, q2, q3, q4, q5⟩, rfl⟩ := rngD_some e2
        refine ⟨m, n, rfl, rfl, ⟨by omega, by omega, by omega, by omega, q5⟩, fun t ht => ?_⟩
        exact k4.at (fr_new ht) (w2.new ht) _ (repF_new w2 ht (f1.there t (f2.there t ht)) (rg_reps m n) (by rw [rgV_length]; exact q5))
    | _ => exact k2.elim
  | _ => cases y <;> exact k2.elim
end
/-! ### the checker -/
def nost : Expr → Bool
  | .Starred _ _ => false
  | _ => true
def nosl : Expr → Bool
  | .Slice _ _ _ _ => false
  | _ => true
def nosetE : Expr → Bool
  | .Set _ _ _ => false
  | _ => true
theorem star_ns {e : Expr} {es : List Expr} {env : Env} (h : nost e = true) : starEach (e :: es) env = (false, eval e env) :: starEach es env := by
  cases e <;> first
    | rfl
    | (cases h; done)
theorem ix_ns {e : Expr} (h : nosl e = true) : PlainIx e := by
  cases e <;> first
    | (intro o i; rfl)
    | (cases h; done)
theorem set_ns {e : Expr} (h : nosetE e = true) (op : CmpOp) : behindInMarks op e = false := by
  cases e <;> first
    | rfl
    | (cases h; done)
theorem fold_ns {e : Expr} (h : nosetE e = true) (env : Env) : ∀ x, foldedSetIterable e env x = pure x := by
  cases e <;> first
    | (intro x; rfl)
    | (cases h; done)
theorem back_ns {pos : Pos} {env : Env} : ∀ {es : List Expr}, es.all nost = true → (backTo pos (starEach es env)).any (·.1) = false
  | [], _ => rfl
  | e :: es, h => by
    have h2 : nost e = true ∧ es.all nost = true := by simpa using h
    rw [star_ns h2.1]
    exact back_ns h2.2
end Mi
end
section
set_option Elab.async false
set_option linter.all false
set_option maxRecDepth 100000
set_option maxHeartbeats 3200000
/-! MiS: sorted(set(..)) of tuples of ints. -/
namespace MiS
open PySem PyProof.Rows
section
variable {prog : Program} {w : World} {A : Around} {E : Value → Shared → Prop} {s : Shared} {Q : Bool → Shared → Prop}
/-- tuples of ints are compared by lexLt -/
theorem lexInts {b : Bool} {xs ys : List Value} {ns ms : List Int} (i : Nat) (hx : IntsAre xs ns) (hy : IntsAre ys ms) (h : Q (HT.lexLt ns ms) s) : PySem.W.KatLex prog w A b (decide (ns.length < ms.length)) Q (xs.zip ys) i s := by
  induction hx generalizing ys ms i with
  | nil =>
    cases hy with
    | nil => exact PySem.W.kat_nil h
    | @cons q u ws ms hy =>
      refine PySem.W.kat_nil ?_
      have e : decide (([] : List Int).length < (q :: ms).length) = true := decide_eq_true (Nat.succ_pos _)
      rw [e]
      exact h
  | @cons p t xs ns hx ih =>
    cases hy with
    | nil => exact PySem.W.kat_nil h
    | @cons q u ys ms hy =>
      have fe : decide ((p :: ns).length < (q :: ms).length) = decide (ns.length < ms.length) := decide_eq_decide.mpr (by simp)
      rw [fe, List.zip_cons_cons]
      rw [HT.lexLt_cons] at h
      refine PySem.W.kat_cons (wpAny_eqBool_int ?_)
      by_cases e : p = q
      · subst e
        rw [beq_self_eq_true]
        rw [if_pos rfl] at h
        exact PySem.W.kat_yes (ih (i + 1) hy h)
      · rw [show (p == q) = false from beq_eq_false_iff_ne.mpr e]
        rw [if_neg e] at h
        exact PySem.W.kat_no (TS.oneLt_ints _ h)
theorem tups_sortable {a : Addr} {vs : List Value} {k : Value → List Int} (h2 : 2 ≤ vs.length) (hv : ∀ v ∈ vs, TS.TupInts s.heap v (k v) ∧ k v ≠ []) (ha : ∀ o, s.heap.get? a = some o → o.cls ≠ .type "tuple") :
    SrtO.SortableO prog w A s a vs fun v u => HT.lexLt (k v) (k u) := by
  intro h' keep
  have hv' : ∀ v ∈ vs, TS.TupInts h' v (k v) ∧ k v ≠ [] := fun v m => ⟨(hv v m).1.keeps fun b o e c => keep b o (fun z => by subst z; exact ha o e c) e, (hv v m).2⟩
  have firsts : ∀ us : List Value, (∀ v ∈ us, TS.TupInts h' v (k v) ∧ k v ≠ []) → ∃ fs, PySem.W.KatTups h' us fs ∧ fs.length = us.length ∧ ∀ f, f ∈ fs → ∃ n t, f = Value.int n t := by
    intro us
    induction us with
    | nil => exact fun _ => ⟨[], PySem.W.KatTups.nil, rfl, fun f hf => by simp at hf⟩
    | cons v us ih =>
      intro x
      obtain ⟨fs, kk, hl, hi⟩ := ih fun u hu => x u (List.mem_cons_of_mem _ hu)
      obtain ⟨⟨a, xs, rfl, ⟨o, ho, hc, n, hdt⟩, i⟩, hn⟩ := x v (List.mem_cons_self ..)
      obtain ⟨y, ys, e⟩ : ∃ y ys, xs.toList = y :: ys := by
        cases q : xs.toList with
        | nil =>
          rw [q] at i
          cases hq : k (.ref a) with
          | nil => exact absurd hq hn
          | cons d r => rw [hq] at i; cases i
        | cons y ys => exact ⟨y, ys, rfl⟩
      obtain ⟨m, t, hy⟩ := i.all y (by rw [e]; exact List.mem_cons_self ..)
      refine ⟨y :: fs, PySem.W.KatTups.cons ho hc hdt ?_ kk, by simp [hl], fun f hf => ?_⟩
      · have z := congrArg (fun l : List Value => l[0]?) e
        simpa using z
      · rcases List.mem_cons.mp hf with rfl | hf
        · exact ⟨m, t, hy⟩
        · exact hi f hf
  obtain ⟨fs, k1, hl, hi⟩ := firsts vs hv'
  refine ⟨tuples' true, fun Q E hq => ?_, fun p q hp hq => ?_⟩
  · refine PySem.W.kat_kind (T := .type "int") k1 (by omega) (fun f hm => ?_) (by rfl) ?_
    · obtain ⟨x, t, rfl⟩ := hi f hm
      exact PySem.W.Looks.now
    · have e : (Value.type "int" != Value.type "tuple") = true := by first | decide +kernel | rfl | decide
      rw [e]
      exact hq
  · obtain ⟨⟨a1, xs, e1, ⟨o1, ho1, hc1, n1, hd1⟩, i1⟩, _⟩ := hv' _ hp
    obtain ⟨⟨a2, ys, e2, ⟨o2, ho2, hc2, n2, hd2⟩, i2⟩, _⟩ := hv' _ hq
    show wpAny (model prog w) A (keyLt' (tuples' true) p.1 q.1) (fun r s' => s' = { s with heap := h' } ∧ r = HT.lexLt (k p.1) (k q.1)) (fun _ _ => False) _
    generalize k p.1 = ns at i1 ⊢
    generalize k q.1 = ms at i2 ⊢
    rw [e1, e2]
    refine PySem.W.kat_lt ho1 hd1 ho2 hd2 ?_
    have sz : decide (xs.size < ys.size) = decide (ns.length < ms.length) := by
      have l1 := i1.length
      have l2 := i2.length
      rw [Array.length_toList] at l1 l2
      rw [l1, l2]
    rw [sz]
    exact lexInts 0 i1 i2 ⟨rfl, rfl⟩
end
end MiS
namespace Mi
open PySem PySem.Spec PyProof.Rows L2
section
variable {P : Program} {w : World} {A : Around} {E : Value → Shared → Prop} {s : Shared}
/-- the order of the addresses, by the ints that stand there -/
def ltA (h : Heap) : Value → Value → Bool := fun v u => HT.lexLt (TS.intsOf h v) (TS.intsOf h u)
theorem sorted_setN {a : Addr} {L : List (Addr × List Int)} {es : Array (Int × Value)} {ep : Nat} {t : SetTable} {Q : Value → Shared → Prop} (R : SetTR P w s.heap a L es ep t) (hh : A.handled = none) (hB : ∀ p ∈ L, p.2 ≠ [])
    (hQ : ∀ s' p (out : Array Value) (c : Nat) (L' : List (Addr × List Int)), (∀ b o, s.heap.get? b = some o → s'.heap.get? b = some o) → s'.gens = s.gens → s'.os = s.os → s.heap.objs.size ≤ p →
      s'.heap.get? p = some (seqObj "list" out c) → out.toList = L'.map (fun q => Value.ref q.1) → L'.Perm L → L'.Pairwise (fun q r => HT.lexLt r.2 q.2 = false) → Q (.ref p) s') :
    wpAny (model P w) A (call (.builtin "sorted") [.ref a]) Q E s := by
  obtain ⟨o, ho, hex, hd⟩ := R.ob
  have few := R.few
  refine Calls.call_function_entry kind_sorted plain_sorted entry_sorted (args_sorted1 _) ?_
  unfold Builtin.«sorted»
  refine wpAny_bind (m := checkCount "sorted" 1 1 _) (wpAny_pure ?_)
  refine wpAny_bind (collect_set (A := A.in1) hh ⟨o, ho, hex.1, hd⟩ R.fits (by have := R.size; unfold scanBound; omega) R.tab.ris R.led fun s1 vs k1 hz g1 o1 pm => ?_)
  have hes : es.toList.map (·.2) = L.map fun q => Value.ref q.1 := by
    rw [R.rows]
    unfold rowsOf
    rw [List.map_map] <;> rfl
  rw [hes] at pm
  have ord : ∀ us : List Value, (∀ v ∈ us, ∃ q ∈ L, v = Value.ref q.1) → ∃ L1 : List (Addr × List Int), us = L1.map (fun q => Value.ref q.1) ∧ ∀ q ∈ L1, q ∈ L := by
    intro us
    induction us with
    | nil => exact fun _ => ⟨[], rfl, fun q hq => absurd hq (by simp)⟩
    | cons v us ih =>
      intro hv
      obtain ⟨q, hq, e⟩ := hv v List.mem_cons_self
      obtain ⟨L1, e1, hs⟩ := ih fun u hu => hv u (List.mem_cons_of_mem _ hu)
      exact ⟨q :: L1, by rw [List.map_cons, e, e1], fun r hr => (List.mem_cons.mp hr).elim (fun z => by rw [z]; exact hq) (hs r)⟩
  have one : ∀ q ∈ L, ∀ r ∈ L, q.1 = r.1 → q = r := fun q hq r hr e => by
    have b1 := R.tup q hq
    have b2 := R.tup r hr
    rw [e] at b1
    exact Prod.ext e (b1.inj b2)
  have perm_of : ∀ L1 : List (Addr × List Int), (∀ q ∈ L1, q ∈ L) → (L1.map (fun q => Value.ref q.1)).Perm (L.map fun q => Value.ref q.1) → L1.Perm L := by
    intro L1 hs pm1
    have nL : L.Nodup := nodup_of_map R.nd
    have nref : (L.map fun q => Value.ref q.1).Nodup := List.pairwise_map.mpr (List.Pairwise.imp_of_mem (fun {q r} hq hr hne e => hne (one q hq r hr (Value.ref.inj e))) nL)
    have n1 : L1.Nodup := nodup_of_map (pm1.nodup_iff.mpr nref)
    refine (List.perm_ext_iff_of_nodup n1 nL).mpr fun q => ⟨hs q, fun hq => ?_⟩
    obtain ⟨r, hr, e⟩ := List.mem_map.mp (pm1.mem_iff.mpr (List.mem_map.mpr ⟨q, hq, rfl⟩))
    rw [← one r (hs r hr) q hq (Value.ref.inj e)]
    exact hr
  have hvl : vs.length < 64 := by rw [pm.length_eq, List.length_map]; exact few
  refine wpAny_bind (wpAny_newList ?_ (by rw [sizeLine_eq]; omega))
  have hoL : (s1.heap.push (seqObj "list" vs.toArray 0)).get? s1.heap.objs.size = some (seqObj "list" vs.toArray 0) := Heap.get?_push_size _ rfl
  have tk : ∀ q ∈ L, TS.TupInts (s1.heap.push (seqObj "list" vs.toArray 0)) (.ref q.1) q.2 := fun q hq => tupInts_of (P := P) (w := w) (isT_keep (R.tup q hq) fun b u e => Heap.get?_push_of_some _ (k1 b u e))
  have hv : ∀ v ∈ vs, TS.TupInts (s1.heap.push (seqObj "list" vs.toArray 0)) v (TS.intsOf (s1.heap.push (seqObj "list" vs.toArray 0)) v) ∧ TS.intsOf (s1.heap.push (seqObj "list" vs.toArray 0)) v ≠ [] := fun v m => by
    obtain ⟨q, hq, e⟩ := List.mem_map.mp (pm.mem_iff.mp m)
    have t1 := tk q hq
    rw [e] at t1
    rw [t1.ints]
    exact ⟨t1, hB q hq⟩
  refine wpAny_bind (wpAny_holding (wpAny_call_entry slot_list_sort ⟨_, hoL, rfl⟩ entry_list_sort (SrtO.list_sort_ord (s := { s1 with heap := s1.heap.push (seqObj "list" vs.toArray 0) }) (ltv := ltA (s1.heap.push (seqObj "list" vs.toArray 0)))
    (NtL.swo_lexL _) hoL (by rw [sizeLine_eq]; omega) (fun h2 => MiS.tups_sortable h2 hv fun o e c => ?_) fun out a1 a2 => ⟨_, rfl, ?_⟩) (args_list_sort _)))
  · rw [hoL] at e
    cases e
    exact absurd (Value.type.inj c) (by decide)
  · obtain ⟨c, hc⟩ := sortedHeap_at (vs := vs) (out := out.toArray) hoL
    obtain ⟨L', e', hs'⟩ := ord out fun v m => by
      obtain ⟨q, hq, e⟩ := List.mem_map.mp (pm.mem_iff.mp (a2.perm.mem_iff.mp m))
      exact ⟨q, hq, e.symm⟩
    have pL : L'.Perm L := perm_of L' hs' (by rw [← e']; exact a2.perm.trans pm)
    have pw : L'.Pairwise (fun q r => HT.lexLt r.2 q.2 = false) := by
      rw [e'] at a1
      refine List.Pairwise.imp_of_mem (fun {q r} hq hr hle => ?_) (List.pairwise_map.mp a1)
      have f1 := (tk q (hs' q hq)).ints
      have f2 := (tk r (hs' r hr)).ints
      rw [← f1, ← f2]
      exact hle
    refine wpAny_pure ⟨_, rfl, hQ _ s1.heap.objs.size out.toArray c L' (fun b u e => ?_) g1 o1 hz hc (by simpa using e') pL pw⟩
    have q := k1 b u e
    have hlt := Heap.lt_size q
    show (sortedHeap (s1.heap.push (seqObj "list" vs.toArray 0)) s1.heap.objs.size vs out.toArray).get? b = some u
    rw [sortedHeap_old (Nat.ne_of_lt hlt) (by rw [size_push']; exact Nat.lt_succ_of_lt hlt)]
    exact Heap.get?_push_of_some _ q
/-- a new set, as an object -/
abbrev nSet (w : World) : Obj := { cls := .type "set", dict := none, data := .set #[] 0 (.fresh 0 0 (!w.params.followText "set-order")) }
set_option maxHeartbeats 6400000 in
theorem call_set_tupT {l : Addr} {items : Array Value} (ks : List (Addr × List Int)) {Q : Value → Shared → Prop} (hh : A.handled = none) (hl : s.heap.IsTuple l items) (hit : items.toList = ks.map fun p => Value.ref p.1)
    (hk : ∀ p ∈ ks, IsT P w s.heap p.2 p.1) (hfew : ks.length < 64) (hu : A.units + 3 < cLine)
    (h : ∀ (h' : Heap) (tk : Nat) L es ep t, SetTR P w h' s.heap.objs.size L es ep t → Got ks ks.length L → (∀ b o, s.heap.get? b = some o → h'.get? b = some o) → Q (.ref s.heap.objs.size) { s with heap := h', toks := tk }) :
    wpAny (model P w) A (call (.type "set") [.ref l]) Q E s := by
  have hisz : items.size = ks.length := by
    have q := congrArg List.length hit
    simpa using q
  obtain ⟨c0, tl0, mro0⟩ := F.called_set.mro
  have made0 := F.called_set.made
  have sub0 := F.called_set.sub
  refine wpAny_call (codeAny_of_tree ?_)
  show wpAny _ _ (callAny (.type "set") _) _ _ _
  refine wpAny_pure ⟨Code.quiet_builtin _ (by decide +kernel), codeAny_builtin F.entry_type_call ?_⟩
  rw [Around.under_plain (weight_type_call_type "set" [.ref l] []) rfl]
  have nt0 := F.called_set.notType
  have cc0 := F.called_set.canCreate
  have tc0 := F.typeCall_set_1 (.ref l)
  repeat (any_goals (first | assumption | wp_step))
  refine codeAny_mono (code_set_led1 (.ref l) (E := E) (Q₁ := fun obj s₁ => obj = .ref s.heap.objs.size ∧ s₁ = { s with heap := s.heap.push (nSet w) }) ⟨rfl, rfl⟩) fun r s₁ hr => ?_
  cases r with
  | error e => exact hr
  | ok fl =>
    cases fl with
    | ret obj =>
      obtain ⟨rfl, rfl⟩ := hr
      have hS : (s.heap.push (nSet w)).get? s.heap.objs.size = some (nSet w) := Heap.get?_push_size _ rfl
      have hT : Shared.TypeIs { s with heap := s.heap.push (nSet w) } (.ref s.heap.objs.size) "set" := ⟨_, hS, rfl⟩
      have li0 := F.called_set.init.lookup
      have bi0 := F.called_set.init.bind (.ref s.heap.objs.size)
      repeat (any_goals (first | assumption | wp_step))
      refine codeAny_mono (codeAny_call_builtin (R := wants (fun r s₂ => r = .none ∧ ∃ h' tk L es ep t, s₂ = { s with heap := h', toks := tk } ∧ SetTR P w h' s.heap.objs.size L es ep t ∧ Got ks ks.length L ∧
          (∀ b o, s.heap.get? b = some o → h'.get? b = some o)) E) F.called_set.init.plain F.entry_set_init (check_set_init_1 hT ?_)) fun r₂ s₂ hr₂ => ?_
      · obtain ⟨ol, hol, hcl, nl, hdl⟩ := hl
        obtain ⟨ocls, odict, odata, oslots⟩ := ol
        simp only at hcl hdl
        subst hcl; subst hdl
        have hol' : (s.heap.push (nSet w)).get? l = some { cls := .type "tuple", dict := odict, data := .seq items nl, slots := oslots } := Heap.get?_push_of_some _ hol
        have ss0 := F.sub_tuple_set
        have sf0 := F.sub_tuple_frozenset
        have ne0 : (Value.type "tuple" == Value.type "dict") = false := by decide
        have hl1 : (s.heap.push (nSet w)).IsTuple l items := ⟨_, hol', rfl, nl, rfl⟩
        unfold Builtin.«set.__init__» noKeywords Builtin.Frozenset.updateFrom
        generalize hPI : pyIter = PI
        wp_walk
        subst hPI
        refine wpAny_pyIter_tuple hl1 ?_
        refine wpAny_bind (wpAny_runValue ?_)
        have hlS : l < s.heap.objs.size := Heap.lt_size hol
        have hh3 : A.in1.in1.in1.handled = none := by simp [hh]
        have zz : (s.heap.push (nSet w)).objs.size = s.heap.objs.size + 1 := Heap.size_push ..
        have hneI : l ≠ (s.heap.push (nSet w)).objs.size := by
          rw [zz]; exact Nat.ne_of_lt (Nat.lt_succ_of_lt hlS)
        have hSf : s.heap.objs.size ∉ [(s.heap.push (nSet w)).objs.size, l] := by
          rw [zz]
          intro m
          rcases List.mem_cons.mp m with e | m
          · exact absurd e (Nat.ne_of_lt (Nat.lt_succ_self _))
          · rcases List.mem_cons.mp m with e | m
            · exact absurd e (Nat.ne_of_gt hlS)
            · cases m
        have hval : ∀ (i : Nat) (v : Value), items[i]? = some v → ∃ p, ks[i]? = some p ∧ v = .ref p.1 := fun i v hv => by
          have q : items.toList[i]? = some v := by rw [Array.getElem?_toList]; exact hv
          rw [hit, List.getElem?_map] at q
          cases hq : ks[i]? with
          | none => rw [hq] at q; cases q
          | some p =>
            rw [hq] at q
            exact ⟨p, rfl, (Option.some.inj q).symm⟩
        have none_of : ∀ b, s.heap.objs.size ≤ b → s.heap.get? b = none := fun b hb => by
          cases q : s.heap.get? b with
          | none => rfl
          | some o => exact absurd (Heap.lt_size q) (Nat.not_lt.mpr hb)
        refine set_update_tups ((Walks.tuple hh3 _ l hneI items).toS) s.heap.objs.size hSf ks hisz hfew hval s.heap hk (none_of _ (Nat.le_refl _)) (fun b hb => none_of b (by
            rw [List.mem_singleton.mp hb, zz]
            exact Nat.le_succ _)) hu (items.size - 0) 0 _ (by omega) (Nat.zero_le _)
          ⟨⟨_, Heap.get?_push_size _ rfl, rfl, rfl⟩, (hl1.push _)⟩ (fun b o e => Heap.get?_push_of_some _ (Heap.get?_push_of_some _ e)) ?hS0 ?hR
        case hS0 =>
          have hget : ((s.heap.push (nSet w)).push { cls := .type "tuple_iterator", data := .fields #[.ref l, .int 0 0] }).get? s.heap.objs.size = some (nSet w) := Heap.get?_push_of_some _ hS
          exact ⟨[], #[], 0, _, setTR_fresh hget, Got.zero ks⟩
        case hR =>
          intro s' L es ep t hm hS' g' hkp
          obtain ⟨h', g2, d', tk', os'⟩ := s'
          have eg : g2 = s.gens := hm.gens
          have ed : d' = s.drawn := hm.drawn
          have eo : os' = s.os := hm.os
          subst eg; subst ed; subst eo
          show wpAny _ _ _ _ _ _
          refine wpAny_pure ?_
          show wpAny _ _ (ret Value.none) _ _ _
          rw [hisz] at g'
          exact wpAny_pure ⟨rfl, h', tk', L, es, ep, t, rfl, hS', g', hkp⟩
      · cases r₂ with
        | error e => exact hr₂
        | ok fl₂ =>
          cases fl₂ with
          | ret r =>
            obtain ⟨rfl, h', tk, L, es, ep, t, rfl, hS', g', hk'⟩ := hr₂
            repeat (any_goals (first | assumption | wp_step))
            exact h _ _ _ _ _ _ hS' g' hk'
          | _ => exact hr₂.elim
    | _ => exact hr.elim
end
section
variable {X : Cx}
def rSetN (K : PySem.W.Frag) (P : Program) (w : World) : List V → Hp → VK → Prop := fun xs H Q => ∃ (l : Addr) (ks : List (Addr × List Int)), xs = [V.ref l] ∧ (SqL K H l (ks.map fun p => V.ref p.1) ∨ SqT K H l (ks.map fun p => V.ref p.1)) ∧ (∀ p ∈ ks, SqT K H p.1 (p.2.map V.int)) ∧ ks.length < 64 ∧
  ∀ a L, H a = none → (∀ p ∈ L, p ∈ ks) → (∀ p ∈ ks, p.2 ∈ L.map (·.2)) → Q (.ref a) (upd H a (SetTO P w a L))
theorem cr_setN (hc : X.calm = true) (hu : X.A.units + 64 < cLine) : CallR X (.type "set") (rSetN X.K X.prog X.w) := by
  intro pins s σ H xs us Q I r h
  obtain ⟨l, ks, rfl, hl, hk, hf, q⟩ := h
  rcases hl with hl | hl
  · exact cr_setOfT hc hu pins s σ H _ us Q I r ⟨l, ks, rfl, hl, hk, hf, q⟩
  · rw [Vals.ref1 r]
    obtain ⟨its, rv, pl, hz⟩ := I.tuple hl
    have hn : H s.heap.objs.size = none := I.hok.fresh (Nat.le_refl _)
    refine call_set_tupT (P := X.prog) (w := X.w) ks (I.ok.hd hc) pl (by simpa using refs_of_vals rv) (fun p hp => I.isT (hk p hp)) hf (by omega) fun h' tk L es ep t R g k => ?_
    refine ⟨.ref s.heap.objs.size, upd H s.heap.objs.size (SetTO X.prog X.w s.heap.objs.size L), I.laid (t' := tk) k (Nat.le_refl _) (setTO_new R.t0), rfl, q _ L hn (fun p hp => ?_) fun p hp => ?_⟩
    · exact List.mem_of_mem_take (g.sub p hp)
    · exact g.all p (by rw [List.take_length]; exact hp)
def rSortedN (K : PySem.W.Frag) (P : Program) (w : World) : List V → Hp → VK → Prop := fun vs H Q => ∃ (a : Addr) (L : List (Addr × List Int)), vs = [V.ref a] ∧ H a = some (SetTO P w a L) ∧ (∀ p ∈ L, SqT K H p.1 (p.2.map V.int)) ∧ (∀ p ∈ L, p.2 ≠ []) ∧
  ∀ (L' : List (Addr × List Int)) (p : Addr), L'.Perm L → (L'.map (·.2)).Nodup → L'.length < 64 → L'.Pairwise (fun q r => HT.lexLt r.2 q.2 = false) → H p = none → Q (.ref p) (upd H p (.lst (L'.map fun q => V.ref q.1)))
theorem cr_sortedN (hc : X.calm = true) : CallR X (.builtin "sorted") (rSortedN X.K X.prog X.w) := by
  intro pins s σ H vs us Q I r h
  obtain ⟨a, L, rfl, ha, hk, hB, q⟩ := h
  have R0 : SetT0 X.prog X.w s.heap a L := (I.hok a _ ha).1
  obtain ⟨es, ep, t, R⟩ := R0.full fun p hp => I.isT (hk p hp)
  rw [Vals.ref1 r]
  refine sorted_setN R (I.ok.hd hc) hB fun s' p out c L' k g o hp hg hout pm pw => ?_
  have hfew : L'.length < 64 := by rw [pm.length_eq]; exact R.few
  have hlen : (L'.map fun q => V.ref q.1).length ≤ sizeLine := by rw [List.length_map, sizeLine_eq]; omega
  have hn : H p = none := I.hok.fresh hp
  have hv : Vals (L'.map fun q => V.ref q.1) out.toList := by rw [hout]; exact vals_of_refs L'
  have J : Inv X pins σ (upd H p (.lst (L'.map fun q => V.ref q.1))) { s with heap := s'.heap, gens := s'.gens, drawn := s'.drawn, toks := s'.toks } :=
    I.call (ch := []) (Un.laid k hp hn) (I.hok.laid k hp ⟨hlen, out.toList, c, hv, hg⟩) (by rw [g]; exact I.bare) (fun _ z => nomatch z)
  have e : s' = { s with heap := s'.heap, gens := s'.gens, drawn := s'.drawn, toks := s'.toks } := by
    cases s'
    cases s
    cases o
    rfl
  rw [e]
  exact ⟨.ref p, _, J, rfl, q L' p pm ((pm.map (·.2)).nodup_iff.mpr R.nd) hfew pw hn⟩
end
end Mi
end
section
set_option Elab.async false
set_option linter.all false
set_option maxRecDepth 100000
set_option maxHeartbeats 1000000
/-! MiT: sorted(set(..)), the rule. -/
namespace Mi
open PySem PySem.Spec PyProof.Rows L2
/-! ### the order of lists of ints -/
theorem lex_total : ∀ x y : List Int, x ≠ y → HT.lexLt x y = true ∨ HT.lexLt y x = true
  | [], [], h => absurd rfl h
  | [], y :: ys, _ => .inl (HT.lexLt_nil_cons y ys)
  | x :: xs, [], _ => .inr (HT.lexLt_nil_cons x xs)
  | x :: xs, y :: ys, h => by
    rw [HT.lexLt_cons, HT.lexLt_cons]
    by_cases e : x = y
    · subst e
      rw [if_pos rfl, if_pos rfl]
      exact lex_total xs ys fun q => h (by rw [q])
    · rw [if_neg e, if_neg (Ne.symm e)]
      rcases Int.lt_trichotomy x y with q | q | q
      · exact .inl (decide_eq_true q)
      · exact absurd q e
      · exact .inr (decide_eq_true q)
theorem lex_irr (x : List Int) : HT.lexLt x x = false := by
  cases h : HT.lexLt x x with
  | false => rfl
  | true => rw [NtL.lex_asym x x h] at h; cases h
theorem lex_trans {x y z : List Int} (h1 : HT.lexLt x y = true) (h2 : HT.lexLt y z = true) : HT.lexLt x z = true := by
  rcases Classical.em (x = z) with e | e
  · subst e
    rw [NtL.lex_asym x y h1] at h2
    cases h2
  · rcases lex_total x z e with h | h
    · exact h
    · have a := NtL.lex_asym _ _ h1
      have b := NtL.lex_asym _ _ h2
      have c := NtL.lex_tr x y z a b
      rw [c] at h
      cases h
abbrev Lt (x y : List Int) : Prop := HT.lexLt x y = true
theorem mem_insU {x z : List Int} : ∀ {l : List (List Int)}, z ∈ insU x l ↔ z = x ∨ z ∈ l
  | [] => by simp [insU]
  | y :: r => by
    unfold insU
    by_cases e : x = y
    · rw [if_pos e]
      subst e
      simp
    · rw [if_neg e]
      by_cases h : HT.lexLt x y = true
      · rw [if_pos h]
        simp
      · rw [if_neg h]
        simp [mem_insU (l := r)]
        constructor
        · rintro (q | q | q)
          · exact .inr (.inl q)
          · exact .inl q
          · exact .inr (.inr q)
        · rintro (q | q | q)
          · exact .inr (.inl q)
          · exact .inl q
          · exact .inr (.inr q)
theorem mem_sortU {z : List Int} : ∀ {l : List (List Int)}, z ∈ sortU l ↔ z ∈ l
  | [] => by simp [sortU]
  | y :: r => by
    unfold sortU
    rw [mem_insU, mem_sortU, List.mem_cons]
theorem insU_st {x : List Int} : ∀ {l : List (List Int)}, l.Pairwise Lt → (insU x l).Pairwise Lt
  | [], _ => List.pairwise_singleton _ _
  | y :: r, h => by
    obtain ⟨h1, h2⟩ := List.pairwise_cons.mp h
    unfold insU
    by_cases e : x = y
    · rw [if_pos e]; exact h
    · rw [if_neg e]
      by_cases q : HT.lexLt x y = true
      · rw [if_pos q]
        refine List.pairwise_cons.mpr ⟨fun z hz => ?_, h⟩
        rcases List.mem_cons.mp hz with k | k
        · rw [k]; exact q
        · exact lex_trans q (h1 z k)
      · rw [if_neg q]
        refine List.pairwise_cons.mpr ⟨fun z hz => ?_, insU_st h2⟩
        rcases mem_insU.mp hz with k | k
        · rw [k]
          exact (lex_total x y e).resolve_left q
        · exact h1 z k
theorem sortU_st : ∀ {l : List (List Int)}, (sortU l).Pairwise Lt
  | [] => List.Pairwise.nil
  | y :: r => insU_st sortU_st
theorem st_uniq : ∀ {a b : List (List Int)}, a.Pairwise Lt → b.Pairwise Lt → (∀ z, z ∈ a ↔ z ∈ b) → a = b
  | [], [], _, _, _ => rfl
  | [], y :: b, _, _, h => absurd ((h y).mpr List.mem_cons_self) (by simp)
  | x :: a, [], _, _, h => absurd ((h x).mp List.mem_cons_self) (by simp)
  | x :: a, y :: b, ha, hb, h => by
    obtain ⟨a1, a2⟩ := List.pairwise_cons.mp ha
    obtain ⟨b1, b2⟩ := List.pairwise_cons.mp hb
    have e : x = y := by
      rcases List.mem_cons.mp ((h x).mp List.mem_cons_self) with q | q
      · exact q
      · rcases List.mem_cons.mp ((h y).mpr List.mem_cons_self) with k | k
        · exact k.symm
        · have c := NtL.lex_asym _ _ (b1 x q)
          rw [a1 y k] at c
          cases c
    subst e
    rw [st_uniq a2 b2 fun z => ⟨fun m => ?_, fun m => ?_⟩]
    · rcases List.mem_cons.mp ((h z).mp (List.mem_cons_of_mem _ m)) with q | q
      · rw [q] at m
        have c : HT.lexLt x x = true := a1 x m
        rw [lex_irr] at c
        cases c
      · exact q
    · rcases List.mem_cons.mp ((h z).mpr (List.mem_cons_of_mem _ m)) with q | q
      · rw [q] at m
        have c : HT.lexLt x x = true := b1 x m
        rw [lex_irr] at c
        cases c
      · exact q
section
variable {C : Cfg} {E : XK} {X : Cx} {a : Expr} {fa : Ev → M D} {pos : Pos} {K : PySem.W.Frag} {g : Gh} {H : Hp}
/-- a list of tuples of ints, read -/
theorem tups_read {s : Sto} (w : Wd K g H s) : ∀ {vs : List V} {xs : List D} {ts : List (List Int)}, Reps K g vs xs → tupsOf xs = some ts → ∃ ks : List (Addr × List Int), vs = ks.map (fun p => V.ref p.1) ∧ ks.map (·.2) = ts ∧ (∀ p ∈ ks, SqT K H p.1 (p.2.map V.int)) ∧ ∀ p ∈ ks, Rep K g (.ref p.1) (.tup (p.2.map .int))
  | _, [], ts, h, e => by
    cases h
    cases e
    exact ⟨[], rfl, rfl, fun p q => (by cases q), fun p q => (by cases q)⟩
  | _, x :: r, ts, h, e => by
    cases h with
    | @cons v vs _ _ h1 h2 =>
      unfold tupsOf at e
      cases e1 : tupInts x with
      | none => rw [e1] at e; cases e
      | some i =>
        cases e2 : tupsOf r with
        | none => rw [e1, e2] at e; cases e
        | some is =>
          rw [e1, e2] at e
          cases e
          obtain ⟨ks, rfl, k2, k3, k4⟩ := tups_read w h2 e2
          cases x with
          | tup ds =>
            have ei : ds = i.map D.int := by
              have e1 : intsOf ds = some i := e1
              clear h1 k4 k3 k2 e2 h2
              induction ds generalizing i with
              | nil => cases e1; rfl
              | cons d ds ih =>
                cases d with
                | int n =>
                  unfold intsOf at e1
                  cases e3 : intsOf ds with
                  | none => rw [e3] at e1; cases e1
                  | some m => rw [e3] at e1; cases e1; rw [ih _ e3 e3]; rfl
                | _ => cases e1
            cases h1 with
            | @tup p us _ q1 q2 q3 =>
              have e4 : us = i.map V.int := reps_intsL q3 e1
              refine ⟨(p, i) :: ks, rfl, by rw [List.map_cons, k2], fun z hz => ?_, fun z hz => ?_⟩
              · rcases List.mem_cons.mp hz with rfl | hz
                · rw [e4] at q1
                  exact sqT_mono w.sub q1
                · exact k3 z hz
              · rcases List.mem_cons.mp hz with rfl | hz
                · rw [ei] at q3
                  exact .tup q1 q2 q3
                · exact k4 z hz
          | _ => cases e1
theorem reps_of_rows : ∀ {L : List (Addr × List Int)}, (∀ p ∈ L, Rep K g (.ref p.1) (.tup (p.2.map .int))) → Reps K g (L.map fun p => V.ref p.1) (L.map fun p => D.tup (p.2.map .int))
  | [], _ => .nil
  | p :: L, h => .cons (h p List.mem_cons_self) (reps_of_rows fun q m => h q (List.mem_cons_of_mem _ m))
theorem df_sset {p p2 pos2 : Pos} (hK : X.K = C.K) (hc : X.calm = true) (hu : X.A.units + 65 < cLine) (hg : Gl X "sorted") (hm : X.mg "sorted" = none) (hg2 : Gl X "set") (hm2 : X.mg "set" = none) (ha : DE C E X a fa) (na : nost a = true) :
    DF C E X (.Call (.Name "sorted" p) [.Call (.Name "set" p2) [a] [] pos2] [] pos) (fun ρ => bnd (fa ρ) fun x => lif (ssetD x)) := by
  have p1 : PE X (.Call (.Name "set" p2) [a] [] pos2) _ := pe_callTy (cr_setN hc (by omega)) hg2 hm2 boot_set (pa_cons ha.pe pa_nil (star_ns na)) (he := star_ns na) (hpl := rfl)
  have p2' := pe_callB (p := p) (pos := pos) (cr_sortedN hc) hg hm boot_sorted (pa_cons p1 pa_nil (by rfl)) (he := by rfl) (hpl := rfl)
  refine ⟨PE.imp p2' fun σ H Q ⟨g, ρ, s, w, R, pp⟩ => ?_⟩
  refine ⟨g, ρ, s, w, R, pp.bnd.imp fun x s1 g1 H1 f1 w1 k1 v hv => ?_⟩
  obtain ⟨d, e, k2⟩ := k1.lif
  rw [hK]
  have key : ∀ xs l us, ssetL xs = some d → v = .ref l → Reps C.K g1 us xs → (SqL C.K H1 l us ∨ SqT C.K H1 l us) → rSetN C.K X.prog X.w [v] H1 (fun z H2 => rSortedN C.K X.prog X.w [z] H2 Q) := by
    intro xs l us es ev hr hl
    subst ev
    unfold ssetL at es
    cases e1 : tupsOf xs with
    | none => rw [e1] at es; cases es
    | some ts =>
      rw [e1] at es
      by_cases hc : ts.length < 64 ∧ (ts.all fun t => !t.isEmpty) = true
      · have es : (if ts.length < 64 ∧ (ts.all fun t => !t.isEmpty) = true then some (D.lst ((sortU ts).map fun t => D.tup (t.map .int))) else none) = some d := es
        rw [if_pos hc] at es
        cases es
        obtain ⟨ks, rfl, k3, k4, k5⟩ := tups_read w1 hr e1
        refine ⟨l, ks, rfl, hl, k4, by rw [← k3, List.length_map] at hc; exact hc.1, fun a L hn hs1 hs2 => ?_⟩
        have f2 : Fr g1 H1 g1 (upd H1 a (SetTO X.prog X.w a L)) := fr_new hn
        have w2 := w1.new (o := SetTO X.prog X.w a L) hn
        refine ⟨a, L, rfl, upd_same, fun p m => ?_, fun p m => ?_, fun L' q pm nd few pw hq => ?_⟩
        · cases k5 p (hs1 p m) with
          | tup q1 q2 q3 =>
            have e4 : _ = p.2.map V.int := reps_intsL q3 (by
              clear q3 q2 q1
              induction p.2 with
              | nil => rfl
              | cons n r ih =>
                show (intsOf (r.map D.int)).map (n :: ·) = some (n :: r)
                rw [ih]
                rfl)
            rw [← e4]
            exact sqT_mono w2.sub q1
        · intro z
          have m2 : p.2 ∈ ts := by rw [← k3]; exact List.mem_map.mpr ⟨p, hs1 p m, rfl⟩
          have := List.all_eq_true.mp hc.2 p.2 m2
          rw [z] at this
          cases this
        · have keys : L'.map (·.2) = sortU ts := by
            refine st_uniq ?_ sortU_st fun z => ?_
            · refine List.pairwise_map.mpr ?_
              have nd2 := List.pairwise_map.mp nd
              refine (List.Pairwise.and pw nd2).imp fun {q r} hqr => ?_
              rcases lex_total q.2 r.2 hqr.2 with c | c
              · exact c
              · rw [hqr.1] at c; cases c
            · rw [mem_sortU, ← k3, List.mem_map, List.mem_map]
              constructor
              · rintro ⟨p, m, rfl⟩
                exact ⟨p, hs1 p (pm.mem_iff.mp m), rfl⟩
              · rintro ⟨p, m, rfl⟩
                obtain ⟨p', m', e'⟩ := List.mem_map.mp (hs2 p m)
                exact ⟨p', pm.mem_iff.mpr m', e'⟩
          have f3 : Fr g1 (upd H1 a (SetTO X.prog X.w a L)) g1 (upd (upd H1 a (SetTO X.prog X.w a L)) q (.lst (L'.map fun q => V.ref q.1))) := fr_new hq
          have rr := reps_of_rows (K := C.K) (g := g1) (L := L') fun p m => k5 p (hs1 p (pm.mem_iff.mp m))
          have ed : (sortU ts).map (fun t => D.tup (t.map .int)) = L'.map fun p => D.tup (p.2.map .int) := by
            rw [← keys, List.map_map]
            rfl
          rw [ed] at k2
          refine k2.at (f2.trans f3) (w2.new hq) _ (repF_new w2 hq (f1.there _ (f2.there _ hq)) rr (by rw [List.length_map]; show L'.length ≤ 16777216; omega))
      · have es : (if ts.length < 64 ∧ (ts.all fun t => !t.isEmpty) = true then some (D.lst ((sortU ts).map fun t => D.tup (t.map .int))) else none) = some d := es
        rw [if_neg hc] at es
        cases es
  unfold ssetD at e
  cases x with
  | tup xs =>
    cases hv with
    | tup q1 q2 q3 => exact key xs _ _ e rfl q3 (.inr (sqT_mono w1.sub q1))
  | lst xs =>
    cases hv with
    | lst q1 q2 q3 => exact key xs _ _ e rfl q3 (.inl (sqL_mono w1.sub q1))
  | _ => cases e
end
end Mi
end
section
set_option Elab.async false
set_option linter.all false
set_option maxRecDepth 100000
set_option maxHeartbeats 2000000
/-! MiU: comprehensions of two clauses. -/
namespace Mi
open PySem PySem.Spec PyProof.Rows L2
def NoOwn (ρ : Ev) : Prop := ∀ (i : Nat) ds, ρ[i]? ≠ some (.own ds)
theorem noOwn_drop (ρ : Ev) : NoOwn (dropO ρ) := fun i ds h => by
  unfold dropO at h
  rw [List.getElem?_map] at h
  cases q : ρ[i]? with
  | none => rw [q] at h; cases h
  | some x => rw [q] at h; cases x <;> cases h
theorem NoOwn.set {ρ : Ev} (h : NoOwn ρ) (j : Nat) {x : Sl} (n : ∀ ds, x ≠ .own ds) : NoOwn (ρ.set j x) := fun i ds q => by
  by_cases e : j = i
  · subst e
    have hlt : j < ρ.length := by
      have := (List.getElem?_eq_some_iff.mp q).1
      rwa [List.length_set] at this
    rw [List.getElem?_set_self hlt] at q
    exact n ds (Option.some.inj q)
  · rw [List.getElem?_set_ne e] at q
    exact h i ds q
theorem NoOwn.wipe {ρ : Ev} (h : NoOwn ρ) : ∀ vs, NoOwn (wipeD ρ vs)
  | [] => h
  | v :: vs => (NoOwn.wipe h vs).set v fun _ z => by cases z
mutual
theorem noOwn_tgt : ∀ (t : CT) {d : D} {ρ ρ' : Ev}, tgt t d ρ = some ρ' → NoOwn ρ → NoOwn ρ'
  | .nm i, d, ρ, ρ', e, h => by
    have e' : some (ρ.set i (.val d)) = some ρ' := e
    cases e'
    exact h.set i fun _ z => by cases z
  | .tp ts, d, ρ, ρ', e, h => by
    cases d with
    | tup xs => exact noOwn_tgts ts (show tgts ts xs ρ = some ρ' from e) h
    | _ => cases e
theorem noOwn_tgts : ∀ (t : CTs) {d : List D} {ρ ρ' : Ev}, tgts t d ρ = some ρ' → NoOwn ρ → NoOwn ρ'
  | .nil, d, ρ, ρ', e, h => by
    cases d with
    | nil =>
      have e' : some ρ = some ρ' := e
      cases e'
      exact h
    | cons => cases e
  | .cons t r, d, ρ, ρ', e, h => by
    cases d with
    | nil => cases e
    | cons x xs =>
      have e' : (match tgt t x ρ with | some ρ' => tgts r xs ρ' | none => none) = some ρ' := e
      cases e1 : tgt t x ρ with
      | none => rw [e1] at e'; cases e'
      | some ρ1 =>
        rw [e1] at e'
        exact noOwn_tgts r e' (noOwn_tgt t e1 h)
end
section
variable {K : PySem.W.Frag} {g : Gh} {H : Hp} {σ : L2.St} {ρ : Ev}
theorem REnv.drop (r : REnv K g H σ ρ) : REnv K g H σ (dropO ρ) where
  len := by unfold dropO; rw [List.length_map]; exact r.len
  val := fun i d e => by
    unfold dropO at e
    rw [List.getElem?_map] at e
    cases q : ρ[i]? with
    | none => rw [q] at e; cases e
    | some x =>
      rw [q] at e
      cases x with
      | val d' => cases e; exact r.val i _ q
      | _ => cases e
  own := fun i ds e => absurd e (noOwn_drop ρ i ds)
  inj := fun i j ds es a q1 _ _ _ => absurd q1 (noOwn_drop ρ i ds)
theorem REnv.le (n : NoOwn ρ) {g' : Gh} {H' : Hp} (f : Le g g') (r : REnv K g H σ ρ) : REnv K g' H' σ ρ where
  len := r.len
  val := fun i d e => let ⟨v, h1, h2⟩ := r.val i d e; ⟨v, h1, h2.mono f⟩
  own := fun i ds e => absurd e (n i ds)
  inj := fun i j ds es a q1 _ _ _ => absurd q1 (n i ds)
end
def lc2Step (t : CT) (fc : Ev → M Bool) (fi1 : Ev → M (List D)) (t1 : CT) (fc1 : Ev → M Bool) (fe : Ev → M D) (vs1 : List Nat) (ρ0 : Ev) (d : D) : M (List D) := bnd (lif (tgt t d ρ0)) fun ρ1 => bnd (fc ρ1) fun k => match k with
      | true => bnd (fi1 ρ1) fun ds1 => compL (lcStep t1 fc1 fe (wipeD ρ1 vs1)) ds1
      | false => pur []
theorem tD_lc2 {C : Cfg} {E : XK} {own : List (Str × Nat)} {vs1 : List Nat} {t t1 : CT} {fi fi1 : Ev → M (List D)} {fc fc1 : Ev → M Bool} {fe : Ev → M D} (ht : ∀ i ∈ t.ix, i ∈ own.map (·.2)) (ht1 : ∀ i ∈ t1.ix, i ∈ vs1) : ∀ (σ : L2.St) (H : Hp) (Q : VK),
    tD C E (rF C.K) (fun ρ => bnd (fi ρ) fun ds => nox (bnd (compL (lc2Step t fc fi1 t1 fc1 fe vs1 (wipeD (dropO ρ) (own.map (·.2)))) ds) fun xs => if xs.length ≤ LIM then pur (.lst xs) else stk)) σ H Q →
    tLc2 (tDI C E true fi) (gD C.K t) (tDT C E00 fc) (tDI C E00 false fi1) (gD C.K t1) (tDT C E00 fc1) (tD C E00 (rS C.K) fe) (own.map (·.2)) vs1 σ H Q := by
  intro σ H Q ⟨g, ρ, s, w, R, p⟩
  refine ⟨g, ρ, s, w, R, p.bnd.imp fun ds s1 g1 H1 f1 w1 k1 J hJ hlen Dd hD => ?_⟩
  obtain ⟨r0, s2, e0, k2⟩ := nox_post k1
  obtain ⟨xs, s3, e1, e2⟩ := bnd_ok e0
  have hxl : xs.length ≤ LIM := by
    by_cases q : xs.length ≤ LIM
    · exact q
    · rw [if_neg q] at e2; cases e2
  rw [if_pos hxl] at e2
  obtain ⟨rfl, rfl⟩ := pur_ok e2
  have hDS := w1.none hD
  have hDH : H Dd = none := f1.there Dd hD
  have nO : NoOwn (wipeD (dropO ρ) (own.map (·.2))) := (noOwn_drop ρ).wipe _
  refine ⟨fun i m H' => m = ds.length - i ∧ i ≤ ds.length ∧ ∃ g' s' vs acc rest, Fr g1 H1 g' H' ∧ Wd C.K g' H' s' ∧ H' Dd = some (.lst vs) ∧ g'.S Dd = none ∧ Dd ∉ g'.B ∧ Reps C.K g' vs acc ∧
    compL (lc2Step t fc fi1 t1 fc1 fe vs1 (wipeD (dropO ρ) (own.map (·.2)))) (ds.drop i) s' = .ok rest s2 ∧ xs = acc ++ rest,
    ⟨ds.length, by simp, Nat.zero_le _, g1, s1, [], [], xs, (Fr.refl g1 H1).write hD, w1.write hDS.1 hDS.2, upd_same, hDS.1, hDS.2, .nil, e1, rfl⟩, ?_⟩
  rintro i m H' ⟨rfl, hi, g', s', vs, acc, rest, fr, wd, hDd, nS, nB, rp, ec, ex⟩
  have gd : Good C.K true g1 H1 g' H' := ⟨⟨s', wd⟩, fr.le, fun _ => fr⟩
  by_cases hlt : i < ds.length
  · refine .inr ⟨hJ.go g' H' i gd hlt, fun H'' => ∃ m', m' < ds.length - i ∧ (m' = ds.length - (i + 1) ∧ i + 1 ≤ ds.length ∧ ∃ g' s' vs acc rest, Fr g1 H1 g' H'' ∧ Wd C.K g' H'' s' ∧ H'' Dd = some (.lst vs) ∧ g'.S Dd = none ∧ Dd ∉ g'.B ∧ Reps C.K g' vs acc ∧
      compL (lc2Step t fc fi1 t1 fc1 fe vs1 (wipeD (dropO ρ) (own.map (·.2)))) (ds.drop (i + 1)) s' = .ok rest s2 ∧ xs = acc ++ rest), fun H'' h => h, fun x Hy hy => ?_⟩
    obtain ⟨g2, d, hd, fr2, wd2, rx⟩ := hJ.yld g' H' i x Hy gd hlt hy
    have wd2' := wd2 s' wd
    have ed : ds.drop i = d :: ds.drop (i + 1) := by
      rw [List.drop_eq_getElem_cons hlt]
      congr 1
      rw [List.getElem?_eq_getElem hlt] at hd
      exact Option.some.inj hd
    rw [ed] at ec
    obtain ⟨o, s4, c1, c2⟩ := bnd_ok (show bnd (lc2Step t fc fi1 t1 fc1 fe vs1 (wipeD (dropO ρ) (own.map (·.2))) d) (fun o => bnd (compL (lc2Step t fc fi1 t1 fc1 fe vs1 (wipeD (dropO ρ) (own.map (·.2)))) (ds.drop (i + 1))) fun r => pur (o ++ r)) s' = .ok rest s2 from ec)
    obtain ⟨rest', s5, c3, c4⟩ := bnd_ok c2
    obtain ⟨rfl, rfl⟩ := pur_ok c4
    obtain ⟨ρ1, s6, c5, c6⟩ := bnd_ok c1
    obtain ⟨c7, rfl⟩ := lif_ok c5
    obtain ⟨b, s7, c8, c9⟩ := bnd_ok c6
    have frA : Fr g H g2 Hy := f1.trans (fr.trans fr2)
    have RA := (R.drop.fr frA).wipe (own.map (·.2))
    have nO1 : NoOwn ρ1 := noOwn_tgt t c7 nO
    have hDy : Hy Dd = some (.lst vs) := fr2.keep Dd _ hDd nB
    have nS2 := fr2.newS Dd _ hDd nS
    have nB2 := fr2.newB Dd _ hDd nB
    refine ⟨g2, _, s6, d, ρ1, wd2', RA, rx, c7, fun σ2 R2 u2 => ⟨wipe_upd u2 ht, g2, ρ1, s6, wd2', R2, post_ok c8 fun g3 H3 fr3 wd3 => ?_⟩⟩
    have hD3 : H3 Dd = some (.lst vs) := fr3.keep Dd _ hDy nB2
    have nS3 := fr3.newS Dd _ hDy nS2
    have nB3 := fr3.newB Dd _ hDy nB2
    cases b with
    | true =>
      refine iteT ?_
      obtain ⟨ds1, s8, c10, c11⟩ := bnd_ok c9
      refine ⟨g3, ρ1, s7, wd3, R2.fr fr3, post_ok c10 fun g4 H4 fr4 wd4 J1 hJ1 hlen1 => ?_⟩
      have hD4 : H4 Dd = some (.lst vs) := fr4.keep Dd _ hD3 nB3
      have nS4 := fr4.newS Dd _ hD3 nS3
      have nB4 := fr4.newB Dd _ hD3 nB3
      have R4 : REnv C.K g4 H4 σ2 ρ1 := (R2.fr fr3).fr fr4
      -- the inner loop's invariant
      refine ⟨fun j k H' => k = ds1.length - j ∧ j ≤ ds1.length ∧ ∃ g' s' vs acc r1, Fr g1 H1 g' H' ∧ Wd C.K g' H' s' ∧ Le g4 g' ∧ H' Dd = some (.lst vs) ∧ g'.S Dd = none ∧ Dd ∉ g'.B ∧ Reps C.K g' vs acc ∧
        compL (lcStep t1 fc1 fe (wipeD ρ1 vs1)) (ds1.drop j) s' = .ok r1 s4 ∧ xs = acc ++ (r1 ++ rest'),
        ⟨ds1.length, by simp, Nat.zero_le _, g4, s8, vs, acc, o, (fr.trans fr2).trans (fr3.trans fr4), wd4, Le.refl g4, hD4, nS4, nB4, ((rp.mono fr2.le).mono fr3.le).mono fr4.le, c11, ex⟩, ?_⟩
      rintro j k H5 ⟨rfl, hj, g5, s9, vs5, acc5, r1, fr5, wd5, le5, hD5, nS5, nB5, rp5, ec5, ex5⟩
      have gd5 : Good C.K false g4 H4 g5 H5 := ⟨⟨s9, wd5⟩, le5, fun z => by cases z⟩
      by_cases hlt1 : j < ds1.length
      · refine .inr ⟨hJ1.go g5 H5 j gd5 hlt1, fun H'' => ∃ k', k' < ds1.length - j ∧ (k' = ds1.length - (j + 1) ∧ j + 1 ≤ ds1.length ∧ ∃ g' s' vs acc r1, Fr g1 H1 g' H'' ∧ Wd C.K g' H'' s' ∧ Le g4 g' ∧ H'' Dd = some (.lst vs) ∧ g'.S Dd = none ∧ Dd ∉ g'.B ∧ Reps C.K g' vs acc ∧
          compL (lcStep t1 fc1 fe (wipeD ρ1 vs1)) (ds1.drop (j + 1)) s' = .ok r1 s4 ∧ xs = acc ++ (r1 ++ rest')), fun H'' h => h, fun x1 Hz hz => ?_⟩
        obtain ⟨g6, d1, hd1, fr6, wd6, rx1⟩ := hJ1.yld g5 H5 j x1 Hz gd5 hlt1 hz
        have wd6' := wd6 s9 wd5
        have ed1 : ds1.drop j = d1 :: ds1.drop (j + 1) := by
          rw [List.drop_eq_getElem_cons hlt1]
          congr 1
          rw [List.getElem?_eq_getElem hlt1] at hd1
          exact Option.some.inj hd1
        rw [ed1] at ec5
        obtain ⟨o1, s10, a1, a2⟩ := bnd_ok (show bnd (lcStep t1 fc1 fe (wipeD ρ1 vs1) d1) (fun o => bnd (compL (lcStep t1 fc1 fe (wipeD ρ1 vs1)) (ds1.drop (j + 1))) fun r => pur (o ++ r)) s9 = .ok r1 s4 from ec5)
        obtain ⟨r1', s11, a3, a4⟩ := bnd_ok a2
        obtain ⟨rfl, rfl⟩ := pur_ok a4
        obtain ⟨ρ2, s12, a5, a6⟩ := bnd_ok a1
        obtain ⟨a7, rfl⟩ := lif_ok a5
        obtain ⟨b1, s13, a8, a9⟩ := bnd_ok a6
        have R6 : REnv C.K g6 Hz (wipe σ2 vs1) (wipeD ρ1 vs1) := (R4.le nO1 (le5.trans fr6.le)).wipe vs1
        have hDz : Hz Dd = some (.lst vs5) := fr6.keep Dd _ hD5 nB5
        have nS6 := fr6.newS Dd _ hD5 nS5
        have nB6 := fr6.newB Dd _ hD5 nB5
        refine ⟨g6, _, s12, d1, ρ2, wd6', R6, rx1, a7, fun σ3 R3 u3 => ⟨wipe_upd u3 ht1, g6, ρ2, s12, wd6', R3, post_ok a8 fun g7 H7 fr7 wd7 => ?_⟩⟩
        have hD7 : H7 Dd = some (.lst vs5) := fr7.keep Dd _ hDz nB6
        have nS7 := fr7.newS Dd _ hDz nS6
        have nB7 := fr7.newB Dd _ hDz nB6
        cases b1 with
        | true =>
          refine iteT ?_
          obtain ⟨y, s14, a10, a11⟩ := bnd_ok a9
          obtain ⟨rfl, rfl⟩ := pur_ok a11
          refine ⟨g7, ρ2, s13, wd7, R3.fr fr7, post_ok a10 fun g8 H8 fr8 wd8 v hv => ?_⟩
          have hD8 : H8 Dd = some (.lst vs5) := fr8.keep Dd _ hD7 nB7
          have nS8 := fr8.newS Dd _ hD7 nS7
          have nB8 := fr8.newB Dd _ hD7 nB7
          have lv := rp5.length
          have ll := lim_eq
          have lx : acc5.length < LIM := by
            rw [ex5] at hxl
            simp only [List.length_append, List.length_cons, List.length_nil] at hxl
            omega
          refine ⟨vs5, hD8, by omega, ds1.length - (j + 1), by omega, rfl, hlt1, g8, _, vs5 ++ [v], acc5 ++ [y], r1', ?_, wd8.write nS8 nB8, le5.trans ((fr6.trans fr7).trans fr8).le, upd_same, nS8, nB8, ?_, a3, ?_⟩
          · exact (fr5.trans (fr6.trans (fr7.trans fr8))).write hD
          · exact ((((rp5.mono fr6.le).mono fr7.le).mono fr8.le)).append (.cons hv .nil)
          · rw [ex5]
            simp
        | false =>
          refine iteF ?_
          obtain ⟨rfl, rfl⟩ := pur_ok a9
          refine ⟨ds1.length - (j + 1), by omega, rfl, hlt1, g7, _, vs5, acc5, r1', fr5.trans (fr6.trans fr7), wd7, le5.trans (fr6.trans fr7).le, hD7, nS7, nB7, (rp5.mono fr6.le).mono fr7.le, a3, ?_⟩
          rw [ex5]
          simp
      · have e3 : j = ds1.length := by omega
        subst e3
        rw [List.drop_length] at ec5
        obtain ⟨rfl, rfl⟩ := pur_ok (show pur ([] : List D) s9 = .ok r1 s4 from ec5)
        refine .inl ⟨hJ1.stop g5 H5 _ gd5 (Nat.le_refl _), ds.length - (i + 1), by omega, rfl, hlt, g5, _, vs5, acc5, rest', fr5, wd5, hD5, nS5, nB5, rp5, c3, ?_⟩
        rw [ex5]
        simp
    | false =>
      refine iteF ?_
      obtain ⟨rfl, rfl⟩ := pur_ok c9
      refine ⟨ds.length - (i + 1), by omega, rfl, hlt, g3, _, vs, acc, rest', (fr.trans fr2).trans fr3, wd3, hD3, nS3, nB3, (rp.mono fr2.le).mono fr3.le, c3, ?_⟩
      rw [ex]
      simp
  · have e3 : i = ds.length := by omega
    subst e3
    rw [List.drop_length] at ec
    obtain ⟨rfl, rfl⟩ := pur_ok (show pur ([] : List D) s' = .ok rest s2 from ec)
    refine .inl ⟨hJ.stop g' H' _ gd (Nat.le_refl _), ?_⟩
    rw [List.append_nil] at ex
    subst ex
    refine k2 g' H' fr wd _ ⟨fun es ee => ?_, fun n => absurd rfl (n xs)⟩
    have ee' : xs = es := D.lst.inj ee
    subst ee'
    exact ⟨Dd, vs, rfl, hDH, hDd, by rw [rp.length]; exact hxl, rp, nS, nB⟩
theorem df_lc2 {C : Cfg} {E : XK} {X : Cx} {elt tg iter tg1 iter1 : Expr} {ifs ifs1 : List Expr} {scope : Scope} {own : List (Str × Nat)} {vs1 : List Nat} {pos : Pos} {t t1 : CT} {fi fi1 : Ev → M (List D)} {fc fc1 : Ev → M Bool} {fe : Ev → M D} (hc : X.calm = true) (hN : X.N.Nodup) (hi : DI C E X tg iter true fi) (ok : BlkOk X.N X.env.scope scope own) (hv : ∀ i ∈ vs1, i ∈ own.map (·.2))
    (ht : ∀ i ∈ t.ix, i ∈ own.map (·.2)) (ht1 : ∀ i ∈ t1.ix, i ∈ vs1)
    (hg : ∀ (s : Shared) (H : Hp) (C' : Addr) (cl : List (Str × Addr)) (fp : List Addr), PG (X.blk s H scope (compEnvC scope cl C' X.env) fp) tg (gD C.K t)) (hif : ∀ (s : Shared) (H : Hp) (C' : Addr) (cl : List (Str × Addr)) (fp : List Addr), DTs C E00 (X.blk s H scope (compEnvC scope cl C' X.env) fp) ifs fc)
    (hi1 : ∀ (s : Shared) (H : Hp) (C' : Addr) (cl : List (Str × Addr)) (fp : List Addr), DI C E00 (X.blk s H scope (compEnvC scope cl C' X.env) fp) tg1 iter1 false fi1)
    (hg1 : ∀ (s : Shared) (H : Hp) (C' : Addr) (cl : List (Str × Addr)) (fp : List Addr), PG (X.blk s H scope (compEnvC scope cl C' X.env) fp) tg1 (gD C.K t1)) (hif1 : ∀ (s : Shared) (H : Hp) (C' : Addr) (cl : List (Str × Addr)) (fp : List Addr), DTs C E00 (X.blk s H scope (compEnvC scope cl C' X.env) fp) ifs1 fc1)
    (he : ∀ (s : Shared) (H : Hp) (C' : Addr) (cl : List (Str × Addr)) (fp : List Addr), DE C E00 (X.blk s H scope (compEnvC scope cl C' X.env) fp) elt fe) (hs : ∀ x, foldedSetIterable iter X.env x = pure x) (hs1 : ∀ env x, foldedSetIterable iter1 env x = pure x) :
    DF C E X (.ListComp elt [⟨tg, iter, ifs, 0⟩, ⟨tg1, iter1, ifs1, 0⟩] scope pos) (fun ρ => bnd (fi ρ) fun ds => nox (bnd (compL (lc2Step t fc fi1 t1 fc1 fe vs1 (wipeD (dropO ρ) (own.map (·.2)))) ds) fun xs => if xs.length ≤ LIM then pur (.lst xs) else stk)) :=
  ⟨PE.imp (pe_lc2 hc hN hi.pi ok hv hg (fun s H C' cl fp => (hif s H C' cl fp).pt) (fun s H C' cl fp => (hi1 s H C' cl fp).pi) hg1 (fun s H C' cl fp => (hif1 s H C' cl fp).pt) (fun s H C' cl fp => (he s H C' cl fp).pe) hs hs1) (tD_lc2 ht ht1)⟩
end Mi
end
section
set_option Elab.async false
set_option linter.all false
set_option maxRecDepth 100000
set_option maxHeartbeats 1600000
/-! MiZ: list(zip(a, b)). -/
namespace MiZ
open PySem PySem.W PySem.Calls PyProof.Rows
/-- a zip that has handed out the tuple at a, which still lives -/
abbrev ZipB (h : Heap) (z TI TO a : Addr) (f : Bool) : Prop := h.get? z = some { cls := .type "zip", dict := none, data := .fields #[rawInt a, .bool f, .bool false, .ref TI, .ref TO], slots := #[] }
section
variable {prog : Program} {w : World} {A : Around} {E : Value → Shared → Prop} {s : Shared} {z TI TO i1 i2 : Addr} {fp1 fp2 : List Addr} {n1 n2 i : Nat} {P1 P2 : Nat → Value → Prop} {St1 St2 : Nat → Heap → Prop}
theorem busy {a : Addr} {f : Bool} {oa : Obj} (hz : ZipB s.heap z TI TO a f) (ha : s.heap.get? a = some oa) {Q : Bool → Shared → Prop} (hQ : ∀ h', ZipB h' z TI TO a true → Heap.SameBut z s.heap h' → Q false { s with heap := h' }) :
    wpAny (model prog w) A (Builtin.SmallTypes.ownedTupleIsFree (.ref z)) Q E s := by
  unfold Builtin.SmallTypes.ownedTupleIsFree
  refine wpAny_bind (wpAny_field hz rfl (x := rawInt a) rfl ?_)
  show wpAny _ _ (loadIfAlive ((a : Int).toNat) >>= _) _ _ _
  rw [Int.toNat_natCast]
  refine wpAny_bind (kdx_alive ha ?_)
  simp only [Option.isNone_some, Bool.false_eq_true, if_false]
  refine wpAny_bind (wpAny_field hz rfl (x := .bool f) rfl ?_)
  cases f with
  | true =>
    rw [if_neg (show ¬ ((Value.bool true != Value.bool true) = true) from Bool.false_ne_true)]
    exact wpAny_pure (hQ s.heap hz (Heap.SameBut.refl _ _))
  | false =>
    rw [if_pos (show (Value.bool false != Value.bool true) = true from rfl)]
    refine wpAny_bind (wpAny_setField_rec hz (by simp) fun h₃ he₃ hs₃ => ?_)
    exact wpAny_pure (hQ h₃ he₃ hs₃)
theorem next_item {a : Addr} {f : Bool} {oa : Obj} {Q : Value → Shared → Prop} (S : ZipSep2 z TI TO i1 i2 fp1 fp2) (D1 : Draws prog w A i1 fp1 n1 P1 St1) (D2 : Draws prog w A i2 fp2 n2 P2 St2)
    (hz : ZipB s.heap z TI TO a f) (ha : s.heap.get? a = some oa) (hTI : IsTupOf2 s.heap TI (.ref i1) (.ref i2)) (st1 : St1 i s.heap) (st2 : St2 i s.heap) (hlt1 : i < n1) (hlt2 : i < n2)
    (hQ : ∀ x1 x2 h' tk, P1 i x1 → P2 i x2 → ZipB h' z TI TO a true → St1 (i + 1) h' → St2 (i + 1) h' → IsTupOf2 h' s.heap.objs.size x1 x2 → h'.objs.size = s.heap.objs.size + 1 →
      (∀ c o, c ≠ z → c ≠ i1 → c ≠ i2 → s.heap.get? c = some o → h'.get? c = some o) → Q (.ref s.heap.objs.size) { s with heap := h', toks := tk }) :
    wpAny (model prog w) A (Builtin.«zip.__next__» ⟨[.ref z], []⟩) (fun fin s' => ∃ v, fin = .done (.ret v) ∧ Q v s') E s := by
  obtain ⟨hp, g, d, tk0, os⟩ := s
  show wpAny _ _ (field (.ref z) 2 >>= _) _ _ _
  refine wpAny_bind (wpAny_field hz rfl (x := .bool false) rfl ?_)
  show wpAny _ _ (field (.ref z) 3 >>= _) _ _ _
  refine wpAny_bind (wpAny_field hz rfl (x := .ref TI) rfl ?_)
  refine wpAny_bind (wpAny_seqItems hTI rfl ?_)
  show wpAny _ _ (Builtin.SmallTypes.ownedTupleIsFree (.ref z) >>= _) _ _ _
  refine wpAny_bind (busy (s := ⟨hp, g, d, tk0, os⟩) hz ha fun g0 hz0 hs0 => ?_)
  replace hs0 : Heap.SameBut z hp g0 := hs0
  simp only [Bool.false_eq_true, if_false]
  refine wpAny_bind ?_
  simp only [List.forIn_toArray, List.forIn_cons, List.forIn_nil]
  refine wpAny_bind (wpAny_bind (wpAny_holding ?_))
  show wpAny _ _ (Builtin.SmallTypes.nextOf (.ref i1) >>= _) _ _ ⟨g0, g, d, tk0, os⟩
  refine wpAny_bind (D1.item i _ _ _ hlt1 (D1.over st1 hs0 S.zf1) fun x1 p1 tk1 hx1 sn1 hp1 => wpAny_pure ?_)
  replace hp1 : Heap.SameBut i1 g0 p1 := hp1
  refine wpAny_pure ?_
  refine wpAny_bind (wpAny_bind (wpAny_holding ?_))
  show wpAny _ _ (Builtin.SmallTypes.nextOf (.ref i2) >>= _) _ _ ⟨p1, g, d, tk1, os⟩
  refine wpAny_bind (D2.item i _ _ _ hlt2 (D2.over (D2.over st2 hs0 S.zf2) hp1 S.sep1_2) fun x2 p2 tk2 hx2 sn2 hp2 => wpAny_pure ?_)
  replace hp2 : Heap.SameBut i2 p1 p2 := hp2
  refine wpAny_pure (wpAny_pure ?_)
  refine wpAny_bind (wpAny_newTuple (hsz := by show 2 ≤ sizeLine; decide) ?_)
  have hsz : p2.objs.size = hp.objs.size := by rw [hp2.1, hp1.1, hs0.1]
  refine wpAny_pure ⟨_, rfl, ?_⟩
  show Q (.ref p2.objs.size) ⟨p2.push { cls := .type "tuple", data := .seq #[x1, x2] }, g, d, tk2, os⟩
  have up : ∀ c o, p2.get? c = some o → (p2.push { cls := .type "tuple", data := .seq #[x1, x2] }).get? c = some o := fun c o e => Heap.get?_push_of_some _ e
  rw [hsz]
  refine hQ x1 x2 _ tk2 hx1 hx2 (up _ _ (hp2.extBut _ _ S.zi2 (hp1.extBut _ _ S.zi1 hz0))) (D1.frame _ _ _ (D1.over sn1 hp2 S.sep2_1) fun b hb o e => up b o e) (D2.frame _ _ _ sn2 fun b hb o e => up b o e) (by rw [← hsz]; exact Heap.get?_push_size _ rfl) (by rw [Heap.size_push, hsz]) fun c o cz c1 c2 e => up c o (hp2.extBut _ _ c2 (hp1.extBut _ _ c1 (hs0.extBut _ _ cz e)))
theorem next_end {a : Addr} {f : Bool} {oa : Obj} {Q : Fin → Shared → Prop} (S : ZipSep2 z TI TO i1 i2 fp1 fp2) (D1 : Draws prog w A i1 fp1 n1 P1 St1) (D2 : Draws prog w A i2 fp2 n2 P2 St2)
    (hz : ZipB s.heap z TI TO a f) (ha : s.heap.get? a = some oa) (hTI : IsTupOf2 s.heap TI (.ref i1) (.ref i2)) (st1 : St1 i s.heap) (st2 : St2 i s.heap) (hle1 : i ≤ n1) (hle2 : i ≤ n2) (hend : i = n1 ∨ i = n2)
    (hE : ∀ h' tk e, (∀ c o, c ≠ z → c ≠ i1 → c ≠ i2 → s.heap.get? c = some o → h'.get? c = some o) → (∃ o, h'.get? e = some o ∧ o.cls = .type "StopIteration") → E (.ref e) { s with heap := h', toks := tk }) :
    wpAny (model prog w) A (Builtin.«zip.__next__» ⟨[.ref z], []⟩) Q E s := by
  obtain ⟨hp, g, d, tk0, os⟩ := s
  show wpAny _ _ (field (.ref z) 2 >>= _) _ _ _
  refine wpAny_bind (wpAny_field hz rfl (x := .bool false) rfl ?_)
  show wpAny _ _ (field (.ref z) 3 >>= _) _ _ _
  refine wpAny_bind (wpAny_field hz rfl (x := .ref TI) rfl ?_)
  refine wpAny_bind (wpAny_seqItems hTI rfl ?_)
  show wpAny _ _ (Builtin.SmallTypes.ownedTupleIsFree (.ref z) >>= _) _ _ _
  refine wpAny_bind (busy (s := ⟨hp, g, d, tk0, os⟩) hz ha fun g0 hz0 hs0 => ?_)
  replace hs0 : Heap.SameBut z hp g0 := hs0
  simp only [Bool.false_eq_true, if_false]
  refine wpAny_bind ?_
  simp only [List.forIn_toArray, List.forIn_cons, List.forIn_nil]
  refine wpAny_bind (wpAny_bind (wpAny_holding ?_))
  show wpAny _ _ (Builtin.SmallTypes.nextOf (.ref i1) >>= _) _ _ ⟨g0, g, d, tk0, os⟩
  by_cases hlt1 : i < n1
  · refine wpAny_bind (D1.item i _ _ _ hlt1 (D1.over st1 hs0 S.zf1) fun x1 p1 tk1 hx1 sn1 hp1 => wpAny_pure ?_)
    replace hp1 : Heap.SameBut i1 g0 p1 := hp1
    refine wpAny_pure ?_
    have hi2 : i = n2 := by omega
    refine wpAny_bind (wpAny_bind (wpAny_holding ?_))
    show wpAny _ _ (Builtin.SmallTypes.nextOf (.ref i2) >>= _) _ _ ⟨p1, g, d, tk1, os⟩
    refine wpAny_bind (D2.done ⟨p1, g, d, tk1, os⟩ _ _ (by rw [← hi2]; exact (D2.over (D2.over st2 hs0 S.zf2) hp1 S.sep1_2)) fun q e hq he => ?_)
    exact hE q tk1 e (fun c o cz c1 c2 x => hq _ _ c2 (hp1.extBut _ _ c1 (hs0.extBut _ _ cz x))) he
  · have hi1 : i = n1 := by omega
    refine wpAny_bind (D1.done ⟨g0, g, d, tk0, os⟩ _ _ (by rw [← hi1]; exact (D1.over st1 hs0 S.zf1)) fun q e hq he => ?_)
    exact hE q tk0 e (fun c o cz c1 c2 x => hq _ _ c1 (hs0.extBut _ _ cz x)) he
/-- the zip at its i-th turn; what it has handed out lies above S -/
def ZSt (h : Heap) (z TI TO S : Addr) (i : Nat) : Prop :=
  (i = 0 ∧ IsZip h z TI TO .none ∧ ∃ a1 a2, IsTupOf2 h TO a1 a2) ∨ ∃ a f oa, ZipB h z TI TO a f ∧ h.get? a = some oa ∧ S < a
theorem ZSt.keep {h h' : Heap} {S : Addr} (x : ZSt h z TI TO S i) (hk : ∀ b o, b ≠ S → h.get? b = some o → h'.get? b = some o) (h1 : z ≠ S) (h2 : TO ≠ S) : ZSt h' z TI TO S i := by
  rcases x with ⟨e, hz, a1, a2, hT⟩ | ⟨a, f, oa, hz, ha, hl⟩
  · exact .inl ⟨e, hk _ _ h1 hz, a1, a2, hk _ _ h2 hT⟩
  · exact .inr ⟨a, f, oa, hk _ _ h1 hz, hk _ _ (Nat.ne_of_gt hl) ha, hl⟩
theorem nx_item {S : Addr} {Q : Option Value → Shared → Prop} (SP : ZipSep2 z TI TO i1 i2 fp1 fp2) (D1 : Draws prog w A.in1 i1 fp1 n1 P1 St1) (D2 : Draws prog w A.in1 i2 fp2 n2 P2 St2)
    (hz : ZSt s.heap z TI TO S i) (hS : S < s.heap.objs.size) (hzS : z < S) (h1S : i1 < S) (h2S : i2 < S) (hTS : TO < S) (hTI : IsTupOf2 s.heap TI (.ref i1) (.ref i2)) (st1 : St1 i s.heap) (st2 : St2 i s.heap) (hlt1 : i < n1) (hlt2 : i < n2)
    (hQ : ∀ x1 x2 h' tk, P1 i x1 → P2 i x2 → ZSt h' z TI TO S (i + 1) → St1 (i + 1) h' → St2 (i + 1) h' → IsTupOf2 h' s.heap.objs.size x1 x2 → h'.objs.size = s.heap.objs.size + 1 →
      (∀ c o, c ≠ z → c ≠ TO → c ≠ i1 → c ≠ i2 → s.heap.get? c = some o → h'.get? c = some o) → Q (some (.ref s.heap.objs.size)) { s with heap := h', toks := tk }) :
    wpAny (model prog w) A (pyNext (.ref z)) Q E s := by
  rcases hz with ⟨rfl, hz, a1, a2, hT⟩ | ⟨a, f, oa, hz, ha, hl⟩
  · refine wpAny_pyNext_zipD2_item SP D1 D2 hz hTI hT st1 st2 hlt1 hlt2 fun x1 x2 h' tk y1 y2 b1 b2 d1 d2 b5 b6 b7 => ?_
    exact hQ x1 x2 h' tk y1 y2 (.inr ⟨_, false, _, b1, b5, hS⟩) d1 d2 b5 b6 b7
  · have hTy : s.TypeIs (.ref z) "zip" := ⟨_, hz, rfl⟩
    unfold pyNext
    exact wpAny_bind (wpAny_attempt (wpAny_callSpecial?_slot (name := Str.ofString "__next__") hTy F.slot_zip_next
      (wpAny_call_entry F.slot_zip_next hTy F.entry_zip_next
        (next_item SP D1 D2 hz ha hTI st1 st2 hlt1 hlt2 fun x1 x2 h' tk y1 y2 b1 d1 d2 b5 b6 b7 => wpAny_pure (hQ x1 x2 h' tk y1 y2
          (.inr ⟨a, true, oa, b1, b7 _ _ (Nat.ne_of_gt (Nat.lt_trans hzS hl)) (Nat.ne_of_gt (Nat.lt_trans h1S hl)) (Nat.ne_of_gt (Nat.lt_trans h2S hl)) ha, hl⟩) d1 d2 b5 b6 fun c o cz _ c1 c2 e => b7 c o cz c1 c2 e)) (F.args_zip_next_1 _))))
theorem nx_end {S : Addr} {Q : Option Value → Shared → Prop} (SP : ZipSep2 z TI TO i1 i2 fp1 fp2) (D1 : Draws prog w A.in1 i1 fp1 n1 P1 St1) (D2 : Draws prog w A.in1 i2 fp2 n2 P2 St2)
    (hz : ZSt s.heap z TI TO S i) (hTI : IsTupOf2 s.heap TI (.ref i1) (.ref i2)) (st1 : St1 i s.heap) (st2 : St2 i s.heap) (hle1 : i ≤ n1) (hle2 : i ≤ n2) (hend : i = n1 ∨ i = n2)
    (hQ : ∀ h' tk, (∀ c o, c ≠ z → c ≠ TO → c ≠ i1 → c ≠ i2 → s.heap.get? c = some o → h'.get? c = some o) → Q none { s with heap := h', toks := tk }) : wpAny (model prog w) A (pyNext (.ref z)) Q E s := by
  rcases hz with ⟨rfl, hz, a1, a2, hT⟩ | ⟨a, f, oa, hz, ha, hl⟩
  · exact wpAny_pyNext_zipD2_end SP D1 D2 hz hTI hT st1 st2 hle1 hle2 hend hQ
  · have hTy : s.TypeIs (.ref z) "zip" := ⟨_, hz, rfl⟩
    unfold pyNext
    refine wpAny_bind (wpAny_attempt (wpAny_callSpecial?_slot (name := Str.ofString "__next__") hTy F.slot_zip_next
      (wpAny_call_entry F.slot_zip_next hTy F.entry_zip_next (next_end SP D1 D2 hz ha hTI st1 st2 hle1 hle2 hend fun h' tk e hk he => ?_) (F.args_zip_next_1 _))))
    obtain ⟨o, ho, hc⟩ := he
    refine wpAny_bind (wpAny_isInstance (T := "StopIteration") (b := true) ⟨o, ho, hc⟩ isSubtype_stop ?_)
    exact wpAny_pure (hQ _ _ fun c o cz _ c1 c2 e => hk c o cz c1 c2 e)
end
/-- the pairs made so far -/
structure Made (P1 P2 : Nat → Value → Prop) (S : Addr) (h : Heap) (as : List Addr) : Prop where
  above : ∀ a ∈ as, S < a
  nd : as.Nodup
  pairs : ∀ (j : Nat) (a : Addr), as[j]? = some a → ∃ x y, P1 j x ∧ P2 j y ∧ IsTupOf2 h a x y
theorem no_len : typeLookup (.type "zip") "__len__" = pure none := by rw [typeLookup_type, builtinLookup_eq_fast]; kernel_rfl
theorem no_hint : typeLookup (.type "zip") "__length_hint__" = pure none := by rw [typeLookup_type, builtinLookup_eq_fast]; kernel_rfl
section
variable {prog : Program} {w : World} {A : Around} {s : Shared} {R : Result → Shared → Prop} {z TI TO i1 i2 S : Addr} {fp1 fp2 : List Addr} {n1 n2 : Nat} {P1 P2 : Nat → Value → Prop} {St1 St2 : Nat → Heap → Prop}
theorem loop (SP : ZipSep2 z TI TO i1 i2 fp1 fp2) (D1 : Draws prog w A.in1.in1 i1 fp1 n1 P1 St1) (D2 : Draws prog w A.in1.in1 i2 fp2 n2 P2 St2) (hzS : z < S) (h1S : i1 < S) (h2S : i2 < S) (hTS : TO < S) (hIS : TI < S) (hf1 : S ∉ fp1) (hf2 : S ∉ fp2) (hn : min n1 n2 ≤ sizeLine) {h₁ : Heap}
    (hR : ∀ h' tk acc c as, (∀ b o, b ≠ S → b ≠ z → b ≠ TO → b ≠ i1 → b ≠ i2 → h₁.get? b = some o → h'.get? b = some o) → h'.get? S = some { cls := .type "list", dict := none, data := .seq acc c, slots := #[] } → as.length = min n1 n2 → Made P1 P2 S h' as →
      acc.toList = as.map Value.ref → R (.ok (.ret .none)) { s with heap := h', toks := tk }) :
    ∀ (k i : Nat) (h : Heap) (tk c : Nat) (acc : Array Value) (as : List Addr), min n1 n2 - i = k → i ≤ min n1 n2 → ZSt h z TI TO S i → IsTupOf2 h TI (.ref i1) (.ref i2) → St1 i h → St2 i h → (∀ b o, b ≠ S → b ≠ z → b ≠ TO → b ≠ i1 → b ≠ i2 → h₁.get? b = some o → h.get? b = some o) →
      h.get? S = some { cls := .type "list", dict := none, data := .seq acc c, slots := #[] } → acc.toList = as.map Value.ref → as.length = i → Made P1 P2 S h as →
      codeAny (model prog w) A (.builtin "list.extend.loop" ⟨[.ref S, .ref z, .none], []⟩) R { s with heap := h, toks := tk } := by
  intro k
  induction k with
  | zero =>
    intro i h tk c acc as hk hi hz hTI st1 st2 hkeep hS hacc hal hM
    refine codeAny_builtin PySem.F.entry_extend_loop ?_
    rw [Around.under_plainId PySem.F.plain_extend_loop _]
    show wpAny _ A.in1 (pyNext (.ref z) >>= _) _ _ _
    refine wpAny_bind (nx_end (s := { s with heap := h, toks := tk }) (A := A.in1) (i := i) SP D1 D2 hz hTI st1 st2 (by omega) (by omega) (by omega) fun h' tk' he => ?_)
    refine wpAny_pure (hR h' tk' acc c as (fun b o b0 b1 b2 b3 b4 e => he b o b1 b2 b3 b4 (hkeep b o b0 b1 b2 b3 b4 e)) (he S _ (Nat.ne_of_gt hzS) (Nat.ne_of_gt hTS) (Nat.ne_of_gt h1S) (Nat.ne_of_gt h2S) hS) (by omega) ⟨hM.above, hM.nd, fun j a hj => ?_⟩ hacc)
    obtain ⟨x, y, e1, e2, e3⟩ := hM.pairs j a hj
    have hb := hM.above a (List.mem_of_getElem? hj)
    exact ⟨x, y, e1, e2, he a _ (Nat.ne_of_gt (Nat.lt_trans hzS hb)) (Nat.ne_of_gt (Nat.lt_trans hTS hb)) (Nat.ne_of_gt (Nat.lt_trans h1S hb)) (Nat.ne_of_gt (Nat.lt_trans h2S hb)) e3⟩
  | succ k ih =>
    intro i h tk c acc as hk hi hz hTI st1 st2 hkeep hS hacc hal hM
    have hsz : acc.size = i := by rw [← Array.length_toList, hacc, List.length_map, hal]
    have hSl : S < h.objs.size := Heap.lt_size hS
    refine codeAny_builtin PySem.F.entry_extend_loop ?_
    rw [Around.under_plainId PySem.F.plain_extend_loop _]
    show wpAny _ A.in1 (pyNext (.ref z) >>= _) _ _ _
    refine wpAny_bind (nx_item (s := { s with heap := h, toks := tk }) (A := A.in1) (i := i) (S := S) SP D1 D2 hz hSl hzS h1S h2S hTS hTI st1 st2 (by omega) (by omega) fun x1 x2 h' tk' y1 y2 hz' st1' st2' ht hzz hkp => ?_)
    dsimp only at ht hzz hkp ⊢
    have hS' := hkp S _ (Nat.ne_of_gt hzS) (Nat.ne_of_gt hTS) (Nat.ne_of_gt h1S) (Nat.ne_of_gt h2S) hS
    have up : ∀ b o, b ≠ S → h'.get? b = some o → (h'.update S (Obj.mapSeq (·.push (Value.ref h.objs.size)))).get? b = some o := fun b o hb e => (Heap.get?_update_other _ _ (Ne.symm hb)).trans e
    show wpAny _ A.in1 (updateSeq S (·.push (Value.ref h.objs.size)) >>= _) _ _ _
    refine wpAny_bind ?_
    refine wpAny_updateSeq hS' rfl (wpAny_pure ⟨plainId_quiet PySem.F.plain_extend_loop _, ih (i + 1) _ tk' _ (acc.push (Value.ref h.objs.size)) (as ++ [h.objs.size]) (by omega) (by omega) (hz'.keep up (Nat.ne_of_lt hzS) (Nat.ne_of_lt hTS))
      (up _ _ (Nat.ne_of_lt hIS) (hkp _ _ SP.TIz SP.TITO SP.TIi1 SP.TIi2 hTI)) (D1.frame _ _ _ st1' fun b hb o e => up b o (fun q => hf1 (q ▸ hb)) e) (D2.frame _ _ _ st2' fun b hb o e => up b o (fun q => hf2 (q ▸ hb)) e)
      (fun b o b0 b1 b2 b3 b4 e => up b o b0 (hkp b o b1 b2 b3 b4 (hkeep b o b0 b1 b2 b3 b4 e))) (Heap.get?_update_self _ hS' rfl) (by rw [Array.toList_push, hacc, List.map_append]; rfl) (by rw [List.length_append, hal]; rfl) ⟨?_, ?_, ?_⟩⟩) (by rw [hsz]; omega) (by show (acc.push (Value.ref h.objs.size)).size ≤ sizeLine + 1; rw [Array.size_push, hsz]; omega)
    · intro a ha
      rcases List.mem_append.mp ha with ha | ha
      · exact hM.above a ha
      · rw [List.mem_singleton.mp ha]; exact hSl
    · refine List.nodup_append.mpr ⟨hM.nd, by simp, fun x hx y hy => ?_⟩
      rw [List.mem_singleton.mp hy]
      obtain ⟨q, hq⟩ := List.mem_iff_getElem?.mp hx
      obtain ⟨_, _, _, _, e⟩ := hM.pairs q x hq
      exact Nat.ne_of_lt (Heap.lt_size e)
    · intro j b hj
      rcases Nat.lt_trichotomy j as.length with q | q | q
      · rw [List.getElem?_append_left q] at hj
        obtain ⟨x, y, e1, e2, e3⟩ := hM.pairs j b hj
        have hb := hM.above b (List.mem_of_getElem? hj)
        exact ⟨x, y, e1, e2, up b _ (Nat.ne_of_gt hb) (hkp b _ (Nat.ne_of_gt (Nat.lt_trans hzS hb)) (Nat.ne_of_gt (Nat.lt_trans hTS hb)) (Nat.ne_of_gt (Nat.lt_trans h1S hb)) (Nat.ne_of_gt (Nat.lt_trans h2S hb)) e3)⟩
      · subst q
        have hb : h.objs.size = b := by simpa using hj
        subst hb
        exact ⟨x1, x2, by rw [hal]; exact y1, by rw [hal]; exact y2, up _ _ (Nat.ne_of_gt hSl) ht⟩
      · have hnone : (as ++ [h.objs.size])[j]? = none := List.getElem?_eq_none (by rw [List.length_append, List.length_singleton]; omega)
        rw [hnone] at hj; cases hj
end
section
variable {prog : Program} {w : World} {A : Around} {E : Value → Shared → Prop} {s : Shared} {z TI TO i1 i2 : Addr} {fp1 fp2 : List Addr} {n1 n2 : Nat} {P1 P2 : Nat → Value → Prop} {St1 St2 : Nat → Heap → Prop}
/-- list(z), z a new zip -/
theorem call_list_zip {Q : Value → Shared → Prop} (SP : ZipSep2 z TI TO i1 i2 fp1 fp2) (D1 : Draws prog w A.in1.in1.in1 i1 fp1 n1 P1 St1) (D2 : Draws prog w A.in1.in1.in1 i2 fp2 n2 P2 St2) (hz : IsZip s.heap z TI TO .none) {a1 a2 : Value} (hTO : IsTupOf2 s.heap TO a1 a2) (hTI : IsTupOf2 s.heap TI (.ref i1) (.ref i2))
    (st1 : St1 0 s.heap) (st2 : St2 0 s.heap) (hf1 : ∀ b ∈ fp1, b < s.heap.objs.size) (hf2 : ∀ b ∈ fp2, b < s.heap.objs.size) (hn : min n1 n2 ≤ sizeLine)
    (hQ : ∀ h' tk acc c as, (∀ b o, b ≠ z → b ≠ TO → b ≠ i1 → b ≠ i2 → s.heap.get? b = some o → h'.get? b = some o) → h'.get? s.heap.objs.size = some { cls := .type "list", dict := none, data := .seq acc c, slots := #[] } → as.length = min n1 n2 → Made P1 P2 s.heap.objs.size h' as →
      acc.toList = as.map Value.ref → Q (.ref s.heap.objs.size) { s with heap := h', toks := tk }) :
    wpAny (model prog w) A (call (.type "list") [.ref z]) Q E s := by
  have hzl : z < s.heap.objs.size := Heap.lt_size hz
  have hTl : TO < s.heap.objs.size := Heap.lt_size hTO
  have hIl : TI < s.heap.objs.size := Heap.lt_size hTI
  have h1l : i1 < s.heap.objs.size := hf1 _ SP.mem1
  have h2l : i2 < s.heap.objs.size := hf2 _ SP.mem2
  refine callType_codes (Q₁ := fun obj s₁ => obj = .ref s.heap.objs.size ∧ s₁ = { s with heap := s.heap.push { cls := .type "list", data := .seq #[] } }) PySem.F.called_list (PySem.F.typeCall_list_1 _) PySem.F.entry_list_init
    (code_list_new _ ⟨rfl, rfl⟩) fun obj s₁ h₁ => ?_
  obtain ⟨rfl, rfl⟩ := h₁
  have hS : (s.heap.push { cls := .type "list", data := .seq #[] }).get? s.heap.objs.size = some { cls := .type "list", data := .seq #[] } := Heap.get?_push_size _ rfl
  refine ⟨⟨_, hS, rfl⟩, PySem.F.args_list_init_2 _ _, ?_⟩
  have grow : ∀ b o, s.heap.get? b = some o → (s.heap.push { cls := .type "list", data := .seq #[] }).get? b = some o := fun b o e => Heap.get?_push_of_some _ e
  show wpAny _ _ (do let old ← Builtin.List.listItems (.ref s.heap.objs.size); Builtin.List.listUpdate (.ref s.heap.objs.size) (fun _ => #[]); letGo old.toList.reverse; Builtin.List.listExtendWith (.ref s.heap.objs.size) (.ref z) .none) _ _ _
  refine wpAny_bind ?_
  unfold Builtin.List.listItems
  refine wpAny_bind (wpAny_seqItems hS rfl (wpAny_pure ?_))
  show wpAny _ _ (updateSeq s.heap.objs.size (fun _ => #[]) >>= fun _ => letGo (#[] : Array Value).toList.reverse >>= fun _ => Builtin.List.listExtendWith (.ref s.heap.objs.size) (.ref z) .none) _ _ _
  refine wpAny_bind (wpAny_updateSeq hS rfl ?_)
  have hS₂ := Heap.get?_update_self (Obj.mapSeq (fun _ => (#[] : Array Value))) hS rfl
  have oth : ∀ b o, b ≠ s.heap.objs.size → s.heap.get? b = some o → ((s.heap.push { cls := .type "list", data := .seq #[] }).update s.heap.objs.size (Obj.mapSeq (fun _ => (#[] : Array Value)))).get? b = some o :=
    fun b o hb e => (Heap.get?_update_other _ _ (Ne.symm hb)).trans (grow b o e)
  refine wpAny_bind (wpAny_letGo ?_)
  have fin : ∀ (h : Heap) (c tk : Nat), (∀ b o, b ≠ s.heap.objs.size → s.heap.get? b = some o → h.get? b = some o) → h.get? s.heap.objs.size = some { cls := .type "list", data := .seq #[] c } →
      codeAny (model prog w) A.in1 (.builtin "list.extend.loop" ⟨[.ref s.heap.objs.size, .ref z, .none], []⟩) (wants (fun r s₂ => r = .none ∧ Q (.ref s.heap.objs.size) s₂) E) { s with heap := h, toks := tk } := by
    intro h c tk hk hSl
    refine loop (s := s) (S := s.heap.objs.size) (h₁ := s.heap) SP D1 D2 hzl h1l h2l hTl hIl (fun m => Nat.lt_irrefl _ (hf1 _ m)) (fun m => Nat.lt_irrefl _ (hf2 _ m)) hn (fun h' tk' acc c' as hk' hS' hl hM hacc => ?_) (min n1 n2) 0 h tk c #[] [] (Nat.sub_zero _) (Nat.zero_le _)
      (.inl ⟨rfl, hk _ _ (Nat.ne_of_lt hzl) hz, a1, a2, hk _ _ (Nat.ne_of_lt hTl) hTO⟩) (hk _ _ (Nat.ne_of_lt hIl) hTI) (D1.frame _ _ _ st1 fun b hb o e => hk b o (Nat.ne_of_lt (hf1 b hb)) e) (D2.frame _ _ _ st2 fun b hb o e => hk b o (Nat.ne_of_lt (hf2 b hb)) e)
      (fun b o b0 _ _ _ _ e => hk b o b0 e) hSl rfl rfl ⟨(fun _ ha => nomatch ha), List.nodup_nil, (fun j a hj => by simp at hj)⟩
    exact ⟨rfl, hQ h' tk' acc c' as (fun b o b1 b2 b3 b4 e => hk' b o (Nat.ne_of_lt (Heap.lt_size e)) b1 b2 b3 b4 e) hS' hl hM hacc⟩
  have hz2 := oth z _ (Nat.ne_of_lt hzl) hz
  unfold Builtin.List.listExtendWith
  refine wpAny_bind (wpAny_typeOf (T := "zip") ⟨_, hz2, rfl⟩ ?_)
  have q1 : Builtin.List.listSameRef (.ref s.heap.objs.size) (.ref z) = false := by simp [Builtin.List.listSameRef, Nat.ne_of_gt hzl]
  have q2 : (Value.type "zip" == Value.type "list") = false := by decide
  have q3 : (Value.type "zip" == Value.type "tuple") = false := by decide
  simp only [q1, q2, q3, Bool.or_false, Bool.false_eq_true, if_false]
  refine wpAny_bind (wpAny_pyIter_zip hz2 ?_)
  refine wpAny_bind (wpAny_holding ?_)
  unfold Builtin.List.listLengthHint
  refine wpAny_bind (wpAny_specialOf (T := "zip") ⟨_, hz2, rfl⟩ no_len ?_)
  show wpAny _ _ (specialOf (Value.ref z) (Str.ofString "__length_hint__") >>= _) _ _ _
  refine wpAny_bind (wpAny_specialOf (T := "zip") ⟨_, hz2, rfl⟩ no_hint ?_)
  refine wpAny_pure ?_
  show wpAny _ _ (rule "list.extend.makes-room" >>= fun _ => Builtin.List.listTouch (.ref s.heap.objs.size) >>= fun _ =>
    again (.builtin "list.extend.loop" ⟨[.ref s.heap.objs.size, .ref z, .none], []⟩)) _ _ _
  refine wpAny_bind (wpAny_rule ?_)
  refine wpAny_bind ?_
  show wpAny _ _ (updateSeq s.heap.objs.size (·.push .none) >>= fun _ => updateSeq s.heap.objs.size (·.pop)) _ _ _
  refine wpAny_bind (wpAny_updateSeq hS₂ rfl ?_)
  have hS₃ := Heap.get?_update_self (Obj.mapSeq (·.push Value.none)) hS₂ rfl
  refine wpAny_updateSeq (hz := by seq_fits) hS₃ rfl ?_
  have hS₄ := Heap.get?_update_self (Obj.mapSeq (·.pop)) hS₃ rfl
  exact wpAny_pure ⟨plainId_quiet PySem.F.plain_extend_loop _, fin _ _ _ (fun b o hb e => (Heap.get?_update_other _ _ (Ne.symm hb)).trans ((Heap.get?_update_other _ _ (Ne.symm hb)).trans (oth b o hb e))) hS₄⟩
end
end MiZ
end
section
set_option Elab.async false
set_option linter.all false
set_option maxRecDepth 100000
set_option maxHeartbeats 1600000
/-! MiZ2: list(zip(a, b)), the rule. -/
namespace Mi
open PySem PySem.Spec PyProof.Rows L2
/-- new pairs at their places -/
def putP : Hp → List Addr → List (V × V) → Hp
  | H, a :: as, p :: ps => putP (upd H a (.tup [p.1, p.2])) as ps
  | H, _, _ => H
theorem putP_off {b : Addr} : ∀ (as : List Addr) (ps : List (V × V)) (H : Hp), b ∉ as → putP H as ps b = H b
  | [], _, _, _ => rfl
  | _ :: _, [], _, _ => rfl
  | a :: as, p :: ps, H, h => by
    show putP (upd H a (.tup [p.1, p.2])) as ps b = H b
    rw [putP_off as ps _ (fun z => h (List.mem_cons_of_mem _ z)), upd_ne (fun z => h (by rw [z]; exact List.mem_cons_self))]
theorem putP_at : ∀ (as : List Addr) (ps : List (V × V)) (H : Hp), as.length = ps.length → as.Nodup → Paired (fun (t : Addr) (p : V × V) => putP H as ps t = some (.tup [p.1, p.2])) as ps
  | [], [], _, _, _ => .nil
  | [], _ :: _, _, h, _ => by cases h
  | _ :: _, [], _, h, _ => by cases h
  | a :: as, p :: ps, H, h, hn => by
    have nn := List.nodup_cons.mp hn
    refine .cons ?_ (putP_at as ps (upd H a (.tup [p.1, p.2])) (Nat.succ.inj h) nn.2)
    show putP (upd H a (.tup [p.1, p.2])) as ps a = some (.tup [p.1, p.2])
    rw [putP_off as ps _ nn.1, upd_same]
theorem sepN (I l1 l2 : Nat) (h1 : l1 < I) (h2 : l2 < I) : ZipSep2 (I + 4) (I + 2) (I + 3) I (I + 1) [I, l1] [I + 1, l2] := by
  constructor <;> first
    | exact Nat.ne_of_lt (by omega)
    | exact Nat.ne_of_gt (by omega)
    | exact List.mem_cons_self
    | (intro h
       rcases List.mem_cons.mp h with e | h
       · exact absurd e (by first | exact Nat.ne_of_lt (by omega) | exact Nat.ne_of_gt (by omega))
       · exact absurd (List.mem_singleton.mp h) (by first | exact Nat.ne_of_lt (by omega) | exact Nat.ne_of_gt (by omega)))
theorem sepM1 {I l1 b : Nat} (h1 : l1 < I) (h : b ∈ [I, l1]) : b < I + 5 := by
  rcases List.mem_cons.mp h with e | h
  · rw [e]; exact Nat.lt_add_of_pos_right (by decide)
  · rw [List.mem_singleton.mp h]; exact Nat.lt_of_lt_of_le h1 (Nat.le_add_right _ _)
theorem sepM2 {I l1 b : Nat} (h1 : l1 < I) (h : b ∈ [I + 1, l1]) : b < I + 5 := by
  rcases List.mem_cons.mp h with e | h
  · rw [e]; exact Nat.add_lt_add_left (by decide) I
  · rw [List.mem_singleton.mp h]; exact Nat.lt_of_lt_of_le h1 (Nat.le_add_right _ _)
section
variable {X : Cx}
theorem zip_laid {pins : List (Addr × Obj)} {σ : L2.St} {H : Hp} {s : Shared} {h' : Heap} {tk : Nat} {xs ys : List V} {us ws : List Value} {S : Addr} {acc : Array Value} {c : Nat} {as : List Addr} (I : Inv X pins σ H s) (rx : Vals xs us) (ry : Vals ys ws) (hz : min xs.length ys.length ≤ sizeLine) (hSs : s.heap.objs.size ≤ S)
    (hk : ∀ b o, s.heap.get? b = some o → h'.get? b = some o) (hS : h'.get? S = some { cls := .type "list", dict := none, data := .seq acc c, slots := #[] }) (hl : as.length = min xs.length ys.length) (hM : MiZ.Made (fun i v => us[i]? = some v) (fun i v => ws[i]? = some v) S h' as) (hacc : acc.toList = as.map Value.ref) :
    ∃ H' : Hp, (∀ b o, H b = some o → H' b = some o) ∧ (∀ b, H' b = none → H b = none) ∧ H S = none ∧ (∀ t ∈ as, H t = none) ∧ S ∉ as ∧ H' S = some (.lst (as.map V.ref)) ∧ Paired (fun (t : Addr) (q : V × V) => H' t = some (.tup [q.1, q.2])) as (xs.zip ys) ∧ Inv X pins σ H' { s with heap := h', toks := tk } := by
  have lz : as.length = (xs.zip ys).length := by rw [hl, List.length_zip]
  have hSn : S ∉ as := fun z => Nat.lt_irrefl _ (hM.above _ z)
  have new : ∀ t ∈ as, H t = none := fun t ht => I.hok.fresh (Nat.le_trans hSs (Nat.le_of_lt (hM.above t ht)))
  have newS : H S = none := I.hok.fresh hSs
  have atP := putP_at as (xs.zip ys) (upd H S (.lst (as.map V.ref))) lz hM.nd
  have off : ∀ b, b ∉ as → b ≠ S → putP (upd H S (.lst (as.map V.ref))) as (xs.zip ys) b = H b := fun b h1 h2 => by rw [putP_off as _ _ h1, upd_ne h2]
  have low : ∀ b o, s.heap.get? b = some o → b ∉ as ∧ b ≠ S := fun b o e => ⟨fun z => absurd (Heap.lt_size e) (Nat.not_lt.mpr (Nat.le_trans hSs (Nat.le_of_lt (hM.above b z)))), Nat.ne_of_lt (Nat.lt_of_lt_of_le (Heap.lt_size e) hSs)⟩
  have kp : ∀ b u, H b = some u → (putP (upd H S (.lst (as.map V.ref))) as (xs.zip ys)) b = some u := fun b u e => by
    rw [off b (fun z => by rw [new b z] at e; cases e) (fun z => by rw [z, newS] at e; cases e)]
    exact e
  have eS : putP (upd H S (.lst (as.map V.ref))) as (xs.zip ys) S = some (.lst (as.map V.ref)) := by rw [putP_off as _ _ hSn, upd_same]
  refine ⟨putP (upd H S (.lst (as.map V.ref))) as (xs.zip ys), kp, fun b e => ?_, newS, new, hSn, eS, atP, ?_⟩
  · cases q : H b with
    | none => rfl
    | some u => rw [kp b u q] at e; cases e
  refine I.call' (ch := []) rfl ⟨fun b o q _ _ _ => hk b o q, fun b o q _ _ _ => ⟨o.slots, hk b o q⟩, fun b o q n _ => ?_, fun b o q _ => ⟨o, hk b o q⟩, fun b xs q => kp b _ q, fun b o u q => kp b _ q, fun b ps q => ⟨#[], by rw [kp b _ q]; simp⟩⟩ (fun b u q => ?_) I.bare fun b z => by simp at z
  · obtain ⟨z1, z2⟩ := low b o q
    rw [off b z1 z2]
    exact n
  · by_cases hb : b ∈ as
    · obtain ⟨j, pk, e1, e2, e3⟩ := LiI.paired_ix atP hb
      rw [e3] at q
      cases q
      obtain ⟨x, y, f1, f2, f3⟩ := hM.pairs j b e1
      have e2' := List.getElem?_zip_eq_some.mp e2
      obtain ⟨u, g1, g2⟩ := rx.get e2'.1
      obtain ⟨w, g3, g4⟩ := ry.get e2'.2
      rw [f1] at g1
      rw [f2] at g3
      cases g1
      cases g3
      exact ⟨by show 2 ≤ sizeLine; decide, [x, y], .cons g2 (.cons g4 .nil), ⟨_, f3, rfl, _, rfl⟩⟩
    · by_cases hb2 : b = S
      · rw [hb2] at q ⊢
        rw [eS] at q
        cases q
        refine ⟨by rw [List.length_map, hl]; exact hz, acc.toList, c, by rw [hacc]; exact LiI.vals_refs as, ?_⟩
        rw [Array.toArray_toList]
        exact hS
      · rw [off b hb hb2] at q
        exact (I.hok b u q).stay (fun d v _ y => hk d v y) (fun d y => kp d _ y) fun d xs y => kp d _ y
def tLZip (K : PySem.W.Frag) (ta : TA) : TE := fun σ H Q => ta σ H fun vs H1 => ∃ a b xs ys, vs = [.ref a, .ref b] ∧ ((SqL K H1 a xs ∧ SqL K H1 b ys) ∨ (SqT K H1 a xs ∧ SqT K H1 b ys)) ∧ min xs.length ys.length ≤ sizeLine ∧
  ∀ (H' : Hp) (p : Addr) (ts : List Addr), (∀ b o, H1 b = some o → H' b = some o) → (∀ b, H' b = none → H1 b = none) → H1 p = none → (∀ t ∈ ts, H1 t = none) → p ∉ ts → H' p = some (.lst (ts.map V.ref)) → Paired (fun (t : Addr) (q : V × V) => H' t = some (.tup [q.1, q.2])) ts (xs.zip ys) → Q (.ref p) H'
theorem pe_lzip {a b : Expr} {ta : TA} {p p2 pos pos2 : Pos} (hc : X.calm = true) (hg : Gl X "list") (hm : X.mg "list" = none) (hg2 : Gl X "zip") (hm2 : X.mg "zip" = none) (ha : PA X [a, b] ta)
    (hs : starEach [a, b] X.env = (false, eval a X.env) :: starEach [b] X.env) (hpl : (backTo pos2 (starEach [b] X.env)).any (·.1) = false) :
    PE X (.Call (.Name "list" p) [.Call (.Name "zip" p2) [a, b] [] pos2] [] pos) (tLZip X.K ta) := by
  refine ⟨fun pins s σ H Q I h => ?_⟩
  have hs0 : starEach [.Call (.Name "zip" p2) [a, b] [] pos2] X.env = (false, eval (.Call (.Name "zip" p2) [a, b] [] pos2) X.env) :: starEach [] X.env := rfl
  refine wpAny_Call_Name_kw (ld_blt I hg hm boot_list ?_)
  refine PyProof.Rows.callWith_type1 ?_ hs0 rfl
  rw [hs0]
  show wpAny _ _ (spliced ((false, eval (.Call (.Name "zip" p2) [a, b] [] pos2) X.env) :: backTo pos (starEach [] X.env))) _ _ s
  refine Calls.spliced_cons ?_
  refine Call_ (ld_blt I hg2 hm2 PyProof.Rows.boot_zip (PyProof.Rows.callWith_type1 (L2.thn (ha.run pos2 pins s σ H _ I h) fun us s1 ⟨vs, H1, I1, r1, q1⟩ => ?_) hs hpl))
  obtain ⟨l1, l2, xs, ys, ex, hq, hz, q1⟩ := q1
  subst ex
  cases r1 with
  | cons r rr =>
    cases rr with
    | cons r' rr =>
      cases rr
      cases r
      cases r'
      have hd : X.A.handled = none := I1.ok.hd hc
      have hd3 : X.A.in1.in1.in1.handled = none := by simp [hd]
      rcases hq with ⟨hqx, hqy⟩ | ⟨hqx, hqy⟩
      · obtain ⟨its, rv, p1, _⟩ := I1.list hqx
        obtain ⟨its2, rv2, p2', _⟩ := I1.list hqy
        have la := p1.lt
        have lb := p2'.lt
        have l1e : its.toArray.size = xs.length := by rw [List.size_toArray, rv.length]
        have l2e : its2.toArray.size = ys.length := by rw [List.size_toArray, rv2.length]
        refine call_zip_2 p1.isList p2'.isList fun h' zz hTI hTO h1 h2 hsz hk => ?_
        have D := PySem.W.ktu_apart s1.heap.objs.size l1 l2 la lb
        have SP : ZipSep2 (s1.heap.objs.size + 4) (s1.heap.objs.size + 2) (s1.heap.objs.size + 3) s1.heap.objs.size (s1.heap.objs.size + 1) [s1.heap.objs.size, l1] [s1.heap.objs.size + 1, l2] := sepN _ _ _ la lb
        refine Calls.spliced_nil ?_
        refine MiZ.call_list_zip (s := { s1 with heap := h' }) SP (Draws.list hd3 _ l1 (Nat.ne_of_lt la) its.toArray) (Draws.list hd3 _ l2 (Nat.ne_of_lt (Nat.lt_succ_of_lt lb)) its2.toArray) zz hTO hTI
          ⟨h1, p1.isList.at fun o e => hk _ _ e⟩ ⟨h2, p2'.isList.at fun o e => hk _ _ e⟩ (fun b hb => ?_) (fun b hb => ?_) (by rw [l1e, l2e]; exact hz) fun h'' tk acc c as hk' hS hl hM hacc => ?_
        · show b < h'.objs.size
          rw [hsz]
          exact sepM1 la hb
        · show b < h'.objs.size
          rw [hsz]
          exact sepM2 lb hb
        · rw [l1e, l2e] at hl
          obtain ⟨H', k1, k0, k2, k3, k4, k5, k6, J⟩ := zip_laid (s := s1) (tk := tk) I1 rv rv2 hz (S := h'.objs.size) (by rw [hsz]; exact Nat.le_add_right _ _) (fun b o e => hk' b o (PySem.W.ktu_ne 4 (Heap.lt_size e)) (PySem.W.ktu_ne 3 (Heap.lt_size e)) (Nat.ne_of_lt (Heap.lt_size e)) (PySem.W.ktu_ne 1 (Heap.lt_size e)) (hk b o e)) hS hl
            ⟨hM.above, hM.nd, fun j b hj => by
              obtain ⟨x, y, e1, e2, e3⟩ := hM.pairs j b hj
              exact ⟨x, y, by simpa using e1, by simpa using e2, e3⟩⟩ hacc
          exact ⟨.ref _, H', J, rfl, q1 H' _ as k1 k0 k2 k3 k4 k5 k6⟩
      · obtain ⟨its, rv, p1, _⟩ := I1.tuple hqx
        obtain ⟨its2, rv2, p2', _⟩ := I1.tuple hqy
        obtain ⟨o1, ho1, _⟩ := id p1
        obtain ⟨o2, ho2, _⟩ := id p2'
        have la := Heap.lt_size ho1
        have lb := Heap.lt_size ho2
        have l1e : its.toArray.size = xs.length := by rw [List.size_toArray, rv.length]
        have l2e : its2.toArray.size = ys.length := by rw [List.size_toArray, rv2.length]
        have t1 : s1.heap.IsTuple l1 its.toArray := p1
        have t2 : s1.heap.IsTuple l2 its2.toArray := p2'
        refine RZ.call_zipT t1 t2 fun h' zz hTI hTO h1 h2 hsz hk => ?_
        have SP : ZipSep2 (s1.heap.objs.size + 4) (s1.heap.objs.size + 2) (s1.heap.objs.size + 3) s1.heap.objs.size (s1.heap.objs.size + 1) [s1.heap.objs.size, l1] [s1.heap.objs.size + 1, l2] := sepN _ _ _ la lb
        refine Calls.spliced_nil ?_
        refine MiZ.call_list_zip (s := { s1 with heap := h' }) SP (Draws.tuple hd3 _ l1 (Nat.ne_of_lt la) its.toArray) (Draws.tuple hd3 _ l2 (Nat.ne_of_lt (Nat.lt_succ_of_lt lb)) its2.toArray) zz hTO hTI
          ⟨h1, t1.at fun o e => hk _ _ e⟩ ⟨h2, t2.at fun o e => hk _ _ e⟩ (fun b hb => ?_) (fun b hb => ?_) (by rw [l1e, l2e]; exact hz) fun h'' tk acc c as hk' hS hl hM hacc => ?_
        · show b < h'.objs.size
          rw [hsz]
          exact sepM1 la hb
        · show b < h'.objs.size
          rw [hsz]
          exact sepM2 lb hb
        · rw [l1e, l2e] at hl
          obtain ⟨H', k1, k0, k2, k3, k4, k5, k6, J⟩ := zip_laid (s := s1) (tk := tk) I1 rv rv2 hz (S := h'.objs.size) (by rw [hsz]; exact Nat.le_add_right _ _) (fun b o e => hk' b o (PySem.W.ktu_ne 4 (Heap.lt_size e)) (PySem.W.ktu_ne 3 (Heap.lt_size e)) (Nat.ne_of_lt (Heap.lt_size e)) (PySem.W.ktu_ne 1 (Heap.lt_size e)) (hk b o e)) hS hl
            ⟨hM.above, hM.nd, fun j b hj => by
              obtain ⟨x, y, e1, e2, e3⟩ := hM.pairs j b hj
              exact ⟨x, y, by simpa using e1, by simpa using e2, e3⟩⟩ hacc
          exact ⟨.ref _, H', J, rfl, q1 H' _ as k1 k0 k2 k3 k4 k5 k6⟩
end
end Mi
end
section
set_option Elab.async false
set_option linter.all false
set_option maxRecDepth 100000
set_option maxHeartbeats 1600000
/-! MiZ3: list(zip(a, b)), the judgement. -/
namespace Mi
open PySem PySem.Spec PyProof.Rows L2
section
variable {C : Cfg} {E : XK} {X : Cx} {a b : Expr} {fa fb : Ev → M D} {K : PySem.W.Frag} {g : Gh} {H : Hp}
def lzipB (x y : D) : M D := match x, y with
    | .lst xs, .lst ys => pur (.lst (zipD xs ys))
    | .tup xs, .tup ys => pur (.lst (zipD xs ys))
    | _, _ => stk
theorem zip_world {s : Sto} (w : Wd K g H s) {H' : Hp} {ts : List Addr} {ps : List (V × V)} (k1 : ∀ b o, H b = some o → H' b = some o) (k0 : ∀ b, H' b = none → H b = none) (k3 : ∀ t ∈ ts, H t = none) (k6 : Paired (fun (t : Addr) (q : V × V) => H' t = some (.tup [q.1, q.2])) ts ps) :
    ∃ g', Fr g H g' H' ∧ Wd K g' H' s ∧ (∀ t ∈ ts, g'.S t = H' t) ∧ (∀ b, b ∉ ts → g'.S b = g.S b) ∧ g'.B = g.B := by
  classical
  let S2 : Hp := fun b => if b ∈ ts then H' b else g.S b
  have hS : ∀ b, b ∈ ts → S2 b = H' b := fun b h => if_pos h
  have hN : ∀ b, b ∉ ts → S2 b = g.S b := fun b h => if_neg h
  have gn : ∀ t ∈ ts, g.S t = none := fun t h => by
    cases q : g.S t with
    | none => rfl
    | some o => have := w.sub t o q; rw [k3 t h] at this; cases this
  have le : Le g ⟨S2, g.B⟩ := ⟨fun b o e => by
    show S2 b = some o
    rw [hN b fun h => by rw [gn b h] at e; cases e]
    exact e, fun _ _ e => e⟩
  refine ⟨⟨S2, g.B⟩, ⟨le, fun b o e _ => k1 b o e, k0, fun b o e n => ?_, fun b o e n => n⟩, ⟨fun b o e => ?_, w.len, fun l xs q => ?_, w.inj, fun b hb => ?_⟩, hS, hN, rfl⟩
  · show S2 b = none
    rw [hN b fun h => by rw [k3 b h] at e; cases e]
    exact n
  · have e' : S2 b = some o := e
    by_cases h : b ∈ ts
    · rw [hS b h] at e'; exact e'
    · rw [hN b h] at e'; exact k1 b o (w.sub b o e')
  · obtain ⟨c, vs, h1, h2, h3⟩ := w.box l xs q
    exact ⟨c, vs, h1, k1 c _ h2, h3.mono le⟩
  · show S2 b = none
    rw [hN b fun h => ?_]
    · exact w.bs b hb
    · obtain ⟨l, hl⟩ := List.mem_iff_getElem?.mp hb
      have hlt : l < s.length := by
        have := (List.getElem?_eq_some_iff.mp hl).1
        rw [w.len] at this
        exact this
      obtain ⟨c, vs, h1, h2, h3⟩ := w.box l _ (List.getElem?_eq_getElem hlt)
      rw [hl] at h1
      cases h1
      rw [k3 b h] at h2
      cases h2
theorem zip_reps {g' : Gh} {H' : Hp} : ∀ {xs ys : List V} {ds es : List D} {ts : List Addr}, Reps K g' xs ds → Reps K g' ys es → Paired (fun (t : Addr) (q : V × V) => H' t = some (.tup [q.1, q.2])) ts (xs.zip ys) → (∀ t ∈ ts, g'.S t = H' t) → Reps K g' (ts.map V.ref) (zipD ds es)
  | [], _, _, _, _, h1, h2, h3, h4 => by
    cases h1
    cases h3
    exact .nil
  | x :: xs, [], _, _, _, h1, h2, h3, h4 => by
    cases h1
    cases h2
    cases h3
    exact .nil
  | x :: xs, y :: ys, _, _, _, h1, h2, h3, h4 => by
    cases h1 with
    | cons p q =>
      cases h2 with
      | cons p' q' =>
        cases h3 with
        | cons r t =>
          refine .cons (.tup (.inl (.inl ?_)) (by show 2 ≤ 16777216; omega) (.cons p (.cons p' .nil))) (zip_reps q q' t fun c hc => h4 c (List.mem_cons_of_mem _ hc))
          rw [h4 _ List.mem_cons_self]
          exact r
theorem df_lzip {p p2 pos pos2 : Pos} (hK : X.K = C.K) (hc : X.calm = true) (hg : Gl X "list") (hm : X.mg "list" = none) (hg2 : Gl X "zip") (hm2 : X.mg "zip" = none) (ha : DE C E X a fa) (hb : DE C E X b fb) (na : nost a = true) (nb : nost b = true) :
    DF C E X (.Call (.Name "list" p) [.Call (.Name "zip" p2) [a, b] [] pos2] [] pos) (fun ρ => bnd (fa ρ) fun x => bnd (fb ρ) fun y => lzipB x y) := by
  refine ⟨PE.imp (pe_lzip hc hg hm hg2 hm2 (pa_cons ha.pe (pa_cons hb.pe pa_nil (star_ns nb)) (star_ns na)) (star_ns na) (back_ns (by simp [nb]))) fun σ H Q ⟨g, ρ, s, w, R, pp⟩ => ?_⟩
  refine ⟨g, ρ, s, w, R, pp.bnd.imp fun x s1 g1 H1 f1 w1 k1 v1 hv1 => ⟨g1, ρ, s1, w1, R.fr f1, k1.bnd.imp fun y s2 g2 H2 f2 w2 k2 v2 hv2 => ?_⟩⟩
  rw [hK]
  have hx := hv1.mono f2.le
  have key : ∀ (p1 p2 : Addr) (us ws : List V) (ds es : List D), Reps C.K g2 us ds → Reps C.K g2 ws es → us.length ≤ LIM → lzipB x y = pur (.lst (zipD ds es)) →
      ((SqL C.K H2 p1 us ∧ SqL C.K H2 p2 ws) ∨ (SqT C.K H2 p1 us ∧ SqT C.K H2 p2 ws)) → ∃ a b xs ys, [V.ref p1, V.ref p2] = [.ref a, .ref b] ∧ ((SqL C.K H2 a xs ∧ SqL C.K H2 b ys) ∨ (SqT C.K H2 a xs ∧ SqT C.K H2 b ys)) ∧ min xs.length ys.length ≤ sizeLine ∧
        ∀ (H' : Hp) (p : Addr) (ts : List Addr), (∀ b o, H2 b = some o → H' b = some o) → (∀ b, H' b = none → H2 b = none) → H2 p = none → (∀ t ∈ ts, H2 t = none) → p ∉ ts → H' p = some (.lst (ts.map V.ref)) → Paired (fun (t : Addr) (q : V × V) => H' t = some (.tup [q.1, q.2])) ts (xs.zip ys) → Q (.ref p) H' := by
    intro p1 p2 us ws ds es r1 r2 hl ez hq
    refine ⟨p1, p2, us, ws, rfl, hq, by have := lim_eq; omega, fun H' p ts k1 k0 k2' k3 k4 k5 k6 => ?_⟩
    obtain ⟨g3, f3, w3, hS, hN, hB⟩ := zip_world w2 k1 k0 k3 k6
    have rr := zip_reps (r1.mono f3.le) (r2.mono f3.le) k6 hS
    rw [ez] at k2
    have lt : ts.length = min us.length ws.length := by
      have := Paired.length k6
      rwa [List.length_zip] at this
    refine (Post.at k2 f3 w3) (.ref p) ⟨fun fs e => ?_, fun n => absurd rfl (n _)⟩
    have e' : zipD ds es = fs := D.lst.inj e
    subst e'
    refine ⟨p, ts.map V.ref, rfl, f1.there p (f2.there p k2'), k5, by rw [List.length_map]; omega, rr, ?_, ?_⟩
    · rw [hN p k4]; exact (w2.none k2').1
    · rw [hB]; exact (w2.none k2').2
  cases hx with
  | lst h l r =>
    cases hv2 with
    | lst h' l' r' => exact key _ _ _ _ _ _ r r' l rfl (.inl ⟨sqL_mono w2.sub h, sqL_mono w2.sub h'⟩)
    | _ => exact k2.elim
  | tup h l r =>
    cases hv2 with
    | tup h' l' r' => exact key _ _ _ _ _ _ r r' l rfl (.inr ⟨sqT_mono w2.sub h, sqT_mono w2.sub h'⟩)
    | _ => exact k2.elim
  | _ => cases hv2 <;> exact k2.elim
end
end Mi
end
section
set_option Elab.async false
set_option linter.all false
set_option maxRecDepth 100000
set_option maxHeartbeats 1600000
/-! MiE: enumerate(a), a list. -/
namespace Mi
open PySem PySem.Spec PyProof.Rows L2
section
variable {C : Cfg} {E : XK} {X : Cx} {a : Expr} {fa : Ev → M D} {K : PySem.W.Frag} {g : Gh} {H : Hp}
theorem enumD_len : ∀ (n : Nat) (xs : List D), (enumD n xs).length = xs.length
  | _, [] => rfl
  | n, x :: xs => by
    show (enumD (n + 1) xs).length + 1 = xs.length + 1
    rw [enumD_len]
theorem enumD_get : ∀ (n : Nat) (xs : List D) (i : Nat) (x : D), xs[i]? = some x → (enumD n xs)[i]? = some (.tup [.int ((n + i : Nat) : Int), x])
  | _, [], i, x, h => by simp at h
  | n, y :: ys, 0, x, h => by
    have e : y = x := by simpa using h
    subst e
    rfl
  | n, y :: ys, i + 1, x, h => by
    have := enumD_get (n + 1) ys i x (by simpa using h)
    have e : n + 1 + i = n + (i + 1) := by omega
    rw [e] at this
    simpa [enumD] using this
theorem di_enum {bo : Bool} {p pos tpos : Pos} {elts : List Expr} {kk : Nat} (hK : X.K = C.K) (hg : Gl X "enumerate") (hm : X.mg "enumerate" = none) (ha : DE C E X a fa) (na : nost a = true) :
    DI C E X (.Tuple elts kk tpos) (.Call (.Name "enumerate" p) [a] [] pos) bo (fun ρ => bnd (fa ρ) fun x => bnd (lif (lstOf x)) fun xs => pur (enumD 0 xs)) := by
  refine ⟨PI.imp (pi_enum hg hm (pa_cons ha.pe pa_nil (star_ns na)) (star_ns na)) fun σ H R ⟨g, ρ, s, w, R', pp⟩ => ?_⟩
  refine ⟨g, ρ, s, w, R', pp.bnd.imp fun x s1 g1 H1 f1 w1 k1 v hv => ?_⟩
  rw [hK]
  obtain ⟨ds, e, k2⟩ := k1.bnd.lif
  cases hv with
  | lst h l r =>
    cases e
    rename_i p us
    have k3 := (k2.pur w1).pur w1
    refine ⟨p, us, rfl, sqL_mono w1.sub h, k3 _ ⟨?_, ?_, ?_⟩ (by rw [enumD_len]; have := r.length; omega)⟩
    · intro g3 H3 i ⟨⟨s3, w3⟩, le, _⟩ hi
      rw [enumD_len] at hi
      obtain ⟨v, h1, _⟩ := r.get (List.getElem?_eq_getElem hi)
      exact ⟨us, v, sqL_mono w3.sub (sqL_mono le.S h), h1⟩
    · intro g3 H3 i x H4 ⟨⟨s3, w3⟩, le, _⟩ hi ⟨T, u, e1, e2, e3, e4⟩
      subst e1 e3
      obtain ⟨d, h2, h3⟩ := r.getV (e4 us (sqL_mono w3.sub (sqL_mono le.S h)))
      obtain ⟨g4, q1, q2, q3⟩ := pair_new w3 e2 (.int ((i : Nat) : Int)) (h3.mono le)
      refine ⟨g4, _, enumD_get 0 _ i d h2, q1, q2, ?_⟩
      rw [Nat.zero_add]
      exact q3
    · intro g3 H3 i ⟨⟨s3, w3⟩, le, _⟩ hi
      rw [enumD_len] at hi
      exact ⟨us, sqL_mono w3.sub (sqL_mono le.S h), by rw [r.length]; exact hi⟩
  | _ => cases e
end
end Mi
end
section
set_option Elab.async false
set_option linter.all false
set_option maxRecDepth 100000
set_option maxHeartbeats 1000000
/-! Mi9: the checker of expressions, and that it is sound. -/
namespace Mi
open PySem PySem.Spec PyProof.Rows L2
/-- what a def's text is read by: its names, the functions that may be called (name, how many parameters), the module's values -/
structure Ctx where
  N : List Str
  fs : List Nat
  fnm : Nat → Str
  far : Nat → Nat
  gs : List (Str × Nat)
  xs : List (Str × Nat) := []
def nmOk (x : Str) : Bool := !(x == ("__debug__" : Str)) && !(x == ("__classdict__" : Str))
def isGl (sc : Scope) (x : Str) : Bool := match sc.names.lookup x with
  | some .globalImplicit => !(x == ("__debug__" : Str))
  | _ => false
def isVis (sc : Scope) (x : Str) : Bool := match sc.names.lookup x with
  | some .local => true
  | some .cell => true
  | some .free => true
  | _ => false
def atN (N : List Str) (i : Nat) (x : Str) : Bool := match N[i]? with
  | some y => decide (y = x)
  | none => false
/-- a target's name: local, or a cell of this very scope (own: what X.fn says) -/
def tgOk (own : Str → Bool) (sc : Scope) (x : Str) : Bool := match sc.names.lookup x with
  | some .local => true
  | some .cell => own x
  | _ => false
mutual
def chkT (c : Ctx) (own : Str → Bool) (sc : Scope) : CT → Expr → Bool
  | .nm i, e => (match e with
    | .Name x _ => atN c.N i x && tgOk own sc x
    | _ => false)
  | .tp ts, e => (match e with
    | .Tuple es _ _ => chkTs c own sc ts es
    | _ => false)
def chkTs (c : Ctx) (own : Str → Bool) (sc : Scope) : CTs → List Expr → Bool
  | .nil, es => (match es with
    | [] => true
    | _ => false)
  | .cons t r, es => (match es with
    | e :: es => nost e && (chkT c own sc t e && chkTs c own sc r es)
    | [] => false)
end
inductive Md where
  | s | b | f
  deriving DecidableEq
def bfN : Bf → Str
  | .len => "len"
  | .tuple => "tuple"
  | .list => "list"
  | .all => "all"
  | .any => "any"
  | .max => "max"
  | .min => "min"
  | .sum => "sum"
  | .abs => "abs"
  | .int => "int"
  | .str => "str"
def op2N : Op2 → Operator → Bool
  | .add, .Add => true
  | .sub, .Sub => true
  | .mul, .Mult => true
  | .fdiv, .FloorDiv => true
  | .mod, .Mod => true
  | .pow, .Pow => true
  | _, _ => false
def opcN : OpC → CmpOp → Bool
  | .lt, .Lt => true
  | .le, .LtE => true
  | .gt, .Gt => true
  | .ge, .GtE => true
  | .eq, .Eq => true
  | .ne, .NotEq => true
  | .inn, .In => true
  | .nin, .NotIn => true
  | .iss, .Is => true
  | .nis, .IsNot => true
  | _, _ => false
def CL.len : CL → Nat
  | .nil => 0
  | .cons _ r => r.len + 1
def ownOf (N : List Str) (vs : List Nat) : List (Str × Nat) := vs.map fun i => (N.getD i "", i)
def cellOf (scope : Scope) (x : Str) : Bool := scope.names.lookup x == some .cell
mutual
def chk (c : Ctx) (m : Md) (sc : Scope) : CE → Expr → Bool
  | .var i, e => decide (m ≠ .f) && (match e with
    | .Name x _ => atN c.N i x && (isVis sc x && nmOk x)
    | _ => false)
  | .own i, e => decide (m = .b) && (match e with
    | .Name x _ => atN c.N i x && (isVis sc x && nmOk x)
    | _ => false)
  | .con d, e => decide (m ≠ .f) && (match d, e with
    | .non, .Constant .none _ _ => true
    | .bl b, .Constant (.bool b') _ _ => decide (b = b')
    | .int i, .Constant (.int j) _ _ => decide (i = j)
    | .str x, .Constant (.str y) _ _ => decide (x = y)
    | _, _ => false)
  | .glob x k, e => decide (m ≠ .f) && (match e with
    | .Name y _ => decide (x = y) && (isGl sc y && c.gs.contains (y, k))
    | _ => false)
  | .bin op a b, e => (match e with
    | .BinOp x o y _ => op2N op o && (chk c .b sc a x && chk c .b sc b y)
    | _ => false)
  | .rep a b, e => (match e with
    | .BinOp x .Mult y _ => chk c .f sc a x && chk c .b sc b y
    | _ => false)
  | .neg a, e => decide (m ≠ .f) && (match e with
    | .UnaryOp .USub x _ => chk c .s sc a x
    | _ => false)
  | .cmp op a b, e => decide (m ≠ .f) && (match e with
    | .Compare x [o] [y] _ => opcN op o && (nosetE y && (chk c .b sc a x && chk c .b sc b y))
    | _ => false)
  | .chain op op' a b d, e => decide (m ≠ .f) && (match e with
    | .Compare x [o, o'] [y, z] _ => opcN op o && (opcN op' o' && (nosetE z && (chk c .s sc a x && (chk c .s sc b y && chk c .s sc d z))))
    | _ => false)
  | .isn a, e => decide (m ≠ .f) && (match e with
    | .Compare x [.Is] [.Constant .none _ _] _ => chk c .s sc a x
    | _ => false)
  | .notn a, e => decide (m ≠ .f) && (match e with
    | .Compare x [.IsNot] [.Constant .none _ _] _ => chk c .s sc a x
    | _ => false)
  | .and a b, e => decide (m ≠ .f) && (match e with
    | .BoolOp .And (x :: y :: r) pos => chk c .s sc a x && (match r with
      | [] => chk c .s sc b y
      | _ :: _ => chk c .s sc b (.BoolOp .And (y :: r) pos))
    | _ => false)
  | .or a b, e => decide (m ≠ .f) && (match e with
    | .BoolOp .Or (x :: y :: r) pos => chk c .s sc a x && (match r with
      | [] => chk c .s sc b y
      | _ :: _ => chk c .s sc b (.BoolOp .Or (y :: r) pos))
    | _ => false)
  | .not a, e => decide (m ≠ .f) && (match e with
    | .UnaryOp .Not x _ => chk c .s sc a x
    | _ => false)
  | .ife d a b, e => decide (m ≠ .f) && (match e with
    | .IfExp x y z _ => chk c .s sc d x && (chk c .s sc a y && chk c .s sc b z)
    | _ => false)
  | .tup es, e => decide (m ≠ .f) && (match e with
    | .Tuple xs _ _ => decide (es.len ≤ 1000) && chkL c .s sc es xs
    | _ => false)
  | .lst es, e => (match e with
    | .List xs _ => decide (es.len ≤ 1000) && chkL c .s sc es xs
    | _ => false)
  | .mkb es, e => decide (m ≠ .f) && (match e with
    | .List xs _ => decide (es.len ≤ 1000) && chkL c .s sc es xs
    | _ => false)
  | .ix a b, e => decide (m ≠ .f) && (match e with
    | .Subscript x y _ => nosl y && (chk c .b sc a x && chk c .s sc b y)
    | _ => false)
  | .slice a lo hi, e => (match e with
    | .Subscript x (.Slice l h none _) _ => chk c .b sc a x && (chkO c sc lo l && chkO c sc hi h)
    | _ => false)
  | .call f es, e => decide (m ≠ .f) && (match e with
    | .Call (.Name x _) xs [] _ => decide (x = c.fnm f) && (decide (xs.length = c.far f) && (c.fs.contains f && (isGl sc x && chkL c .s sc es xs)))
    | _ => false)
  | .bf b es, e => (match e with
    | .Call (.Name x _) (y :: ys) [] _ => decide (x = bfN b) && (isGl sc x && (decide (b ≠ .str) && chkL c .b sc es (y :: ys)))
    | _ => false)
  | .isi t a, e => decide (m ≠ .f) && (match e with
    | .Call (.Name x _) [y, .Name z _] [] _ => decide (x = ("isinstance" : Str)) && (isGl sc x && (decide (z = Str.ofString (tyN t)) && (isGl sc z && (nost y && chk c .b sc a y))))
    | _ => false)
  | .isi2 t u a, e => decide (m ≠ .f) && (match e with
    | .Call (.Name x _) [y, .Tuple [.Name z _, .Name z2 _] _ _] [] _ => decide (x = ("isinstance" : Str)) && (isGl sc x && (decide (z = Str.ofString (tyN t)) && (isGl sc z && (decide (z2 = Str.ofString (tyN u)) && (isGl sc z2 && (nost y && chk c .b sc a y))))))
    | _ => false)
  | .lc x t it d vs, e => (match e with
    | .ListComp y [⟨tg, iter, ifs, 0⟩] scope _ => blkC c.N sc scope (ownOf c.N vs) && (t.ix.all (vs.contains ·) && (nosetE iter && (chkT c (cellOf scope) (relS scope sc) t tg && (chkI c true sc it tg iter && (chkC c (relS scope sc) d ifs && chk c .s (relS scope sc) x y)))))
    | _ => false)
  | .lc2 x t it d t1 it1 d1 vs vs1, e => (match e with
    | .ListComp y [⟨tg, iter, ifs, 0⟩, ⟨tg1, iter1, ifs1, 0⟩] scope _ => blkC c.N sc scope (ownOf c.N vs) && (t.ix.all (vs.contains ·) && (t1.ix.all (vs1.contains ·) && (vs1.all (vs.contains ·) && (nosetE iter && (nosetE iter1 &&
      (chkT c (cellOf scope) (relS scope sc) t tg && (chkI c true sc it tg iter && (chkC c (relS scope sc) d ifs && (chkT c (cellOf scope) (relS scope sc) t1 tg1 && (chkI c false (relS scope sc) it1 tg1 iter1 && (chkC c (relS scope sc) d1 ifs1 && chk c .s (relS scope sc) x y)))))))))))
    | _ => false)
  | .lrng es, e => (match e with
    | .Call (.Name x _) [.Call (.Name y _) xs [] _] [] _ => decide (x = ("list" : Str)) && (isGl sc x && (decide (y = ("range" : Str)) && (isGl sc y && (decide (es.len = 1 ∨ es.len = 2) && chkL c .s sc es xs))))
    | _ => false)
  | .lzip a b, e => (match e with
    | .Call (.Name x _) [.Call (.Name y _) [u, v] [] _] [] _ => decide (x = ("list" : Str)) && (isGl sc x && (decide (y = ("zip" : Str)) && (isGl sc y && (nost u && (nost v && (chk c .s sc a u && chk c .s sc b v))))))
    | _ => false)
  | .sset a, e => (match e with
    | .Call (.Name x _) [.Call (.Name y _) [z] [] _] [] _ => decide (x = ("sorted" : Str)) && (isGl sc x && (decide (y = ("set" : Str)) && (isGl sc y && (nost z && chk c .s sc a z))))
    | _ => false)
  | .lset _, _ => false
def chkL (c : Ctx) (m : Md) (sc : Scope) : CL → List Expr → Bool
  | .nil, es => (match es with
    | [] => true
    | _ => false)
  | .cons x r, es => (match es with
    | e :: es => nost e && (chk c m sc x e && chkL c m sc r es)
    | [] => false)
def chkO (c : Ctx) (sc : Scope) : CO → Option Expr → Bool
  | .none, o => (match o with
    | none => true
    | _ => false)
  | .some x, o => (match o with
    | some e => chk c .s sc x e
    | _ => false)
def chkC (c : Ctx) (sc : Scope) : CO → List Expr → Bool
  | .none, o => (match o with
    | [] => true
    | _ => false)
  | .some x, o => (match o with
    | [e] => chk c .s sc x e
    | _ => false)
def chkI (c : Ctx) (bo : Bool) (sc : Scope) : CI → Expr → Expr → Bool
  | .seq x, _, e => chk c (if bo then .b else .s) sc x e
  | .rng es, _, e => (match e with
    | .Call (.Name x _) xs [] _ => decide (x = ("range" : Str)) && (isGl sc x && (decide (es.len = 1 ∨ es.len = 2) && chkL c .s sc es xs))
    | _ => false)
  | .zip a b, tg, e => (match tg, e with
    | .Tuple _ _ _, .Call (.Name x _) [y, z] [] _ => decide (x = ("zip" : Str)) && (isGl sc x && (nost y && (nost z && (chk c .s sc a y && chk c .s sc b z))))
    | _, _ => false)
  | .enum a, tg, e => (match tg, e with
    | .Tuple _ _ _, .Call (.Name x _) [y] [] _ => decide (x = ("enumerate" : Str)) && (isGl sc x && (nost y && chk c .s sc a y))
    | _, _ => false)
end
end Mi
end
section
set_option Elab.async false
set_option linter.all false
set_option maxRecDepth 100000
set_option maxHeartbeats 4000000
/-! Mi10: the checker of expressions is sound. -/
namespace Mi
open PySem PySem.Spec PyProof.Rows L2
def bltNames : List Str := ["len", "tuple", "list", "all", "any", "max", "min", "sum", "abs", "int", "str", "isinstance", "range", "zip", "bool", "set", "sorted", "enumerate"]
structure GX (c : Ctx) (C : Cfg) (Φ : Nat → List D → M D) (k : Nat) (E : XK) (X : Cx) : Prop where
  K : X.K = C.K
  N : X.N = c.N
  nd : X.N.Nodup
  calm : X.calm = true
  passes : Passes (L2.CX X.prog X.w) X E
  room : Room k X.A
  fns : ∀ f ∈ c.fs, ∃ fa fd ps, FnOk X.prog X.w X.K X.mg X.base (L2.CX X.prog X.w) k fa fd ps (spD C (c.far f) (Φ f)) ∧ X.mg (c.fnm f) = some (.ref fa) ∧ PySem.W.keepIn X.K (.ref fa) = true ∧ Binds X.K fd ps []
  blt : ∀ x ∈ bltNames, X.mg x = none
  gls : ∀ p ∈ c.gs, ∃ v u, X.mg p.1 = some u ∧ RelV v u ∧ ∀ g, Rep C.K g v (gV p.2)
section
variable {c : Ctx} {C : Cfg} {Φ : Nat → List D → M D} {k : Nat} {E : XK} {X : Cx}
theorem GX.blk (G : GX c C Φ k E X) (s : Shared) (H : Hp) (scope : Scope) (cenv : Env) (fp : List Addr) : GX c C Φ k E00 (X.blk s H scope cenv fp) :=
  ⟨G.K, G.N, G.nd, G.calm, passL, G.room, G.fns, G.blt, G.gls⟩
theorem GX.un (G : GX c C Φ k E X) : X.A.units + 65 < cLine := by
  have := G.room.un
  omega
theorem ba2 {a b : Bool} (h : (a && b) = true) : a = true ∧ b = true := Bool.and_eq_true_iff.mp h
theorem gl_of {x : Str} (h : isGl X.env.scope x = true) : Gl X x ∧ (x == ("__debug__" : Str)) = false := by
  unfold isGl at h
  split at h
  · rename_i e
    exact ⟨e, by simpa using h⟩
  · cases h
theorem vis_of {sc : Scope} {x : Str} (h : isVis sc x = true) : Vis sc x := by
  unfold isVis at h
  split at h
  · exact .inl (by assumption)
  · exact .inr (.inl (by assumption))
  · exact .inr (.inr (by assumption))
  · cases h
theorem nm_of {x : Str} (h : nmOk x = true) : (x == ("__debug__" : Str)) = false ∧ (x == ("__classdict__" : Str)) = false := by
  obtain ⟨h1, h2⟩ := ba2 h
  exact ⟨by simpa using h1, by simpa using h2⟩
theorem atN_of {N : List Str} {i : Nat} {x : Str} (h : atN N i x = true) : N[i]? = some x := by
  unfold atN at h
  split at h
  · rename_i y e
    rw [e, of_decide_eq_true h]
  · cases h
/-! targets -/
theorem asg_ns {e : Expr} {es : List Expr} {env : Env} (h : nost e = true) : assignEach (e :: es) env = (false, assign e env) :: assignEach es env := by
  cases e <;> first
    | rfl
    | (cases h; done)
theorem chkTs_ns {own : Str → Bool} {sc : Scope} : ∀ {ts : CTs} {es : List Expr}, chkTs c own sc ts es = true → es.length = ts.len ∧ es.all nost = true
  | .nil, es, h => by
    unfold chkTs at h
    cases es with
    | nil => exact ⟨rfl, rfl⟩
    | cons _ _ => cases h
  | .cons t r, es, h => by
    unfold chkTs at h
    cases es with
    | nil => cases h
    | cons e es =>
      obtain ⟨h1, h2⟩ := ba2 h
      obtain ⟨h3, h4⟩ := ba2 h2
      obtain ⟨q1, q2⟩ := chkTs_ns h4
      exact ⟨by show es.length + 1 = r.len + 1; rw [q1], by simp [h1]; simpa using q2⟩
theorem asg_len {env : Env} : ∀ {es : List Expr}, es.all nost = true → (assignEach es env).length = es.length ∧ (assignEach es env).findIdx? (·.1) = none
  | [], _ => ⟨rfl, rfl⟩
  | e :: es, h => by
    have h2 : nost e = true ∧ es.all nost = true := by simpa using h
    obtain ⟨q1, q2⟩ := asg_len (env := env) h2.2
    rw [asg_ns h2.1]
    exact ⟨by rw [List.length_cons, List.length_cons, q1], by rw [List.findIdx?_cons]; simp [q2]⟩
mutual
theorem snd_tgt {own : Str → Bool} (hN : X.N = c.N) (nd : X.N.Nodup) (hK : X.K = C.K) (hc : X.calm = true) (hf : ∀ x, own x = true → X.fn x = true) : ∀ (t : CT) (e : Expr), chkT c own X.env.scope t e = true → PG X e (gD C.K t)
  | .nm i, e, h => by
    unfold chkT at h
    cases e with
    | Name x pos =>
      obtain ⟨h1, h2⟩ := ba2 h
      have h1' := atN_of h1
      rw [← hN] at h1'
      unfold tgOk at h2
      split at h2
      · rename_i e
        exact dg_name nd h1' (.inl e) (.inr e)
      · rename_i e
        exact dg_name nd h1' (.inr e) (.inl (hf x h2))
      · cases h2
    | _ => cases h
  | .tp ts, e, h => by
    unfold chkT at h
    cases e with
    | Tuple es k pos =>
      obtain ⟨q1, q2⟩ := chkTs_ns h
      obtain ⟨q3, q4⟩ := asg_len (env := X.env) q2
      exact dg_tup hK hc (snd_tgts hN nd hK hc hf ts es h) (by rw [q3, q1]) q4
    | _ => cases h
theorem snd_tgts {own : Str → Bool} (hN : X.N = c.N) (nd : X.N.Nodup) (hK : X.K = C.K) (hc : X.calm = true) (hf : ∀ x, own x = true → X.fn x = true) : ∀ (t : CTs) (es : List Expr), chkTs c own X.env.scope t es = true → PGs X es (gDs C.K t)
  | .nil, es, h => by
    unfold chkTs at h
    cases es with
    | nil => exact dgs_nil
    | cons _ _ => cases h
  | .cons t r, es, h => by
    unfold chkTs at h
    cases es with
    | nil => cases h
    | cons e es =>
      obtain ⟨h1, h2⟩ := ba2 h
      obtain ⟨h3, h4⟩ := ba2 h2
      exact dgs_cons (snd_tgt hN nd hK hc hf t e h3) (snd_tgts hN nd hK hc hf r es h4) (by rw [asg_ns h1]; rfl)
end
/-! what is sound -/
def Snd (m : Md) (C : Cfg) (E : XK) (X : Cx) (e : Expr) (f : Ev → M D) : Prop := match m with
  | .s => DE C E X e f
  | .b => DB C E X e f
  | .f => DF C E X e f
theorem Snd.ofF {m : Md} {e : Expr} {f : Ev → M D} (h : DF C E X e f) : Snd m C E X e f := match m with
  | .s => h.toE
  | .b => h.toE.toB
  | .f => h
theorem Snd.ofE {m : Md} {e : Expr} {f : Ev → M D} (hm : decide (m ≠ .f) = true) (h : DE C E X e f) : Snd m C E X e f := match m, hm with
  | .s, _ => h
  | .b, _ => h.toB
  | .f, hm => by simp at hm
abbrev tst (f : Ev → M D) : Ev → M Bool := fun ρ => bnd (f ρ) fun x => lif (asB x)
/-- what is promised of an expression -/
structure Al (c : Ctx) (C : Cfg) (Φ : Nat → List D → M D) (k : Nat) (ce : CE) (E : XK) (X : Cx) (e : Expr) : Prop where
  v : ∀ m, chk c m X.env.scope ce e = true → Snd m C E X e (ev Φ ce)
  t : chk c .s X.env.scope ce e = true → DT C E X e (tst (ev Φ ce))
  w : ∀ op vs pos, e = .BoolOp op vs pos → chk c .s X.env.scope ce e = true → DW C E X e (tst (ev Φ ce))
def All1 (c : Ctx) (C : Cfg) (Φ : Nat → List D → M D) (k : Nat) (ce : CE) : Prop := ∀ E X e, GX c C Φ k E X → Al c C Φ k ce E X e
/-- where a test is no more than the value's truth -/
def plainT (e : Expr) : Bool := match e with
  | .UnaryOp .Not _ _ => false
  | .BoolOp _ _ _ => false
  | .IfExp _ _ _ _ => false
  | .Compare _ _ _ _ => false
  | _ => true
theorem plain_is {e : Expr} (h : plainT e = true) (env : Env) : ∀ whole, isTrue e env whole = (do let v ← whole; standAt e.pos; holding [v] (truthy v)) := by
  cases e with
  | UnaryOp op x p => cases op <;> first
    | (intro _; rfl)
    | cases h
  | BoolOp => cases h
  | IfExp => cases h
  | Compare => cases h
  | _ => intro _; rfl
theorem Al.plain {ce : CE} {e : Expr} (h : ∀ m, chk c m X.env.scope ce e = true → Snd m C E X e (ev Φ ce)) (hp : chk c .s X.env.scope ce e = true → plainT e = true) : Al c C Φ k ce E X e where
  v := h
  t := fun q => dt_of (h .s q) (plain_is (hp q) X.env)
  w := fun op vs pos he q => by
    have := hp q
    rw [he] at this
    cases this
structure AlL (c : Ctx) (C : Cfg) (Φ : Nat → List D → M D) (cl : CL) (E : XK) (X : Cx) (es : List Expr) : Prop where
  s : chkL c .s X.env.scope cl es = true → DA C E X es (evL Φ cl)
  b : chkL c .b X.env.scope cl es = true → DAB C E X es (evL Φ cl)
def AllL (c : Ctx) (C : Cfg) (Φ : Nat → List D → M D) (k : Nat) (cl : CL) : Prop := ∀ E X es, GX c C Φ k E X → AlL c C Φ cl E X es
def AllO (c : Ctx) (C : Cfg) (Φ : Nat → List D → M D) (k : Nat) (co : CO) : Prop := ∀ E X, GX c C Φ k E X → (∀ o, chkO c X.env.scope co o = true → DO C E X o (evO Φ co)) ∧ ∀ es, chkC c X.env.scope co es = true → DTs C E X es (evC Φ co)
def AllI (c : Ctx) (C : Cfg) (Φ : Nat → List D → M D) (k : Nat) (ci : CI) : Prop := ∀ E X, GX c C Φ k E X → (∀ tg e, chkI c true X.env.scope ci tg e = true → DI C E X tg e true (evI Φ ci)) ∧ ∀ tg e, chkI c false X.env.scope ci tg e = true → DI C E X tg e false (evI Φ ci)
theorem evL_len (Φ : Nat → List D → M D) : ∀ (cl : CL) (ρ : Ev) (s : Sto) (xs : List D) (s' : Sto), evL Φ cl ρ s = .ok xs s' → xs.length = cl.len
  | .nil, ρ, s, xs, s', h => by
    unfold evL at h
    obtain ⟨rfl, _⟩ := pur_ok h
    rfl
  | .cons e r, ρ, s, xs, s', h => by
    unfold evL at h
    obtain ⟨x, s1, h1, h2⟩ := bnd_ok h
    obtain ⟨ys, s2, h3, h4⟩ := bnd_ok h2
    obtain ⟨rfl, _⟩ := pur_ok h4
    show ys.length + 1 = r.len + 1
    rw [evL_len Φ r ρ s1 ys s2 h3]
theorem chkL_len {m : Md} {sc : Scope} : ∀ {cl : CL} {es : List Expr}, chkL c m sc cl es = true → es.length = cl.len ∧ es.all nost = true
  | .nil, es, h => by
    unfold chkL at h
    cases es with
    | nil => exact ⟨rfl, rfl⟩
    | cons _ _ => cases h
  | .cons x r, es, h => by
    unfold chkL at h
    cases es with
    | nil => cases h
    | cons e es =>
      obtain ⟨h1, h2⟩ := ba2 h
      obtain ⟨h3, h4⟩ := ba2 h2
      obtain ⟨q1, q2⟩ := chkL_len h4
      exact ⟨by show es.length + 1 = r.len + 1; rw [q1], by simp [h1]; simpa using q2⟩
theorem op2_of {op : Op2} {o : Operator} (h : op2N op o = true) : o = opOf op := by
  cases op <;> cases o <;> first
    | rfl
    | cases h
theorem opc_of {op : OpC} {o : CmpOp} (h : opcN op o = true) : o = cmpOf op := by
  cases op <;> cases o <;> first
    | rfl
    | cases h
theorem post_congr {α : Type} {E : XK} {g : Gh} {H : Hp} {k : α → Sto → Gh → Hp → Prop} {r r' : Res α} (e : r' = r) (h : Post C E g H k r) : Post C E g H k r' := by
  rw [e]
  exact h
end
end Mi
end
section
set_option Elab.async false
set_option linter.all false
set_option maxRecDepth 100000
set_option maxHeartbeats 4000000
/-! Mi11: the checker of expressions is sound. -/
namespace Mi
open PySem PySem.Spec PyProof.Rows L2
theorem tst_and (m n : M D) : (bnd (bnd m fun x => bnd (lif (asB x)) fun c => match c with
    | true => bnd n fun y => lif ((asB y).map .bl)
    | false => pur (.bl false)) fun x => lif (asB x)) = bnd (bnd m fun x => lif (asB x)) fun c => match c with | true => bnd n (fun x => lif (asB x)) | false => pur false := by
  funext s
  unfold bnd
  cases m s with
  | exc => rfl
  | stuck => rfl
  | ok x s1 =>
    simp only
    cases asB x with
    | none => rfl
    | some b =>
      cases b with
      | false => rfl
      | true =>
        simp only [lif, pur]
        cases n s1 with
        | exc => rfl
        | stuck => rfl
        | ok y s2 =>
          simp only
          cases asB y with
          | none => rfl
          | some b => rfl
theorem tst_or (m n : M D) : (bnd (bnd m fun x => bnd (lif (asB x)) fun c => match c with
    | true => pur (.bl true)
    | false => bnd n fun y => lif ((asB y).map .bl)) fun x => lif (asB x)) = bnd (bnd m fun x => lif (asB x)) fun c => match c with | true => pur true | false => bnd n (fun x => lif (asB x)) := by
  funext s
  unfold bnd
  cases m s with
  | exc => rfl
  | stuck => rfl
  | ok x s1 =>
    simp only
    cases asB x with
    | none => rfl
    | some b =>
      cases b with
      | true => rfl
      | false =>
        simp only [lif, pur]
        cases n s1 with
        | exc => rfl
        | stuck => rfl
        | ok y s2 =>
          simp only
          cases asB y with
          | none => rfl
          | some b => rfl
theorem tst_not (m : M D) : (bnd (bnd m fun x => lif ((asB x).map fun c => D.bl (!c))) fun x => lif (asB x)) = bnd (bnd m fun x => lif (asB x)) fun c => pur (!c) := by
  funext s
  unfold bnd
  cases m s with
  | exc => rfl
  | stuck => rfl
  | ok x s1 =>
    simp only
    cases asB x with
    | none => rfl
    | some b => rfl
theorem DE.to {C : Cfg} {E : XK} {X : Cx} {e : Expr} {f f' : Ev → M D} (h : DE C E X e f) (i : f' = f) : DE C E X e f' := by rw [i]; exact h
theorem DF.to {C : Cfg} {E : XK} {X : Cx} {e : Expr} {f f' : Ev → M D} (h : DF C E X e f) (i : f' = f) : DF C E X e f' := by rw [i]; exact h
theorem DB.to {C : Cfg} {E : XK} {X : Cx} {e : Expr} {f f' : Ev → M D} (h : DB C E X e f) (i : f' = f) : DB C E X e f' := by rw [i]; exact h
theorem DT.to {C : Cfg} {E : XK} {X : Cx} {e : Expr} {f f' : Ev → M Bool} (h : DT C E X e f) (i : f' = f) : DT C E X e f' := by rw [i]; exact h
theorem DW.to {C : Cfg} {E : XK} {X : Cx} {e : Expr} {f f' : Ev → M Bool} (h : DW C E X e f) (i : f' = f) : DW C E X e f' := by rw [i]; exact h
theorem DA.to {C : Cfg} {E : XK} {X : Cx} {e : List Expr} {f f' : Ev → M (List D)} (h : DA C E X e f) (i : f' = f) : DA C E X e f' := by rw [i]; exact h
theorem DAB.to {C : Cfg} {E : XK} {X : Cx} {e : List Expr} {f f' : Ev → M (List D)} (h : DAB C E X e f) (i : f' = f) : DAB C E X e f' := by rw [i]; exact h
theorem DI.to {C : Cfg} {E : XK} {X : Cx} {tg e : Expr} {bo : Bool} {f f' : Ev → M (List D)} (h : DI C E X tg e bo f) (i : f' = f) : DI C E X tg e bo f' := by rw [i]; exact h
theorem DO.to {C : Cfg} {E : XK} {X : Cx} {e : Option Expr} {f f' : Ev → M (Option Int)} (h : DO C E X e f) (i : f' = f) : DO C E X e f' := by rw [i]; exact h
theorem DTs.to {C : Cfg} {E : XK} {X : Cx} {e : List Expr} {f f' : Ev → M Bool} (h : DTs C E X e f) (i : f' = f) : DTs C E X e f' := by rw [i]; exact h
theorem mem_of_contains {f : Nat} {l : List Nat} (h : l.contains f = true) : f ∈ l := by simpa using h
theorem blt_in {x : Str} (h : bltNames.contains x = true) : x ∈ bltNames := by simpa using h
theorem bfN_in (b : Bf) : bfN b ∈ bltNames := by cases b <;> simp [bfN, bltNames]
theorem tyN_in (t : Ty) : Str.ofString (tyN t) ∈ bltNames := by cases t <;> simp [tyN, bltNames]
theorem boot_ty (t : Ty) : bootBuiltins (Str.ofString (tyN t)) = some (.type (tyN t)) := match t with
  | .int => boot_int
  | .bool => boot_bool
  | .str => boot_str
  | .list => boot_list
  | .tuple => boot_tuple
theorem ty_nn (t : Ty) : Str.ofString (tyN t) ≠ "__name__" := by cases t <;> decide
theorem own_snd (N : List Str) (vs : List Nat) : (ownOf N vs).map (·.2) = vs := by
  unfold ownOf
  rw [List.map_map]
  exact List.map_id vs
section
variable {c : Ctx} {C : Cfg} {Φ : Nat → List D → M D} {k : Nat} {E : XK} {X : Cx}
theorem df_bf (G : GX c C Φ k E X) {b : Bf} {x : Str} {p pos : Pos} {e : Expr} {es : List Expr} {fl : Ev → M (List D)} (hx : x = bfN b) (hg : isGl X.env.scope x = true) (hb : b ≠ .str) (ha : DAB C E X (e :: es) fl) (hs : (e :: es).all nost = true) :
    DF C E X (.Call (.Name x p) (e :: es) [] pos) (fun ρ => bnd (fl ρ) fun xs => lif (bfn b xs)) := by
  obtain ⟨hg1, hg2⟩ := gl_of hg
  have hs2 : nost e = true ∧ es.all nost = true := by simpa using hs
  have hm := G.blt x (by rw [hx]; exact bfN_in b)
  have h1 := star_ns (es := es) (env := X.env) hs2.1
  have h2 := back_ns (pos := pos) (env := X.env) hs2.2
  subst hx
  cases b with
  | len => exact df_bfB (bf_len G.K) hg1 hm PySem.boot_len ha (by decide) hg2 h1 h2
  | tuple => exact df_bfT (bf_tuple G.K) hg1 hm boot_tuple ha (by decide) hg2 h1 h2
  | list => exact df_bfT (bf_list G.K) hg1 hm boot_list ha (by decide) hg2 h1 h2
  | all => exact df_bfB (bf_all G.K G.calm) hg1 hm boot_all ha (by decide) hg2 h1 h2
  | any => exact df_bfB (bf_any G.K G.calm) hg1 hm boot_any ha (by decide) hg2 h1 h2
  | max => exact df_bfB (bf_max G.K G.calm) hg1 hm boot_max ha (by decide) hg2 h1 h2
  | min => exact df_bfB (bf_min G.K G.calm) hg1 hm boot_min ha (by decide) hg2 h1 h2
  | sum => exact df_bfB (bf_sum G.K G.calm) hg1 hm boot_sum ha (by decide) hg2 h1 h2
  | abs => exact df_bfB bf_abs hg1 hm boot_abs ha (by decide) hg2 h1 h2
  | int => exact df_bfT bf_int hg1 hm boot_int ha (by decide) hg2 h1 h2
  | str => exact absurd rfl hb
end
section
variable {c : Ctx} {C : Cfg} {Φ : Nat → List D → M D} {k : Nat} {E : XK} {X : Cx}
theorem de_calls (G : GX c C Φ k E X) {f : Nat} {x : Str} {p pos : Pos} {xs : List Expr} {es : CL} (hx : x = c.fnm f) (hn : xs.length = c.far f) (hf : f ∈ c.fs) (hg : isGl X.env.scope x = true) (hc : chkL c .s X.env.scope es xs = true) (hA : DA C E X xs (evL Φ es)) :
    DE C E X (.Call (.Name x p) xs [] pos) (fun ρ => bnd (evL Φ es ρ) fun ys => Φ f ys) := by
  subst hx
  obtain ⟨g1, g2⟩ := gl_of hg
  obtain ⟨fa, fd, ps, F, q1, q2, q3⟩ := G.fns f hf
  obtain ⟨l1, l2⟩ := chkL_len hc
  cases xs with
  | nil =>
    cases es with
    | nil =>
      rw [← hn] at F
      exact (de_call0 F G.room g1 q1 q2 q3 G.passes g2).to (funext fun ρ => by rw [evL])
    | cons _ _ => cases l1
  | cons y ys =>
    have l3 : nost y = true ∧ ys.all nost = true := by simpa using l2
    exact de_call F G.room g1 q1 q2 q3 G.passes hA hn (fun ρ s zs s' q => by rw [evL_len Φ es ρ s zs s' q, l1]) g2 (star_ns l3.1) (back_ns l3.2)
theorem di_rngs (G : GX c C Φ k E X) {x : Str} {p pos : Pos} {xs : List Expr} {es : CL} {tg : Expr} {bo : Bool} (hx : x = "range") (hg : isGl X.env.scope x = true) (hn : es.len = 1 ∨ es.len = 2) (hc : chkL c .s X.env.scope es xs = true) (hA : DA C E X xs (evL Φ es)) :
    DI C E X tg (.Call (.Name x p) xs [] pos) bo (fun ρ => bnd (evL Φ es ρ) rngL) := by
  subst hx
  obtain ⟨g1, g2⟩ := gl_of hg
  have m2 := G.blt "range" (by simp [bltNames])
  obtain ⟨l1, l2⟩ := chkL_len hc
  rcases hn with e3 | e3
  · rw [e3] at l1
    match xs, l1, l2, hA with
    | [a], _, l2, hA =>
      have l3 : nost a = true := by simpa using l2
      exact di_rng1 g1 m2 hA (by rw [star_ns l3]; rfl) (fun ρ s zs s' q => by rw [evL_len Φ es ρ s zs s' q, e3])
  · rw [e3] at l1
    match xs, l1, l2, hA with
    | [a, b], _, l2, hA =>
      have l3 : nost a = true ∧ nost b = true := by simpa using l2
      exact di_rng2 g1 m2 hA (by rw [star_ns l3.1, star_ns l3.2]; rfl) (by rw [star_ns l3.2]; rfl) (fun ρ s zs s' q => by rw [evL_len Φ es ρ s zs s' q, e3])
end
theorem op_cmpm {C : Cfg} {X : Cx} (hK : X.K = C.K) (hu : X.A.units + 65 < cLine) (o : OpC) : OpS C X (compareOp (cmpOf o)) (bx (opc o)) := opS_cmp hK hu o
theorem tst_ife (m n1 n2 : M D) : (bnd (bnd m fun x => bnd (lif (asB x)) fun k => match k with
    | true => n1
    | false => n2) fun x => lif (asB x)) = bnd (bnd m fun x => lif (asB x)) fun k => match k with | true => bnd n1 (fun x => lif (asB x)) | false => bnd n2 (fun x => lif (asB x)) := by
  funext s
  unfold bnd
  cases m s with
  | exc => rfl
  | stuck => rfl
  | ok x s1 =>
    simp only
    cases asB x with
    | none => rfl
    | some b => cases b <;> rfl
theorem pt_ifExp {X : Cx} {c a b : Expr} {pos : Pos} {tA ta tb : TT} (hc : PT X c tA) (ha : PT X a ta) (hb : PT X b tb) : PT X (.IfExp c a b pos) (fun σ H Q => tA σ H fun k H1 => if k = true then ta σ H1 Q else tb σ H1 Q) := by
  refine ⟨fun pins s σ H Q I h => ?_⟩
  show wpAny _ _ (do if ← isTrue c X.env (eval c X.env) then isTrue a X.env (eval a X.env) else isTrue b X.env (eval b X.env)) _ _ _
  refine wpAny_bind (L2.thn (hc.run pins s σ H _ I h) fun k s1 ⟨H1, I1, q1⟩ => ?_)
  cases k with
  | true => exact ha.run pins s1 σ H1 Q I1 q1
  | false => exact hb.run pins s1 σ H1 Q I1 q1
theorem dt_ife {C : Cfg} {E : XK} {X : Cx} {c a b : Expr} {pos : Pos} {gc ga gb : Ev → M Bool} (hc : DT C E X c gc) (ha : DT C E X a ga) (hb : DT C E X b gb) : DT C E X (.IfExp c a b pos) (fun ρ => bnd (gc ρ) fun k => match k with | true => ga ρ | false => gb ρ) := by
  refine ⟨PT.imp (pt_ifExp hc.pt ha.pt hb.pt) fun σ H Q ⟨g, ρ, s, w, R, p⟩ => ⟨g, ρ, s, w, R, p.bnd.imp fun c s1 g1 H1 f1 w1 k1 => ?_⟩⟩
  cases c with
  | true => exact iteT ⟨g1, ρ, s1, w1, R.fr f1, k1⟩
  | false => exact iteF ⟨g1, ρ, s1, w1, R.fr f1, k1⟩
mutual
theorem snd (c : Ctx) (C : Cfg) (Φ : Nat → List D → M D) (k : Nat) : ∀ ce : CE, All1 c C Φ k ce
  | .var i => fun E X e G => Al.plain (fun m h => by
      unfold chk at h
      obtain ⟨hm, h⟩ := ba2 h
      cases e with
      | Name x pos =>
        obtain ⟨h1, h2⟩ := ba2 h
        obtain ⟨h3, h4⟩ := ba2 h2
        obtain ⟨h5, h6⟩ := nm_of h4
        refine Snd.ofE hm ((de_var (by rw [G.N]; exact atN_of h1) (vis_of h3) h5 h6).to (funext fun ρ => by rw [ev]))
      | _ => cases h) fun h => by
      unfold chk at h
      cases e with
      | Name => rfl
      | _ => cases h
  | .own i => fun E X e G => Al.plain (fun m h => by
      unfold chk at h
      obtain ⟨hm, h⟩ := ba2 h
      cases e with
      | Name x pos =>
        obtain ⟨h1, h2⟩ := ba2 h
        obtain ⟨h3, h4⟩ := ba2 h2
        obtain ⟨h5, h6⟩ := nm_of h4
        have e1 := of_decide_eq_true hm
        subst e1
        exact ((db_own (by rw [G.N]; exact atN_of h1) (vis_of h3) h5 h6).to (funext fun ρ => by rw [ev]))
      | _ => cases h) fun h => by
      unfold chk at h
      cases e with
      | Name => rfl
      | _ => simp at h
  | .con d => fun E X e G => Al.plain (fun m h => by
      unfold chk at h
      obtain ⟨hm, h⟩ := ba2 h
      refine Snd.ofE hm (DE.to ?_ (f := fun _ => pur d) (funext fun ρ => by rw [ev]))
      split at h
      · exact de_const pe_non fun _ => .non
      · rw [← of_decide_eq_true h]
        exact de_const pe_bl fun _ => .bl _
      · rw [← of_decide_eq_true h]
        exact de_const pe_int fun _ => .int _
      · rw [← of_decide_eq_true h]
        exact de_const pe_str fun _ => .str _
      · cases h) fun h => by
      unfold chk at h
      obtain ⟨hm, h⟩ := ba2 h
      split at h <;> first
        | rfl
        | cases h
  | .glob x n => fun E X e G => Al.plain (fun m h => by
      unfold chk at h
      obtain ⟨hm, h⟩ := ba2 h
      cases e with
      | Name y pos =>
        obtain ⟨h1, h2⟩ := ba2 h
        obtain ⟨h3, h4⟩ := ba2 h2
        obtain ⟨h5, h6⟩ := gl_of h3
        obtain ⟨v, u, q1, q2, q3⟩ := G.gls (y, n) (by simpa using h4)
        exact Snd.ofE hm ((de_glob h5 q1 q2 h6 q3).to (funext fun ρ => by rw [ev]))
      | _ => cases h) fun h => by
      unfold chk at h
      obtain ⟨hm, h⟩ := ba2 h
      cases e with
      | Name => rfl
      | _ => cases h
  | .bin op a b => fun E X e G => Al.plain (fun m h => by
      unfold chk at h
      cases e with
      | BinOp x o y pos =>
        obtain ⟨h1, h2⟩ := ba2 h
        obtain ⟨h3, h4⟩ := ba2 h2
        have e1 := op2_of h1
        subst e1
        exact Snd.ofF ((df_bin (opS_all G.K op) ((snd c C Φ k a E X x G).v .b h3) ((snd c C Φ k b E X y G).v .b h4)).to (funext fun ρ => by rw [ev]))
      | _ => cases h) fun h => by
      unfold chk at h
      cases e with
      | BinOp => rfl
      | _ => cases h
  | .rep a b => fun E X e G => Al.plain (fun m h => by
      unfold chk at h
      split at h
      · obtain ⟨h3, h4⟩ := ba2 h
        exact Snd.ofF ((df_rep ((snd c C Φ k a E X _ G).v .f h3) ((snd c C Φ k b E X _ G).v .b h4)).to (funext fun ρ => by rw [ev]))
      · cases h) fun h => by
      unfold chk at h
      split at h
      · rfl
      · cases h
  | .neg a => fun E X e G => Al.plain (fun m h => by
      unfold chk at h
      obtain ⟨hm, h⟩ := ba2 h
      split at h
      · exact Snd.ofE hm ((de_neg ((snd c C Φ k a E X _ G).v .s h)).to (funext fun ρ => by rw [ev]))
      · cases h) fun h => by
      unfold chk at h
      obtain ⟨hm, h⟩ := ba2 h
      split at h
      · rfl
      · cases h
  | .cmp op a b => fun E X e G => by
      have key : ∀ m, chk c m X.env.scope (.cmp op a b) e = true → decide (m ≠ .f) = true ∧ ∃ x o y pos, e = .Compare x [o] [y] pos ∧ o = cmpOf op ∧ nosetE y = true ∧ DB C E X x (ev Φ a) ∧ DB C E X y (ev Φ b) := fun m h => by
        unfold chk at h
        obtain ⟨hm, h⟩ := ba2 h
        split at h
        · obtain ⟨h1, h2⟩ := ba2 h
          obtain ⟨h3, h4⟩ := ba2 h2
          obtain ⟨h5, h6⟩ := ba2 h4
          exact ⟨hm, _, _, _, _, rfl, opc_of h1, h3, (snd c C Φ k a E X _ G).v .b h5, (snd c C Φ k b E X _ G).v .b h6⟩
        · cases h
      refine ⟨fun m h => ?_, fun h => ?_, fun op' vs pos he h => ?_⟩
      · obtain ⟨hm, x, o, y, pos, rfl, rfl, h3, ha, hb⟩ := key m h
        exact Snd.ofE hm ((de_cmp (opS_cmp G.K G.un op) ha hb (set_ns h3 _)).to (funext fun ρ => by rw [ev]))
      · obtain ⟨hm, x, o, y, pos, rfl, rfl, h3, ha, hb⟩ := key .s h
        exact (dt_cmp (opS_cmp G.K G.un op) ha hb (set_ns h3 _)).to (funext fun ρ => by unfold tst; rw [ev])
      · obtain ⟨hm, x, o, y, pos, e1, _⟩ := key .s h
        rw [e1] at he
        cases he
  | .chain op op' a b d => fun E X e G => by
      have key : ∀ m, chk c m X.env.scope (.chain op op' a b d) e = true → decide (m ≠ .f) = true ∧ ∃ x o o' y z pos, e = .Compare x [o, o'] [y, z] pos ∧ o = cmpOf op ∧ o' = cmpOf op' ∧ nosetE z = true ∧ DE C E X x (ev Φ a) ∧ DE C E X y (ev Φ b) ∧ DE C E X z (ev Φ d) := fun m h => by
        unfold chk at h
        obtain ⟨hm, h⟩ := ba2 h
        split at h
        · obtain ⟨h1, h2⟩ := ba2 h
          obtain ⟨h3, h4⟩ := ba2 h2
          obtain ⟨h5, h6⟩ := ba2 h4
          obtain ⟨h7, h8⟩ := ba2 h6
          obtain ⟨h9, h10⟩ := ba2 h8
          exact ⟨hm, _, _, _, _, _, _, rfl, opc_of h1, opc_of h3, h5, (snd c C Φ k a E X _ G).v .s h7, (snd c C Φ k b E X _ G).v .s h9, (snd c C Φ k d E X _ G).v .s h10⟩
        · cases h
      refine ⟨fun m h => ?_, fun h => ?_, fun op'' vs pos he h => ?_⟩
      · obtain ⟨hm, x, o, o', y, z, pos, rfl, rfl, rfl, h3, ha, hb, hd⟩ := key m h
        exact Snd.ofE hm ((de_chain (opS_cmp G.K G.un op) (opS_cmp G.K G.un op') ha hb hd (set_ns h3 _)).to (funext fun ρ => by rw [ev] <;> rfl))
      · obtain ⟨hm, x, o, o', y, z, pos, rfl, rfl, rfl, h3, ha, hb, hd⟩ := key .s h
        exact (dt_chain (opS_cmp G.K G.un op) (opS_cmp G.K G.un op') ha hb hd (set_ns h3 _)).to (funext fun ρ => by unfold tst; rw [ev] <;> rfl)
      · obtain ⟨hm, x, o, o', y, z, pos, e1, _⟩ := key .s h
        rw [e1] at he
        cases he
  | .isn a => fun E X e G => by
      have key : ∀ m, chk c m X.env.scope (.isn a) e = true → decide (m ≠ .f) = true ∧ ∃ x j p pos, e = .Compare x [.Is] [.Constant .none j p] pos ∧ DE C E X x (ev Φ a) := fun m h => by
        unfold chk at h
        obtain ⟨hm, h⟩ := ba2 h
        split at h
        · exact ⟨hm, _, _, _, _, rfl, (snd c C Φ k a E X _ G).v .s h⟩
        · cases h
      refine ⟨fun m h => ?_, fun h => ?_, fun op'' vs pos he h => ?_⟩
      · obtain ⟨hm, x, j, p, pos, rfl, ha⟩ := key m h
        exact Snd.ofE hm ((de_isn ha).to (funext fun ρ => by rw [ev]))
      · obtain ⟨hm, x, j, p, pos, rfl, ha⟩ := key .s h
        exact (pt_isn ha).to (funext fun ρ => by unfold tst; rw [ev])
      · obtain ⟨hm, x, j, p, pos, e1, _⟩ := key .s h
        rw [e1] at he
        cases he
  | .notn a => fun E X e G => by
      have key : ∀ m, chk c m X.env.scope (.notn a) e = true → decide (m ≠ .f) = true ∧ ∃ x j p pos, e = .Compare x [.IsNot] [.Constant .none j p] pos ∧ DE C E X x (ev Φ a) := fun m h => by
        unfold chk at h
        obtain ⟨hm, h⟩ := ba2 h
        split at h
        · exact ⟨hm, _, _, _, _, rfl, (snd c C Φ k a E X _ G).v .s h⟩
        · cases h
      refine ⟨fun m h => ?_, fun h => ?_, fun op'' vs pos he h => ?_⟩
      · obtain ⟨hm, x, j, p, pos, rfl, ha⟩ := key m h
        exact Snd.ofE hm ((de_notn ha).to (funext fun ρ => by rw [ev]))
      · obtain ⟨hm, x, j, p, pos, rfl, ha⟩ := key .s h
        exact (pt_notn ha).to (funext fun ρ => by unfold tst; rw [ev])
      · obtain ⟨hm, x, j, p, pos, e1, _⟩ := key .s h
        rw [e1] at he
        cases he
  | .and a b => fun E X e G => by
      have key : ∀ m, chk c m X.env.scope (.and a b) e = true → decide (m ≠ .f) = true ∧ ∃ x y r pos, e = .BoolOp .And (x :: y :: r) pos ∧ Al c C Φ k a E X x ∧ chk c .s X.env.scope a x = true ∧ DE C E X (.BoolOp .And (y :: r) pos) (ev Φ b) ∧ DW C E X (.BoolOp .And (y :: r) pos) (tst (ev Φ b)) := fun m h => by
        unfold chk at h
        obtain ⟨hm, h⟩ := ba2 h
        split at h
        · obtain ⟨h1, h2⟩ := ba2 h
          refine ⟨hm, _, _, _, _, rfl, snd c C Φ k a E X _ G, h1, ?_⟩
          split at h2
          · exact ⟨de_one ((snd c C Φ k b E X _ G).v .s h2), dw_and1 ((snd c C Φ k b E X _ G).t h2)⟩
          · exact ⟨(snd c C Φ k b E X _ G).v .s h2, (snd c C Φ k b E X _ G).w _ _ _ rfl h2⟩
        · cases h
      have kw : chk c .s X.env.scope (.and a b) e = true → DW C E X e (tst (ev Φ (.and a b))) := fun h => by
        obtain ⟨hm, x, y, r, pos, rfl, ha, h1, hb, hw⟩ := key .s h
        exact (dw_and (ha.t h1) hw).to (funext fun ρ => by unfold tst; rw [ev]; exact tst_and _ _)
      refine ⟨fun m h => ?_, fun h => (kw h).dt, fun op'' vs pos he h => kw h⟩
      obtain ⟨hm, x, y, r, pos, rfl, ha, h1, hb, hw⟩ := key m h
      exact Snd.ofE hm ((de_and (ha.v .s h1) hb).to (funext fun ρ => by rw [ev] <;> rfl))
  | .or a b => fun E X e G => by
      have key : ∀ m, chk c m X.env.scope (.or a b) e = true → decide (m ≠ .f) = true ∧ ∃ x y r pos, e = .BoolOp .Or (x :: y :: r) pos ∧ Al c C Φ k a E X x ∧ chk c .s X.env.scope a x = true ∧ DE C E X (.BoolOp .Or (y :: r) pos) (ev Φ b) ∧ DW C E X (.BoolOp .Or (y :: r) pos) (tst (ev Φ b)) := fun m h => by
        unfold chk at h
        obtain ⟨hm, h⟩ := ba2 h
        split at h
        · obtain ⟨h1, h2⟩ := ba2 h
          refine ⟨hm, _, _, _, _, rfl, snd c C Φ k a E X _ G, h1, ?_⟩
          split at h2
          · exact ⟨de_one ((snd c C Φ k b E X _ G).v .s h2), dw_or1 ((snd c C Φ k b E X _ G).t h2)⟩
          · exact ⟨(snd c C Φ k b E X _ G).v .s h2, (snd c C Φ k b E X _ G).w _ _ _ rfl h2⟩
        · cases h
      have kw : chk c .s X.env.scope (.or a b) e = true → DW C E X e (tst (ev Φ (.or a b))) := fun h => by
        obtain ⟨hm, x, y, r, pos, rfl, ha, h1, hb, hw⟩ := key .s h
        exact (dw_or (ha.t h1) hw).to (funext fun ρ => by unfold tst; rw [ev]; exact tst_or _ _)
      refine ⟨fun m h => ?_, fun h => (kw h).dt, fun op'' vs pos he h => kw h⟩
      obtain ⟨hm, x, y, r, pos, rfl, ha, h1, hb, hw⟩ := key m h
      exact Snd.ofE hm ((de_or (ha.v .s h1) hb).to (funext fun ρ => by rw [ev] <;> rfl))
  | .not a => fun E X e G => by
      have key : ∀ m, chk c m X.env.scope (.not a) e = true → decide (m ≠ .f) = true ∧ ∃ x pos, e = .UnaryOp .Not x pos ∧ Al c C Φ k a E X x ∧ chk c .s X.env.scope a x = true := fun m h => by
        unfold chk at h
        obtain ⟨hm, h⟩ := ba2 h
        split at h
        · exact ⟨hm, _, _, rfl, snd c C Φ k a E X _ G, h⟩
        · cases h
      refine ⟨fun m h => ?_, fun h => ?_, fun op'' vs pos he h => ?_⟩
      · obtain ⟨hm, x, pos, rfl, ha, h1⟩ := key m h
        exact Snd.ofE hm ((de_not (ha.v .s h1)).to (funext fun ρ => by rw [ev]))
      · obtain ⟨hm, x, pos, rfl, ha, h1⟩ := key .s h
        exact (dt_not (ha.t h1)).to (funext fun ρ => by unfold tst; rw [ev]; exact tst_not _)
      · obtain ⟨hm, x, pos, e1, _⟩ := key .s h
        rw [e1] at he
        cases he
  | .ife d a b => fun E X e G => by
      have key : ∀ m, chk c m X.env.scope (.ife d a b) e = true → decide (m ≠ .f) = true ∧ ∃ x y z pos, e = .IfExp x y z pos ∧ DT C E X x (tst (ev Φ d)) ∧ DE C E X y (ev Φ a) ∧ DE C E X z (ev Φ b) := fun m h => by
        unfold chk at h
        obtain ⟨hm, h⟩ := ba2 h
        split at h
        · obtain ⟨h1, h2⟩ := ba2 h
          obtain ⟨h3, h4⟩ := ba2 h2
          exact ⟨hm, _, _, _, _, rfl, (snd c C Φ k d E X _ G).t h1, (snd c C Φ k a E X _ G).v .s h3, (snd c C Φ k b E X _ G).v .s h4⟩
        · cases h
      refine ⟨fun m h => ?_, fun h => ?_, fun op'' vs pos he h => ?_⟩
      · obtain ⟨hm, x, y, z, pos, rfl, hd, ha, hb⟩ := key m h
        exact Snd.ofE hm ((de_ife hd ha hb).to (funext fun ρ => by rw [ev, bnd_bnd] <;> rfl))
      · have key2 : ∃ x y z pos, e = .IfExp x y z pos ∧ DT C E X x (tst (ev Φ d)) ∧ DT C E X y (tst (ev Φ a)) ∧ DT C E X z (tst (ev Φ b)) := by
          unfold chk at h
          obtain ⟨hm, h⟩ := ba2 h
          split at h
          · obtain ⟨h1, h2⟩ := ba2 h
            obtain ⟨h3, h4⟩ := ba2 h2
            exact ⟨_, _, _, _, rfl, (snd c C Φ k d E X _ G).t h1, (snd c C Φ k a E X _ G).t h3, (snd c C Φ k b E X _ G).t h4⟩
          · cases h
        obtain ⟨x, y, z, pos, rfl, hd, ha, hb⟩ := key2
        exact (dt_ife hd ha hb).to (funext fun ρ => by unfold tst; rw [ev]; exact tst_ife _ _ _)
      · obtain ⟨hm, x, y, z, pos, e1, _⟩ := key .s h
        rw [e1] at he
        cases he
  | .tup es => fun E X e G => Al.plain (fun m h => by
      unfold chk at h
      obtain ⟨hm, h⟩ := ba2 h
      split at h
      · obtain ⟨h1, h2⟩ := ba2 h
        have hl := of_decide_eq_true h1
        exact Snd.ofE hm ((de_tup ((sndL c C Φ k es E X _ G).s h2) (fun ρ s ys s' q => by rw [evL_len Φ es ρ s ys s' q]; exact Nat.le_trans hl (by decide))).to (funext fun ρ => by rw [ev]))
      · cases h) fun h => by
      unfold chk at h
      obtain ⟨hm, h⟩ := ba2 h
      split at h
      · rfl
      · cases h
  | .lst es => fun E X e G => Al.plain (fun m h => by
      unfold chk at h
      split at h
      · obtain ⟨h1, h2⟩ := ba2 h
        have hl := of_decide_eq_true h1
        exact Snd.ofF ((df_lst ((sndL c C Φ k es E X _ G).s h2) (fun ρ s ys s' q => by rw [evL_len Φ es ρ s ys s' q]; exact Nat.le_trans hl (by decide))).to (funext fun ρ => by rw [ev]))
      · cases h) fun h => by
      unfold chk at h
      split at h
      · rfl
      · cases h
  | .mkb es => fun E X e G => Al.plain (fun m h => by
      unfold chk at h
      obtain ⟨hm, h⟩ := ba2 h
      split at h
      · obtain ⟨h1, h2⟩ := ba2 h
        have hl := of_decide_eq_true h1
        exact Snd.ofE hm ((de_mkb ((sndL c C Φ k es E X _ G).s h2) (fun ρ s ys s' q => by rw [evL_len Φ es ρ s ys s' q]; exact Nat.le_trans hl (by decide))).to (funext fun ρ => by rw [ev]))
      · cases h) fun h => by
      unfold chk at h
      obtain ⟨hm, h⟩ := ba2 h
      split at h
      · rfl
      · cases h
  | .ix a b => fun E X e G => Al.plain (fun m h => by
      unfold chk at h
      obtain ⟨hm, h⟩ := ba2 h
      split at h
      · obtain ⟨h1, h2⟩ := ba2 h
        obtain ⟨h3, h4⟩ := ba2 h2
        exact Snd.ofE hm ((de_ix G.K ((snd c C Φ k a E X _ G).v .b h3) ((snd c C Φ k b E X _ G).v .s h4) (ix_ns h1)).to (funext fun ρ => by rw [ev]))
      · cases h) fun h => by
      unfold chk at h
      obtain ⟨hm, h⟩ := ba2 h
      split at h
      · rfl
      · cases h
  | .slice a lo hi => fun E X e G => Al.plain (fun m h => by
      unfold chk at h
      split at h
      · obtain ⟨h1, h2⟩ := ba2 h
        obtain ⟨h3, h4⟩ := ba2 h2
        exact Snd.ofF ((df_slice G.K ((snd c C Φ k a E X _ G).v .b h1) ((sndO c C Φ k lo E X G).1 _ h3) ((sndO c C Φ k hi E X G).1 _ h4)).to (funext fun ρ => by rw [ev]))
      · cases h) fun h => by
      unfold chk at h
      split at h
      · rfl
      · cases h
  | .call f es => fun E X e G => Al.plain (fun m h => by
      unfold chk at h
      obtain ⟨hm, h⟩ := ba2 h
      split at h
      · obtain ⟨h1, h2⟩ := ba2 h
        obtain ⟨h3, h4⟩ := ba2 h2
        obtain ⟨h5, h6⟩ := ba2 h4
        obtain ⟨h7, h8⟩ := ba2 h6
        exact Snd.ofE hm ((de_calls G (of_decide_eq_true h1) (of_decide_eq_true h3) (mem_of_contains h5) h7 h8 ((sndL c C Φ k es E X _ G).s h8)).to (funext fun ρ => by rw [ev]))
      · cases h) fun h => by
      unfold chk at h
      obtain ⟨hm, h⟩ := ba2 h
      split at h
      · rfl
      · cases h
  | .bf b es => fun E X e G => Al.plain (fun m h => by
      unfold chk at h
      split at h
      · obtain ⟨h1, h2⟩ := ba2 h
        obtain ⟨h3, h4⟩ := ba2 h2
        obtain ⟨h5, h6⟩ := ba2 h4
        obtain ⟨l1, l2⟩ := chkL_len h6
        exact Snd.ofF ((df_bf G (of_decide_eq_true h1) h3 (of_decide_eq_true h5) ((sndL c C Φ k es E X _ G).b h6) l2).to (funext fun ρ => by rw [ev]))
      · cases h) fun h => by
      unfold chk at h
      split at h
      · rfl
      · cases h
  | .isi t a => fun E X e G => Al.plain (fun m h => by
      unfold chk at h
      obtain ⟨hm, h⟩ := ba2 h
      split at h
      · obtain ⟨h1, h2⟩ := ba2 h
        obtain ⟨h3, h4⟩ := ba2 h2
        obtain ⟨h5, h6⟩ := ba2 h4
        obtain ⟨h7, h8⟩ := ba2 h6
        obtain ⟨h9, h10⟩ := ba2 h8
        have e1 := of_decide_eq_true h1
        have e2 := of_decide_eq_true h5
        subst e1 e2
        obtain ⟨g1, g2⟩ := gl_of h3
        obtain ⟨g3, g4⟩ := gl_of h7
        exact Snd.ofE hm ((de_isi (t := t) G.K ((snd c C Φ k a E X _ G).v .b h10) g1 (G.blt _ (by simp [bltNames])) g3 (G.blt _ (tyN_in t)) (boot_ty t) (ty_nn t) g4 (star_ns h9) (by rfl)).to (funext fun ρ => by rw [ev]))
      · cases h) fun h => by
      unfold chk at h
      obtain ⟨hm, h⟩ := ba2 h
      split at h
      · rfl
      · cases h
  | .isi2 t u a => fun E X e G => Al.plain (fun m h => by
      unfold chk at h
      obtain ⟨hm, h⟩ := ba2 h
      split at h
      · obtain ⟨h1, h2⟩ := ba2 h
        obtain ⟨h3, h4⟩ := ba2 h2
        obtain ⟨h5, h6⟩ := ba2 h4
        obtain ⟨h7, h8⟩ := ba2 h6
        obtain ⟨k5, k6⟩ := ba2 h8
        obtain ⟨k7, k8⟩ := ba2 k6
        obtain ⟨h9, h10⟩ := ba2 k8
        have e1 := of_decide_eq_true h1
        have e2 := of_decide_eq_true h5
        have e3 := of_decide_eq_true k5
        subst e1 e2 e3
        obtain ⟨g1, g2⟩ := gl_of h3
        obtain ⟨g3, g4⟩ := gl_of h7
        obtain ⟨g5, g6⟩ := gl_of k7
        exact Snd.ofE hm ((de_isi2 (t := t) (u := u) G.K ((snd c C Φ k a E X _ G).v .b h10) g1 (G.blt _ (by simp [bltNames])) g3 (G.blt _ (tyN_in t)) (boot_ty t) (ty_nn t) g4 g5 (G.blt _ (tyN_in u)) (boot_ty u) (ty_nn u) g6 (star_ns h9) (by rfl)).to (funext fun ρ => by rw [ev]))
      · cases h) fun h => by
      unfold chk at h
      obtain ⟨hm, h⟩ := ba2 h
      split at h
      · rfl
      · cases h
  | .lc x t it d vs => fun E X e G => Al.plain (fun m h => by
      unfold chk at h
      split at h
      · rename_i y tg iter ifs scope pos
        obtain ⟨h1, h2⟩ := ba2 h
        obtain ⟨h3, h4⟩ := ba2 h2
        obtain ⟨h5, h6⟩ := ba2 h4
        obtain ⟨h7, h8⟩ := ba2 h6
        obtain ⟨h9, h10⟩ := ba2 h8
        obtain ⟨h11, h12⟩ := ba2 h10
        have ok : BlkOk X.N X.env.scope scope (ownOf c.N vs) := by
          rw [G.N]
          exact blkOk_by h1
        refine Snd.ofF (DF.to (df_lc (own := ownOf c.N vs) (fc := evC Φ d) (fe := ev Φ x) (t := t) G.calm G.nd ((sndI c C Φ k it E X G).1 tg iter h9) ok (fun i hi => ?_) (fun s H C' cl fp => ?_) (fun s H C' cl fp => ?_) (fun s H C' cl fp => ?_) (fold_ns h5 X.env)) (funext fun ρ => ?_))
        · rw [own_snd]
          have := List.all_eq_true.mp h3 i hi
          simpa using this
        · have GB := G.blk s H scope (compEnvC scope cl C' X.env) fp
          exact snd_tgt (c := c) (own := cellOf scope) GB.N GB.nd GB.K GB.calm (fun x hx => hx) t tg h7
        · exact (sndO c C Φ k d E00 _ (G.blk s H scope _ fp)).2 ifs h11
        · exact (snd c C Φ k x E00 _ y (G.blk s H scope _ fp)).v .s h12
        · rw [ev, own_snd]
          rfl
      · cases h) fun h => by
      unfold chk at h
      split at h
      · rfl
      · cases h
  | .lc2 x t it d t1 it1 d1 vs vs1 => fun E X e G => Al.plain (fun m h => by
      unfold chk at h
      split at h
      · rename_i y tg iter ifs tg1 iter1 ifs1 scope pos
        obtain ⟨h1, h⟩ := ba2 h
        obtain ⟨h2, h⟩ := ba2 h
        obtain ⟨h3, h⟩ := ba2 h
        obtain ⟨h4, h⟩ := ba2 h
        obtain ⟨h5, h⟩ := ba2 h
        obtain ⟨h6, h⟩ := ba2 h
        obtain ⟨h7, h⟩ := ba2 h
        obtain ⟨h8, h⟩ := ba2 h
        obtain ⟨h9, h⟩ := ba2 h
        obtain ⟨h10, h⟩ := ba2 h
        obtain ⟨h11, h⟩ := ba2 h
        obtain ⟨h12, h⟩ := ba2 h
        have ok : BlkOk X.N X.env.scope scope (ownOf c.N vs) := by
          rw [G.N]
          exact blkOk_by h1
        refine Snd.ofF (DF.to (df_lc2 (own := ownOf c.N vs) (vs1 := vs1) (fc := evC Φ d) (fc1 := evC Φ d1) (fi1 := evI Φ it1) (fe := ev Φ x) (t := t) (t1 := t1) G.calm G.nd ((sndI c C Φ k it E X G).1 tg iter h8) ok (fun i hi => ?_) (fun i hi => ?_) (fun i hi => ?_) (fun s H C' cl fp => ?_) (fun s H C' cl fp => ?_) (fun s H C' cl fp => ?_) (fun s H C' cl fp => ?_) (fun s H C' cl fp => ?_) (fun s H C' cl fp => ?_) (fold_ns h5 X.env) (fold_ns h6)) (funext fun ρ => ?_))
        · rw [own_snd]
          have := List.all_eq_true.mp h4 i hi
          simpa using this
        · rw [own_snd]
          have := List.all_eq_true.mp h2 i hi
          simpa using this
        · have := List.all_eq_true.mp h3 i hi
          simpa using this
        · have GB := G.blk s H scope (compEnvC scope cl C' X.env) fp
          exact snd_tgt (c := c) (own := cellOf scope) GB.N GB.nd GB.K GB.calm (fun x hx => hx) t tg h7
        · exact (sndO c C Φ k d E00 _ (G.blk s H scope _ fp)).2 ifs h9
        · exact (sndI c C Φ k it1 E00 _ (G.blk s H scope _ fp)).2 tg1 iter1 h11
        · have GB := G.blk s H scope (compEnvC scope cl C' X.env) fp
          exact snd_tgt (c := c) (own := cellOf scope) GB.N GB.nd GB.K GB.calm (fun x hx => hx) t1 tg1 h10
        · exact (sndO c C Φ k d1 E00 _ (G.blk s H scope _ fp)).2 ifs1 h12
        · exact (snd c C Φ k x E00 _ y (G.blk s H scope _ fp)).v .s h
        · rw [ev, own_snd]
          rfl
      · cases h) fun h => by
      unfold chk at h
      split at h
      · rfl
      · cases h
  | .lrng es => fun E X e G => Al.plain (fun m h => by
      unfold chk at h
      split at h
      · rename_i x p y p2 xs pos2 pos
        obtain ⟨h1, h2⟩ := ba2 h
        obtain ⟨h3, h4⟩ := ba2 h2
        obtain ⟨h5, h6⟩ := ba2 h4
        obtain ⟨h7, h8⟩ := ba2 h6
        obtain ⟨h9, h10⟩ := ba2 h8
        have e1 := of_decide_eq_true h1
        have e2 := of_decide_eq_true h5
        have e3 := of_decide_eq_true h9
        subst e1 e2
        obtain ⟨g1, g2⟩ := gl_of h3
        obtain ⟨g3, g4⟩ := gl_of h7
        have m1 := G.blt "list" (by simp [bltNames])
        have m2 := G.blt "range" (by simp [bltNames])
        cases es with
        | nil => rcases e3 with e3 | e3 <;> cases e3
        | cons a r =>
          unfold chkL at h10
          cases xs with
          | nil => cases h10
          | cons z zs =>
            obtain ⟨k1, k2⟩ := ba2 h10
            obtain ⟨k3, k4⟩ := ba2 k2
            cases r with
            | nil =>
              unfold chkL at k4
              cases zs with
              | nil => exact Snd.ofF ((df_lrng1 G.calm g1 m1 g3 m2 ((snd c C Φ k a E X z G).v .s k3) (star_ns k1)).to (funext fun ρ => by rw [ev, evL, bnd_bnd]; rfl))
              | cons _ _ => cases k4
            | cons b r =>
              cases r with
              | cons _ _ => rcases e3 with e3 | e3 <;> simp [CL.len] at e3
              | nil =>
                unfold chkL at k4
                cases zs with
                | nil => cases k4
                | cons z2 zs =>
                  obtain ⟨j1, j2⟩ := ba2 k4
                  obtain ⟨j3, j4⟩ := ba2 j2
                  unfold chkL at j4
                  cases zs with
                  | cons _ _ => cases j4
                  | nil =>
                    refine Snd.ofF ((df_lrng2 G.calm g1 m1 g3 m2 ((snd c C Φ k a E X z G).v .s k3) ((snd c C Φ k b E X z2 G).v .s j3) (star_ns k1) (star_ns j1) (back_ns (by simp [j1]))).to (funext fun ρ => ?_))
                    rw [ev, evL, evL, bnd_bnd]
                    congr 1
                    funext x
                    rw [bnd_bnd, bnd_bnd]
                    rfl
      · cases h) fun h => by
      unfold chk at h
      split at h
      · rfl
      · cases h
  | .lzip a b => fun E X e G => Al.plain (fun m h => by
      unfold chk at h
      split at h
      · rename_i x p y p2 u v pos2 pos
        obtain ⟨h1, h⟩ := ba2 h
        obtain ⟨h3, h⟩ := ba2 h
        obtain ⟨h5, h⟩ := ba2 h
        obtain ⟨h7, h⟩ := ba2 h
        obtain ⟨h9, h⟩ := ba2 h
        obtain ⟨h10, h⟩ := ba2 h
        obtain ⟨h11, h12⟩ := ba2 h
        have e1 := of_decide_eq_true h1
        have e2 := of_decide_eq_true h5
        subst e1 e2
        obtain ⟨g1, g2⟩ := gl_of h3
        obtain ⟨g3, g4⟩ := gl_of h7
        exact Snd.ofF ((df_lzip G.K G.calm g1 (G.blt "list" (by simp [bltNames])) g3 (G.blt "zip" (by simp [bltNames])) ((snd c C Φ k a E X u G).v .s h11) ((snd c C Φ k b E X v G).v .s h12) h9 h10).to (funext fun ρ => by rw [ev] <;> rfl))
      · cases h) fun h => by
      unfold chk at h
      split at h
      · rfl
      · cases h
  | .sset a => fun E X e G => Al.plain (fun m h => by
      unfold chk at h
      split at h
      · rename_i x p y p2 z pos2 pos
        obtain ⟨h1, h2⟩ := ba2 h
        obtain ⟨h3, h4⟩ := ba2 h2
        obtain ⟨h5, h6⟩ := ba2 h4
        obtain ⟨h7, h8⟩ := ba2 h6
        obtain ⟨h9, h10⟩ := ba2 h8
        have e1 := of_decide_eq_true h1
        have e2 := of_decide_eq_true h5
        subst e1 e2
        obtain ⟨g1, g2⟩ := gl_of h3
        obtain ⟨g3, g4⟩ := gl_of h7
        exact Snd.ofF ((df_sset G.K G.calm G.un g1 (G.blt "sorted" (by simp [bltNames])) g3 (G.blt "set" (by simp [bltNames])) ((snd c C Φ k a E X z G).v .s h10) h9).to (funext fun ρ => by rw [ev]))
      · cases h) fun h => by
      unfold chk at h
      split at h
      · rfl
      · cases h
  | .lset .. => fun E X e G => Al.plain (fun m h => by unfold chk at h; cases h) fun h => by unfold chk at h; cases h
theorem sndL (c : Ctx) (C : Cfg) (Φ : Nat → List D → M D) (k : Nat) : ∀ cl : CL, AllL c C Φ k cl
  | .nil => fun E X es G => by
      refine ⟨fun h => ?_, fun h => ?_⟩
      · unfold chkL at h
        cases es with
        | nil => exact da_nil.to (funext fun ρ => by rw [evL])
        | cons _ _ => cases h
      · unfold chkL at h
        cases es with
        | nil => exact dab_nil.to (funext fun ρ => by rw [evL])
        | cons _ _ => cases h
  | .cons x r => fun E X es G => by
      refine ⟨fun h => ?_, fun h => ?_⟩
      · unfold chkL at h
        cases es with
        | nil => cases h
        | cons e es =>
          obtain ⟨h1, h2⟩ := ba2 h
          obtain ⟨h3, h4⟩ := ba2 h2
          exact (da_cons ((snd c C Φ k x E X e G).v .s h3) ((sndL c C Φ k r E X es G).s h4) (star_ns h1)).to (funext fun ρ => by rw [evL])
      · unfold chkL at h
        cases es with
        | nil => cases h
        | cons e es =>
          obtain ⟨h1, h2⟩ := ba2 h
          obtain ⟨h3, h4⟩ := ba2 h2
          exact (dab_cons ((snd c C Φ k x E X e G).v .b h3) ((sndL c C Φ k r E X es G).b h4) (star_ns h1)).to (funext fun ρ => by rw [evL])
theorem sndO (c : Ctx) (C : Cfg) (Φ : Nat → List D → M D) (k : Nat) : ∀ co : CO, AllO c C Φ k co
  | .none => fun E X G => by
      refine ⟨fun o h => ?_, fun es h => ?_⟩
      · unfold chkO at h
        cases o with
        | none => exact do_none.to (funext fun ρ => by rw [evO])
        | some _ => cases h
      · unfold chkC at h
        cases es with
        | nil => exact dts_nil.to (funext fun ρ => by rw [evC])
        | cons _ _ => cases h
  | .some x => fun E X G => by
      refine ⟨fun o h => ?_, fun es h => ?_⟩
      · unfold chkO at h
        cases o with
        | none => cases h
        | some e => exact (do_some ((snd c C Φ k x E X e G).v .s h)).to (funext fun ρ => by rw [evO])
      · unfold chkC at h
        split at h
        · exact (dts_one ((snd c C Φ k x E X _ G).t h)).to (funext fun ρ => by rw [evC])
        · cases h
theorem sndI (c : Ctx) (C : Cfg) (Φ : Nat → List D → M D) (k : Nat) : ∀ ci : CI, AllI c C Φ k ci
  | .seq x => fun E X G => by
      refine ⟨fun tg e h => ?_, fun tg e h => ?_⟩
      · unfold chkI at h
        exact (di_seqB G.K ((snd c C Φ k x E X e G).v .b h)).to (funext fun ρ => by rw [evI])
      · unfold chkI at h
        exact (di_seq G.K ((snd c C Φ k x E X e G).v .s h)).to (funext fun ρ => by rw [evI])
  | .rng es => fun E X G => by
      have key : ∀ bo b2 tg e, chkI c bo X.env.scope (.rng es) tg e = true → DI C E X tg e b2 (evI Φ (.rng es)) := fun bo b2 tg e h => by
        unfold chkI at h
        split at h
        · obtain ⟨h1, h2⟩ := ba2 h
          obtain ⟨h3, h4⟩ := ba2 h2
          obtain ⟨h5, h6⟩ := ba2 h4
          exact (di_rngs G (of_decide_eq_true h1) h3 (of_decide_eq_true h5) h6 ((sndL c C Φ k es E X _ G).s h6)).to (funext fun ρ => by rw [evI]; rfl)
        · cases h
      exact ⟨fun tg e h => key true true tg e h, fun tg e h => key false false tg e h⟩
  | .zip a b => fun E X G => by
      have key : ∀ bo b2 tg e, chkI c bo X.env.scope (.zip a b) tg e = true → DI C E X tg e b2 (evI Φ (.zip a b)) := fun bo b2 tg e h => by
        unfold chkI at h
        split at h
        · obtain ⟨h1, h2⟩ := ba2 h
          obtain ⟨h3, h4⟩ := ba2 h2
          obtain ⟨h5, h6⟩ := ba2 h4
          obtain ⟨h7, h8⟩ := ba2 h6
          obtain ⟨h9, h10⟩ := ba2 h8
          have e1 := of_decide_eq_true h1
          subst e1
          obtain ⟨g1, g2⟩ := gl_of h3
          have m2 := G.blt "zip" (by simp [bltNames])
          exact (di_zip G.K g1 m2 ((snd c C Φ k a E X _ G).v .s h9) ((snd c C Φ k b E X _ G).v .s h10) (star_ns h5) (star_ns h7) (back_ns (by simp [h7]))).to (funext fun ρ => by rw [evI]; rfl)
        · cases h
      exact ⟨fun tg e h => key true true tg e h, fun tg e h => key false false tg e h⟩
  | .enum a => fun E X G => by
      have key : ∀ bo b2 tg e, chkI c bo X.env.scope (.enum a) tg e = true → DI C E X tg e b2 (evI Φ (.enum a)) := fun bo b2 tg e h => by
        unfold chkI at h
        split at h
        · obtain ⟨h1, h⟩ := ba2 h
          obtain ⟨h3, h⟩ := ba2 h
          obtain ⟨h5, h6⟩ := ba2 h
          have e1 := of_decide_eq_true h1
          subst e1
          obtain ⟨g1, g2⟩ := gl_of h3
          exact (di_enum G.K g1 (G.blt "enumerate" (by simp [bltNames])) ((snd c C Φ k a E X _ G).v .s h6) h5).to (funext fun ρ => by rw [evI])
        · cases h
      exact ⟨fun tg e h => key true true tg e h, fun tg e h => key false false tg e h⟩
end
end Mi
end
section
set_option Elab.async false
set_option linter.all false
set_option maxRecDepth 100000
set_option maxHeartbeats 4000000
/-! Mi12: statements. -/
namespace Mi
open PySem PySem.Spec PyProof.Rows L2
structure SW (K : PySem.W.Frag) (g0 : Gh) (H0 : Hp) (g : Gh) (H : Hp) (σ : L2.St) (ρ : Ev) (s : Sto) : Prop where
  w : Wd K g H s
  r : REnv K g H σ ρ
  f : Fr g0 H0 g H
  o : ∀ (i : Nat) ds a, ρ[i]? = some (.own ds) → σ[i]? = some (some (.ref a)) → H0 a = none
def SPost (C : Cfg) (E : XK) (g0 : Gh) (H0 : Hp) (gs : Gh) (D : Ends) : SR → Prop
  | .nx ρ s => ∀ g H σ, SW C.K g0 H0 g H σ ρ s → Le gs g → D.nx σ H
  | .rt d s => ∀ g H v, Fr g0 H0 g H → Wd C.K g H s → Rep C.K g v d → D.rt v H
  | .bk ρ s => ∀ g H σ, SW C.K g0 H0 g H σ ρ s → Le gs g → D.bk σ H
  | .ct ρ s => ∀ g H σ, SW C.K g0 H0 g H σ ρ s → Le gs g → D.ct σ H
  | .exc c a s => ∀ g H od, Fr g0 H0 g H → Wd C.K g H s → XR C c a od g H → E (C.cls c) od H
  | .stuck => False
theorem SPost.weak {C : Cfg} {E : XK} {g0 : Gh} {H0 : Hp} {gs gs' : Gh} {D : Ends} (l : Le gs gs') : ∀ {r : SR}, SPost C E g0 H0 gs D r → SPost C E g0 H0 gs' D r
  | .nx ρ s, h => fun g H σ sw l2 => h g H σ sw (l.trans l2)
  | .rt d s, h => h
  | .bk ρ s, h => fun g H σ sw l2 => h g H σ sw (l.trans l2)
  | .ct ρ s, h => fun g H σ sw l2 => h g H σ sw (l.trans l2)
  | .exc c a s, h => h
  | .stuck, h => h
def tS (C : Cfg) (E : XK) (g0 : Gh) (H0 : Hp) (f : Ev → Sto → SR) : TS := fun D σ H => ∃ g ρ s, SW C.K g0 H0 g H σ ρ s ∧ SPost C E g0 H0 g D (f ρ s)
structure DS (C : Cfg) (E : XK) (X : Cx) (g0 : Gh) (H0 : Hp) (st : Stmt) (f : Ev → Sto → SR) : Prop where
  ps : PS X st (tS C E g0 H0 f)
structure DSs (C : Cfg) (E : XK) (X : Cx) (g0 : Gh) (H0 : Hp) (st : List Stmt) (f : Ev → Sto → SR) : Prop where
  ps : PSs X st (tS C E g0 H0 f)
theorem PSs.imp {X : Cx} {e : List Stmt} {t t' : TS} (h : PSs X e t) (i : ∀ D σ H, t' D σ H → t D σ H) : PSs X e t' := ⟨fun pins s σ H D I q => h.run pins s σ H D I (i D σ H q)⟩
section
variable {C : Cfg} {E : XK} {X : Cx} {g0 : Gh} {H0 : Hp} {e a b : Expr} {fe fa fb : Ev → M D} {pos : Pos} {K : PySem.W.Frag}
theorem SPost.thn {α : Type} {D : Ends} {g : Gh} {H : Hp} {f : α → Sto → SR} (fr : Fr g0 H0 g H) : ∀ {m : Res α}, SPost C E g0 H0 g D (Mi.thn m f) → Post C E g H (fun a s _ _ => SPost C E g0 H0 g D (f a s)) m
  | .ok a s, h => fun _ _ _ _ => h
  | .exc c a s, h => fun g' H' od f' w x => h g' H' od (fr.trans f') w x
  | .stuck, h => h
theorem SW.fr {g : Gh} {H : Hp} {σ : L2.St} {ρ : Ev} {s s' : Sto} (x : SW K g0 H0 g H σ ρ s) {g' : Gh} {H' : Hp} (f : Fr g H g' H') (w : Wd K g' H' s') : SW K g0 H0 g' H' σ ρ s' := ⟨w, x.r.fr f, x.f.trans f, x.o⟩
theorem SW.set {g : Gh} {H : Hp} {σ : L2.St} {ρ : Ev} {s : Sto} (x : SW K g0 H0 g H σ ρ s) {v : V} {d : D} (h : Rep K g v d) (i : Nat) : SW K g0 H0 g H (σ.set i (some v)) (ρ.set i (.val d)) s :=
  ⟨x.w, x.r.set h i, x.f, fun j ds a q1 q2 => by
    by_cases hj : i = j
    · subst hj
      have hlt : i < ρ.length := by
        have := (List.getElem?_eq_some_iff.mp q1).1
        rwa [List.length_set] at this
      rw [List.getElem?_set_self hlt] at q1
      cases q1
    · rw [List.getElem?_set_ne hj] at q1 q2
      exact x.o j ds a q1 q2⟩
/-- a list of the slot's own is stored -/
theorem SW.setO {g : Gh} {H : Hp} {σ : L2.St} {ρ : Ev} {s : Sto} (x : SW K g0 H0 g H σ ρ s) {p : Addr} {vs : List V} {ds : List D} (h1 : H p = some (.lst vs)) (h2 : vs.length ≤ LIM) (h3 : Reps K g vs ds) (h4 : g.S p = none) (h5 : p ∉ g.B) (h0 : H0 p = none)
    (i : Nat) (hne : ∀ (j : Nat) es, j ≠ i → ρ[j]? = some (.own es) → σ[j]? ≠ some (some (.ref p))) : SW K g0 H0 g H (σ.set i (some (.ref p))) (ρ.set i (.own ds)) s := by
  have len := x.r.len
  refine ⟨x.w, ⟨by rw [List.length_set, List.length_set, len], fun j e q => ?_, fun j e q => ?_, fun j k e f a q1 q2 q3 q4 => ?_⟩, x.f, fun j es a q1 q2 => ?_⟩
  · by_cases hj : i = j
    · subst hj
      have hlt : i < ρ.length := by
        have := (List.getElem?_eq_some_iff.mp q).1
        rwa [List.length_set] at this
      rw [List.getElem?_set_self hlt] at q
      cases q
    · rw [List.getElem?_set_ne hj] at q
      rw [List.getElem?_set_ne hj]
      exact x.r.val j e q
  · by_cases hj : i = j
    · subst hj
      have hlt : i < ρ.length := by
        have := (List.getElem?_eq_some_iff.mp q).1
        rwa [List.length_set] at this
      rw [List.getElem?_set_self hlt] at q
      cases q
      exact ⟨p, vs, List.getElem?_set_self (by rw [← len]; exact hlt), h1, h2, h3, h4, h5⟩
    · rw [List.getElem?_set_ne hj] at q
      rw [List.getElem?_set_ne hj]
      exact x.r.own j e q
  · by_cases hj : i = j
    · subst hj
      by_cases hk : i = k
      · exact hk
      · rw [List.getElem?_set_ne hk] at q2 q4
        have hlt : i < σ.length := by
          have := (List.getElem?_eq_some_iff.mp q3).1
          rwa [List.length_set] at this
        rw [List.getElem?_set_self hlt] at q3
        cases q3
        exact absurd q4 (hne k f (Ne.symm hk) q2)
    · by_cases hk : i = k
      · subst hk
        rw [List.getElem?_set_ne hj] at q1 q3
        have hlt : i < σ.length := by
          have := (List.getElem?_eq_some_iff.mp q4).1
          rwa [List.length_set] at this
        rw [List.getElem?_set_self hlt] at q4
        cases q4
        exact absurd q3 (hne j e (Ne.symm hj) q1)
      · rw [List.getElem?_set_ne hj] at q1 q3
        rw [List.getElem?_set_ne hk] at q2 q4
        exact x.r.inj j k e f a q1 q2 q3 q4
  · by_cases hj : i = j
    · subst hj
      have hlt : i < σ.length := by
        have := (List.getElem?_eq_some_iff.mp q2).1
        rwa [List.length_set] at this
      rw [List.getElem?_set_self hlt] at q2
      cases q2
      exact h0
    · rw [List.getElem?_set_ne hj] at q1 q2
      exact x.o j es a q1 q2
/-- the lists of the slots in P stay from now on -/
theorem SW.frzP {g : Gh} {H : Hp} {σ : L2.St} {ρ ρ' : Ev} {s : Sto} (x : SW K g0 H0 g H σ ρ s) (P : Nat → Prop) (hl : ρ'.length = ρ.length) (h1 : ∀ (i : Nat) ds, P i → ρ[i]? = some (.own ds) → ρ'[i]? = some (.val (.lst ds))) (h2 : ∀ (i : Nat), ¬ P i → ρ'[i]? = ρ[i]?)
    (h3 : ∀ (i : Nat), (∀ ds, ρ[i]? ≠ some (.own ds)) → ρ'[i]? = ρ[i]?) : ∃ g', Le g g' ∧ SW K g0 H0 g' H σ ρ' s := by
  classical
  let own : Addr → Prop := fun a => ∃ (i : Nat) (ds : List D), P i ∧ ρ[i]? = some (.own ds) ∧ σ[i]? = some (some (.ref a))
  have ho : ∀ a, own a → g.S a = none ∧ a ∉ g.B ∧ H0 a = none ∧ ∃ vs, H a = some (.lst vs) := fun a ⟨i, ds, p, q1, q2⟩ => by
    obtain ⟨b, vs, k1, k2, k3, k4, k5, k6⟩ := x.r.own i ds q1
    rw [q2] at k1
    cases k1
    exact ⟨k5, k6, x.o i ds a q1 q2, vs, k2⟩
  let S2 : Hp := fun a => if own a then H a else g.S a
  have hS : ∀ a, own a → S2 a = H a := fun a h => if_pos h
  have hN : ∀ a, ¬ own a → S2 a = g.S a := fun a h => if_neg h
  have le : Le g ⟨S2, g.B⟩ := ⟨fun a o e => by
    show S2 a = some o
    rw [hN a fun h => by rw [(ho a h).1] at e; cases e]
    exact e, fun _ _ e => e⟩
  refine ⟨⟨S2, g.B⟩, le, ⟨fun a o e => ?_, x.w.len, fun l xs q => ?_, x.w.inj, fun a ha => ?_⟩, ⟨by rw [hl, x.r.len], fun i d q => ?_, fun i ds q => ?_, fun i j ds es a q1 q2 q3 q4 => ?_⟩, ⟨x.f.le.trans le, x.f.keep, x.f.there, fun a o e n => ?_, x.f.newB⟩, fun i ds a q1 q2 => ?_⟩
  · have e' : S2 a = some o := e
    by_cases h : own a
    · rw [hS a h] at e'; exact e'
    · rw [hN a h] at e'; exact x.w.sub a o e'
  · obtain ⟨b, vs, k1, k2, k3⟩ := x.w.box l xs q
    exact ⟨b, vs, k1, k2, k3.mono le⟩
  · show S2 a = none
    rw [hN a fun h => (ho a h).2.1 ha]
    exact x.w.bs a ha
  · by_cases hp : P i
    · by_cases hq : ∃ ds, ρ[i]? = some (.own ds)
      · obtain ⟨ds, hq⟩ := hq
        rw [h1 i ds hp hq] at q
        cases q
        obtain ⟨b, vs, k1, k2, k3, k4, k5, k6⟩ := x.r.own i ds hq
        have hb : own b := ⟨i, ds, hp, hq, k1⟩
        exact ⟨.ref b, k1, .lst (.inl (.inl (by show S2 b = _; rw [hS b hb]; exact k2))) k3 (k4.mono le)⟩
      · rw [h3 i fun ds e => hq ⟨ds, e⟩] at q
        obtain ⟨v, k1, k2⟩ := x.r.val i d q
        exact ⟨v, k1, k2.mono le⟩
    · rw [h2 i hp] at q
      obtain ⟨v, k1, k2⟩ := x.r.val i d q
      exact ⟨v, k1, k2.mono le⟩
  · have hp : ¬ P i := fun hp => by
      by_cases hq : ∃ es, ρ[i]? = some (.own es)
      · obtain ⟨es, hq⟩ := hq
        rw [h1 i es hp hq] at q
        cases q
      · rw [h3 i fun es e => hq ⟨es, e⟩] at q
        exact hq ⟨ds, q⟩
    rw [h2 i hp] at q
    obtain ⟨b, vs, k1, k2, k3, k4, k5, k6⟩ := x.r.own i ds q
    refine ⟨b, vs, k1, k2, k3, k4.mono le, ?_, k6⟩
    show S2 b = none
    rw [hN b]
    · exact k5
    · rintro ⟨j, es, pj, q1, q2⟩
      have := x.r.inj i j ds es b q q1 k1 q2
      subst this
      exact hp pj
  · have back : ∀ (i : Nat) ds, ρ'[i]? = some (.own ds) → ρ[i]? = some (.own ds) := fun i ds q => by
      by_cases hp : P i
      · by_cases hq : ∃ es, ρ[i]? = some (.own es)
        · obtain ⟨es, hq⟩ := hq
          rw [h1 i es hp hq] at q
          cases q
        · rw [h3 i fun es e => hq ⟨es, e⟩] at q
          exact q
      · rw [h2 i hp] at q
        exact q
    exact x.r.inj i j ds es a (back i ds q1) (back j es q2) q3 q4
  · show S2 a = none
    rw [hN a fun h => by rw [(ho a h).2.2.1] at e; cases e]
    exact x.f.newS a o e n
  · have back : ρ[i]? = some (.own ds) := by
      by_cases hp : P i
      · by_cases hq : ∃ es, ρ[i]? = some (.own es)
        · obtain ⟨es, hq⟩ := hq
          rw [h1 i es hp hq] at q1
          cases q1
        · rw [h3 i fun es e => hq ⟨es, e⟩] at q1
          exact q1
      · rw [h2 i hp] at q1
        exact q1
    exact x.o i ds a back q2
theorem SW.frzE {g : Gh} {H : Hp} {σ : L2.St} {ρ : Ev} {s : Sto} (x : SW K g0 H0 g H σ ρ s) : ∃ g', Le g g' ∧ SW K g0 H0 g' H σ (frzE ρ) s := by
  refine x.frzP (fun _ => True) (by simp [Mi.frzE]) (fun i ds _ q => ?_) (fun i h => absurd trivial h) fun i h => ?_
  · unfold Mi.frzE
    rw [List.getElem?_map, q]
    rfl
  · unfold Mi.frzE
    rw [List.getElem?_map]
    cases e : ρ[i]? with
    | none => rfl
    | some d =>
      cases d with
      | own ds => exact absurd e (h ds)
      | no => rfl
      | val _ => rfl
theorem SW.frz1 {g : Gh} {H : Hp} {σ : L2.St} {ρ : Ev} {s : Sto} (x : SW K g0 H0 g H σ ρ s) {i : Nat} {ds : List D} (h : ρ[i]? = some (.own ds)) : ∃ g', Le g g' ∧ SW K g0 H0 g' H σ (ρ.set i (.val (.lst ds))) s := by
  have hlt : i < ρ.length := (List.getElem?_eq_some_iff.mp h).1
  refine x.frzP (fun j => j = i) (by simp) (fun j es e q => ?_) (fun j hj => ?_) fun j hj => ?_
  · subst e
    rw [h] at q
    cases q
    exact List.getElem?_set_self hlt
  · exact List.getElem?_set_ne (Ne.symm hj)
  · have : i ≠ j := fun e => by
      subst e
      exact hj ds h
    exact List.getElem?_set_ne this
/-! statements -/
theorem dss_nil : DSs C E X g0 H0 [] (fun ρ s => .nx ρ s) := ⟨PSs.imp pss_nil fun D σ H ⟨g, ρ, s, sw, p⟩ => p g H σ sw (Le.refl g)⟩
theorem dss_cons {st : Stmt} {rest : List Stmt} {f h : Ev → Sto → SR} (h1 : DS C E X g0 H0 st f) (h2 : DSs C E X g0 H0 rest h) : DSs C E X g0 H0 (st :: rest) (fun ρ s => match f ρ s with
    | .nx ρ' s' => h ρ' s'
    | x => x) := by
  have key : ∀ (D : Ends) (g : Gh) (r : SR), SPost C E g0 H0 g D (match r with
    | .nx ρ' s' => h ρ' s'
    | x => x) → SPost C E g0 H0 g { D with nx := tS C E g0 H0 h D } r := fun D g r p => by
    cases r with
    | nx ρ' s' => exact fun g' H' σ' sw' l => ⟨g', ρ', s', sw', p.weak l⟩
    | rt d s' => exact p
    | bk ρ' s' => exact p
    | ct ρ' s' => exact p
    | exc c a s' => exact p
    | stuck => exact p
  exact ⟨PSs.imp (pss_cons h1.ps h2.ps) fun D σ H ⟨g, ρ, s, sw, p⟩ => ⟨g, ρ, s, sw, key D g _ p⟩⟩
theorem ds_of {st : Stmt} {t : TS} {f : Ev → Sto → SR} (h : PS X st t) (i : ∀ D g H σ ρ s, SW C.K g0 H0 g H σ ρ s → SPost C E g0 H0 g D (f ρ s) → t D σ H) : DS C E X g0 H0 st f := ⟨PS.imp h fun D σ H ⟨g, ρ, s, sw, p⟩ => i D g H σ ρ s sw p⟩
theorem ds_skip {st : Stmt} (h : PS X st tNext) : DS C E X g0 H0 st (fun ρ s => .nx ρ s) := ds_of h fun D g H σ ρ s sw p => p g H σ sw (Le.refl g)
theorem ds_brk : DS C E X g0 H0 (.Break pos) (fun ρ s => .bk ρ s) := ds_of ps_break fun D g H σ ρ s sw p => p g H σ sw (Le.refl g)
theorem ds_cnt : DS C E X g0 H0 (.Continue pos) (fun ρ s => .ct ρ s) := ds_of ps_continue fun D g H σ ρ s sw p => p g H σ sw (Le.refl g)
theorem ds_retn : DS C E X g0 H0 (.Return none pos) (fun _ s => .rt .non s) := ds_of ps_retN fun D g H σ ρ s sw p => p g H .non sw.f sw.w .non
theorem ds_ex (he : DE C E X e fe) (hs : swapsWith e none pos.line X.env = pure false) : DS C E X g0 H0 (.Expr e pos) (fun ρ s => Mi.thn (fe ρ s) fun _ s => .nx ρ s) :=
  ds_of (ps_expr he.pe hs) fun D g H σ ρ s sw p => ⟨g, ρ, s, sw.w, sw.r, (p.thn sw.f).imp fun d s1 g1 H1 f1 w1 k v hv => k g1 H1 σ (sw.fr f1 w1) f1.le⟩
theorem ds_ret (he : DE C E X e fe) : DS C E X g0 H0 (.Return (some e) pos) (fun ρ s => Mi.thn (fe (frzE ρ) s) .rt) :=
  ds_of (ps_ret he.pe) fun D g H σ ρ s sw p => by
    obtain ⟨g', l, sw'⟩ := sw.frzE
    exact ⟨g', frzE ρ, s, sw'.w, sw'.r, ((p.weak l).thn sw'.f).imp fun d s1 g1 H1 f1 w1 k v hv => k g1 H1 v (sw'.f.trans f1) w1 hv⟩
theorem ds_set {i : Nat} {x : Str} {pos' : Pos} (hN : X.N.Nodup) (hi : X.N[i]? = some x) (hx : Loc X.env.scope x) (he : DE C E X e fe) (hs : swapsWith e (some (.Name x pos')) pos.line X.env = pure false) (hf : X.fn x = true ∨ X.env.scope.names.lookup x = some .local) :
    DS C E X g0 H0 (.Assign [.Name x pos'] e pos) (fun ρ s => Mi.thn (fe ρ s) fun d s => .nx (ρ.set i (.val d)) s) :=
  ds_of (ps_set hN hi hx he.pe hs hf) fun D g H σ ρ s sw p => ⟨g, ρ, s, sw.w, sw.r, (p.thn sw.f).imp fun d s1 g1 H1 f1 w1 k v hv => k g1 H1 _ ((sw.fr f1 w1).set hv i) f1.le⟩
theorem stF_own {i : Nat} {d : D} {ρ ρ' : Ev} (h : stF true i d ρ = some ρ') : ∃ ds, d = .lst ds ∧ ρ' = ρ.set i (.own ds) := by
  cases d with
  | lst ds => cases h; exact ⟨ds, rfl, rfl⟩
  | _ => cases h
/-- own slots hold things that were there -/
theorem own_there {g : Gh} {H : Hp} {σ : L2.St} {ρ : Ev} {s : Sto} (sw : SW K g0 H0 g H σ ρ s) {p : Addr} (h : H p = none) (j : Nat) (es : List D) (q : ρ[j]? = some (.own es)) : σ[j]? ≠ some (some (.ref p)) := fun e => by
  obtain ⟨b, vs, k1, k2, _⟩ := sw.r.own j es q
  rw [e] at k1
  cases k1
  rw [h] at k2
  cases k2
theorem ds_seto {i : Nat} {x : Str} {pos' : Pos} (hN : X.N.Nodup) (hi : X.N[i]? = some x) (hx : Loc X.env.scope x) (he : DF C E X e fe) (hs : swapsWith e (some (.Name x pos')) pos.line X.env = pure false) (hf : X.fn x = true ∨ X.env.scope.names.lookup x = some .local) :
    DS C E X g0 H0 (.Assign [.Name x pos'] e pos) (fun ρ s => Mi.thn (fe ρ s) fun d s => match stF true i d ρ with | some ρ' => .nx ρ' s | none => .stuck) :=
  ds_of (ps_set hN hi hx he.pe hs hf) fun D g H σ ρ s sw p => ⟨g, ρ, s, sw.w, sw.r, (p.thn sw.f).imp fun d s1 g1 H1 f1 w1 k v hv => by
    cases e1 : stF true i d ρ with
    | none => simp only [e1] at k; exact k.elim
    | some ρ' =>
      simp only [e1] at k
      obtain ⟨ds, rfl, rfl⟩ := stF_own e1
      obtain ⟨q, vs, rfl, h0, h1, h2, h3, h4, h5⟩ := hv.1 ds rfl
      exact k g1 H1 _ ((sw.fr f1 w1).setO h1 h2 h3 h4 h5 (sw.f.there q h0) i fun j es _ q => own_there sw h0 j es q) f1.le⟩
theorem ds_asg {tg : Expr} {t : CT} (he : DE C E X e fe) (hg : PG X tg (gD C.K t)) (hs : swapsWithSole [tg] e pos.line X.env = pure false) (hw : swappedStores [tg] e X.env = pure none) (h1 : (assignEach [tg] X.env).map (·.2) = [assign tg X.env]) (hK : ∀ (ρ ρ' : Ev) d, tgt t d ρ = some ρ' → ∀ (i : Nat) ds, ρ'[i]? = some (.own ds) → ρ[i]? = some (.own ds) ∧ i ∉ t.ix) :
    DS C E X g0 H0 (.Assign [tg] e pos) (fun ρ s => Mi.thn (fe ρ s) fun d s => sto1 t d ρ s) :=
  ds_of (ps_asg he.pe hg hs hw h1) fun D g H σ ρ s sw p => ⟨g, ρ, s, sw.w, sw.r, (p.thn sw.f).imp fun d s1 g1 H1 f1 w1 k v hv => by
    unfold sto1 at k
    cases e1 : tgt t d ρ with
    | none => rw [e1] at k; exact k.elim
    | some ρ' =>
      rw [e1] at k
      have sw1 := sw.fr f1 w1
      exact ⟨g1, ρ, s1, d, ρ', w1, sw1.r, hv, e1, fun σ' R' u => k g1 H1 σ' ⟨w1, R', sw1.f, fun i ds a q1 q2 => by
        obtain ⟨q3, q4⟩ := hK ρ ρ' d e1 i ds q1
        rw [u.out i q4] at q2
        exact sw1.o i ds a q3 q2⟩ f1.le⟩⟩
end
end Mi
end
section
set_option Elab.async false
set_option linter.all false
set_option maxRecDepth 100000
set_option maxHeartbeats 4000000
/-! Mi13: statements, further. -/
namespace Mi
open PySem PySem.Spec PyProof.Rows L2
section
variable {C : Cfg} {E : XK} {X : Cx} {g0 : Gh} {H0 : Hp} {e a b : Expr} {fe fa fb : Ev → M D} {pos : Pos} {K : PySem.W.Frag}
theorem post_frz {g : Gh} {H : Hp} {k : D → Sto → Gh → Hp → Prop} {k2 : V → Hp → Prop} : ∀ {r : Res D}, Post C E g H k r → (∀ d s g' H', Fr g H g' H' → Wd C.K g' H' s → k d s g' H' → ∀ v, Rep C.K g' v d → k2 v H') → Post C E g H (fun d _ g' H' => ∀ v, RepF C.K H g' H' v d → k2 v H') r
  | .ok d s, h, i => fun g1 H1 f1 w1 v rf => by
    obtain ⟨g2, f2, w2, r2⟩ := rf.freeze f1 w1
    exact i d s g2 H1 f2 w2 (h g2 H1 f2 w2) v r2
  | .exc c a s, h, _ => h
  | .stuck, h, _ => h
theorem ds_setLc {i : Nat} {y : Str} {py spos : Pos} {elt tg iter : Expr} {ifs : List Expr} {scope : Scope} {own : List (Str × Nat)} {t : CT} {fi : Ev → M (List D)} {fc : Ev → M Bool} {fe : Ev → M D} (hc : X.calm = true) (hN : X.N.Nodup) (hy : X.N[i]? = some y) (hyl : X.env.scope.names.lookup y = some .local)
    (hsw : swapsWith (.ListComp elt [⟨tg, iter, ifs, 0⟩] scope pos) (some (.Name y py)) spos.line X.env = pure true) (hi : DI C E X tg iter true fi) (ok : BlkOk X.N X.env.scope scope own)
    (ht : ∀ i ∈ t.ix, i ∈ own.map (·.2))
    (hg : ∀ (s : Shared) (H : Hp) (C' : Addr) (cl : List (Str × Addr)) (fp : List Addr), PG (X.blk s H scope (compEnvC scope cl C' X.env) fp) tg (gD C.K t)) (hif : ∀ (s : Shared) (H : Hp) (C' : Addr) (cl : List (Str × Addr)) (fp : List Addr), DTs C E00 (X.blk s H scope (compEnvC scope cl C' X.env) fp) ifs fc)
    (he : ∀ (s : Shared) (H : Hp) (C' : Addr) (cl : List (Str × Addr)) (fp : List Addr), DE C E00 (X.blk s H scope (compEnvC scope cl C' X.env) fp) elt fe) (hs : ∀ x, foldedSetIterable iter X.env x = pure x) :
    (DS C E X g0 H0 (.Assign [.Name y py] (.ListComp elt [⟨tg, iter, ifs, 0⟩] scope pos) spos) (fun ρ s => Mi.thn ((fun ρ => bnd (fi ρ) fun ds => nox (bnd (compL (lcStep t fc fe (wipeD ρ (own.map (·.2)))) ds) fun xs => pur (.lst xs))) ρ s) fun d s => .nx (ρ.set i (.val d)) s)) ∧
    (DS C E X g0 H0 (.Assign [.Name y py] (.ListComp elt [⟨tg, iter, ifs, 0⟩] scope pos) spos) (fun ρ s => Mi.thn ((fun ρ => bnd (fi ρ) fun ds => nox (bnd (compL (lcStep t fc fe (wipeD ρ (own.map (·.2)))) ds) fun xs => pur (.lst xs))) ρ s) fun d s => match stF true i d ρ with | some ρ' => .nx ρ' s | none => .stuck)) := by
  have h0 := ps_setLc hc hN hy hyl hsw hi.pi ok hg (fun s H C' cl fp => (hif s H C' cl fp).pt) (fun s H C' cl fp => (he s H C' cl fp).pe) hs
  have red := tD_lc (C := C) (E := E) (t := t) (fi := fi) (fc := fc) (fe := fe) (own := own) ht
  refine ⟨ds_of h0 fun D g H σ ρ s sw p => ?_, ds_of h0 fun D g H σ ρ s sw p => ?_⟩
  · exact red σ H _ ⟨g, ρ, s, sw.w, sw.r, post_frz (p.thn sw.f) fun d s1 g1 H1 f1 w1 k v hv => k g1 H1 _ ((sw.fr f1 w1).set hv i) f1.le⟩
  · refine red σ H _ ⟨g, ρ, s, sw.w, sw.r, (p.thn sw.f).imp fun d s1 g1 H1 f1 w1 k v hv => ?_⟩
    cases e1 : stF true i d ρ with
    | none => simp only [e1] at k; exact k.elim
    | some ρ' =>
      simp only [e1] at k
      obtain ⟨ds, rfl, rfl⟩ := stF_own e1
      obtain ⟨q, vs, rfl, h0, h1, h2, h3, h4, h5⟩ := hv.1 ds rfl
      exact k g1 H1 _ ((sw.fr f1 w1).setO h1 h2 h3 h4 h5 (sw.f.there q h0) i fun j es _ q => own_there sw h0 j es q) f1.le
theorem ds_iff {c : Expr} {fc : Ev → M Bool} {bs cs : List Stmt} {f h : Ev → Sto → SR} (hc : DT C E X c fc) (ha : DSs C E X g0 H0 bs f) (hb : DSs C E X g0 H0 cs h) : DS C E X g0 H0 (.If c bs cs pos) (fun ρ s => Mi.thn (fc ρ s) fun k s => match k with | true => f ρ s | false => h ρ s) :=
  ds_of (ps_if hc.pt ha.ps hb.ps) fun D g H σ ρ s sw p => ⟨g, ρ, s, sw.w, sw.r, (p.thn sw.f).imp fun k s1 g1 H1 f1 w1 q => by
    cases k with
    | true => exact iteT ⟨g1, ρ, s1, sw.fr f1 w1, q.weak f1.le⟩
    | false => exact iteF ⟨g1, ρ, s1, sw.fr f1 w1, q.weak f1.le⟩⟩
theorem ds_frz {i : Nat} {st : Stmt} {f : Ev → Sto → SR} (h : DS C E X g0 H0 st f) : DS C E X g0 H0 st (fun ρ s => f (match getO ρ i with
    | some ds => ρ.set i (.val (.lst ds))
    | none => ρ) s) := by
  refine ⟨PS.imp h.ps fun D σ H ⟨g, ρ, s, sw, p⟩ => ?_⟩
  cases e : getO ρ i with
  | none => simp only [e] at p; exact ⟨g, ρ, s, sw, p⟩
  | some ds =>
    simp only [e] at p
    obtain ⟨g', l, sw'⟩ := sw.frz1 (getO_some e)
    exact ⟨g', _, s, sw', p.weak l⟩
/-- a slot's own list is read -/
theorem SW.own {g : Gh} {H : Hp} {σ : L2.St} {ρ : Ev} {s : Sto} (x : SW K g0 H0 g H σ ρ s) {i : Nat} {ds : List D} (h : getO ρ i = some ds) : ∃ p vs, σ[i]? = some (some (.ref p)) ∧ H p = some (.lst vs) ∧ vs.length ≤ LIM ∧ Reps K g vs ds ∧ g.S p = none ∧ p ∉ g.B ∧ H0 p = none ∧ ρ[i]? = some (.own ds) := by
  have h' := getO_some h
  obtain ⟨p, vs, h1, h2, h3, h4, h5, h6⟩ := x.r.own i ds h'
  exact ⟨p, vs, h1, h2, h3, h4, h5, h6, x.o i ds p h' h1, h'⟩
/-- the slot's own list has turned -/
theorem SW.wr {g : Gh} {H : Hp} {σ : L2.St} {ρ : Ev} {s : Sto} (x : SW K g0 H0 g H σ ρ s) {i : Nat} {ds es : List D} {p : Addr} {vs : List V} (h : ρ[i]? = some (.own ds)) (hs : σ[i]? = some (some (.ref p))) (h2 : vs.length ≤ LIM) (h3 : Reps K g vs es) :
    SW K g0 H0 g (upd H p (.lst vs)) σ (ρ.set i (.own es)) s := by
  obtain ⟨q, us, k1, k2, k3, k4, k5, k6⟩ := x.r.own i ds h
  rw [hs] at k1
  cases k1
  have h0 := x.o i ds p h hs
  have hlt : i < ρ.length := (List.getElem?_eq_some_iff.mp h).1
  refine ⟨x.w.write k5 k6, ⟨by rw [List.length_set, x.r.len], fun j d q => ?_, fun j fs q => ?_, fun j k fs gs a q1 q2 q3 q4 => ?_⟩, x.f.write h0, fun j fs a q1 q2 => ?_⟩
  · by_cases hj : i = j
    · subst hj
      rw [List.getElem?_set_self hlt] at q
      cases q
    · rw [List.getElem?_set_ne hj] at q
      exact x.r.val j d q
  · by_cases hj : i = j
    · subst hj
      rw [List.getElem?_set_self hlt] at q
      cases q
      exact ⟨p, vs, hs, upd_same, h2, h3, k5, k6⟩
    · rw [List.getElem?_set_ne hj] at q
      obtain ⟨b, us, j1, j2, j3, j4, j5, j6⟩ := x.r.own j fs q
      have ne : b ≠ p := fun e => by
        subst e
        exact hj (x.r.inj i j ds fs b h q hs j1)
      exact ⟨b, us, j1, by rw [upd_ne ne]; exact j2, j3, j4, j5, j6⟩
  · have back : ∀ (j : Nat) fs, (ρ.set i (.own es))[j]? = some (.own fs) → ∃ fs', ρ[j]? = some (.own fs') := fun j fs q => by
      by_cases hj : i = j
      · subst hj
        exact ⟨ds, h⟩
      · rw [List.getElem?_set_ne hj] at q
        exact ⟨fs, q⟩
    obtain ⟨f1, e1⟩ := back j fs q1
    obtain ⟨f2, e2⟩ := back k gs q2
    exact x.r.inj j k f1 f2 a e1 e2 q3 q4
  · by_cases hj : i = j
    · subst hj
      rw [hs] at q2
      cases q2
      exact h0
    · rw [List.getElem?_set_ne hj] at q1
      exact x.o j fs a q1 q2
theorem pe_name {i : Nat} {x : Str} {p : Pos} (hN : X.N[i]? = some x) (hv : Vis X.env.scope x) (hd : nmOk x = true) : PE X (.Name x p) (tVar i) := pe_var hN hv (nm_of hd).1 (nm_of hd).2
theorem ds_app {i : Nat} {x : Str} {p ap cp : Pos} (hN : X.N[i]? = some x) (hv : Vis X.env.scope x) (hd : nmOk x = true) (he : DE C E X e fe) (hn : nost e = true) (hl : (ap.endLine == cp.line) = true) :
    DS C E X g0 H0 (.Expr (.Call (.Attribute (.Name x p) "append" ap) [e] [] cp) pos) (fun ρ s => match getO ρ i with
    | some xs => Mi.thn (fe ρ s) fun y s => if xs.length < LIM then .nx (ρ.set i (.own (xs ++ [y]))) s else .stuck
    | none => .stuck) := by
  have hE : PE X (.Call (.Attribute (.Name x p) "append" ap) [e] [] cp) (tBM X.K "list" rAppend (tVar i) (tCons (tD C E (rS C.K) fe) tNil)) :=
    pe_bm PySem.F.plainAttrs_list PySem.F.slot_list_append PySem.F.type_list_append mt_append (pe_name hN hv hd) (pa_cons he.pe pa_nil (star_ns hn)) (by rfl) (by rw [star_ns hn]; rfl) hl (star_ns hn) (by rfl)
  refine ds_of (ps_expr hE (by rfl)) fun D g H σ ρ s sw q => ?_
  cases e1 : getO ρ i with
  | none => simp only [e1] at q; exact q.elim
  | some xs =>
    simp only [e1] at q
    obtain ⟨r, vs, h1, h2, h3, h4, h5, h6, h7, h8⟩ := sw.own e1
    refine ⟨.ref r, h1, .inl ⟨rfl, vs, .inl (.inl h2)⟩, g, ρ, s, sw.w, sw.r, (q.thn sw.f).imp fun d s1 g1 H1 f1 w1 k v hv => ?_⟩
    split at k
    · rename_i hlt
      have l := h4.length
      have ll := lim_eq
      refine ⟨r, vs, v, rfl, rfl, f1.keep r _ h2 h6, by omega, ?_⟩
      exact k g1 _ σ ((sw.fr f1 w1).wr h8 h1 (by rw [List.length_append]; simp; omega) ((h4.mono f1.le).append (.cons hv .nil))) f1.le
    · exact k.elim
theorem ds_pop {i j : Nat} {x y : Str} {p p2 ap cp : Pos} (hNd : X.N.Nodup) (hN : X.N[i]? = some x) (hv : Vis X.env.scope x) (hd : nmOk x = true) (hj : X.N[j]? = some y) (hx : Loc X.env.scope y) (hf : X.fn y = true ∨ X.env.scope.names.lookup y = some .local) (hl : (ap.endLine == cp.line) = true) (hij : i ≠ j) :
    DS C E X g0 H0 (.Assign [.Name y p2] (.Call (.Attribute (.Name x p) "pop" ap) [] [] cp) pos) (fun ρ s => match getO ρ i with
    | some xs => (match xs.getLast? with
      | some y => .nx ((ρ.set i (.own xs.dropLast)).set j (.val y)) s
      | none => .stuck)
    | none => .stuck) := by
  have hE : PE X (.Call (.Attribute (.Name x p) "pop" ap) [] [] cp) (tBM0 X.K "list" rPop (tVar i)) :=
    pe_bm0 PySem.F.plainAttrs_list PySem.F.slot_list_pop PySem.F.type_list_pop mt_pop (pe_name hN hv hd) (by rfl) hl
  refine ds_of (ps_set hNd hj hx hE (by rfl) hf) fun D g H σ ρ s sw q => ?_
  cases e1 : getO ρ i with
  | none => simp only [e1] at q; exact q.elim
  | some xs =>
    simp only [e1] at q
    obtain ⟨r, vs, h1, h2, h3, h4, h5, h6, h7, h8⟩ := sw.own e1
    cases e2 : xs.getLast? with
    | none => simp only [e2] at q; exact q.elim
    | some d =>
      simp only [e2] at q
      rw [List.getLast?_eq_getElem?] at e2
      obtain ⟨v, k1, k2⟩ := h4.get e2
      rw [← h4.length] at k1
      refine ⟨.ref r, h1, .inl ⟨rfl, vs, .inl (.inl h2)⟩, r, vs, v, rfl, rfl, h2, k1, ?_⟩
      refine q g _ _ (SW.set (SW.wr sw h8 h1 (by rw [List.length_dropLast]; omega) ?_) k2 j) (Le.refl g)
      have : Reps C.K g (vs.take (vs.length - 1)) (xs.take (vs.length - 1)) := h4.take _
      rw [h4.length, ← List.dropLast_eq_take, ← h4.length, ← List.dropLast_eq_take] at this
      exact this
theorem ds_aug {i : Nat} {x : Str} {pos' : Pos} {sub : Bool} (hNd : X.N.Nodup) (hi : X.N[i]? = some x) (hx : Loc X.env.scope x) (hf : X.fn x = true ∨ X.env.scope.names.lookup x = some .local) (he : DE C E X e fe) :
    DS C E X g0 H0 (.AugAssign (.Name x pos') (match sub with | true => .Sub | false => .Add) e pos) (fun ρ s => match getV ρ i with
    | some x => Mi.thn (fe ρ s) fun y s => match x, y with
      | .int a, .int b => .nx (ρ.set i (.val (.int (match sub with | true => a - b | false => a + b)))) s
      | _, _ => .stuck
    | none => .stuck) := by
  have hI : PIp X (match sub with | true => .Sub | false => .Add) (ipI fun a b => match sub with | true => a - b | false => a + b) := by
    cases sub with
    | true => exact ip_sub
    | false => exact ip_add
  refine ds_of (ps_aug hNd hi hx he.pe hI hf) fun D g H σ ρ s sw q => ?_
  cases e1 : getV ρ i with
  | none => simp only [e1] at q; exact q.elim
  | some d =>
    simp only [e1] at q
    obtain ⟨v, h1, h2⟩ := sw.r.val i d (getV_some e1)
    refine ⟨v, h1, g, ρ, s, sw.w, sw.r, (q.thn sw.f).imp fun y s1 g1 H1 f1 w1 k u hu => ?_⟩
    split at k
    · rename_i a b
      cases h2
      cases hu
      exact ⟨a, b, rfl, rfl, k g1 H1 _ ((sw.fr f1 w1).set (.int _) i) f1.le⟩
    · exact k.elim
theorem setI_reps {g : Gh} {vs : List V} {ds es : List D} {v : V} {d : D} {i : Int} (r : Reps K g vs ds) (h : Rep K g v d) (e : setI ds i d = some es) : ∃ j, ixN vs.length i = some j ∧ Reps K g (vs.set j v) es := by
  unfold setI at e
  rw [r.length]
  cases k : ixN ds.length i with
  | none => rw [k] at e; cases e
  | some j =>
    rw [k] at e
    cases e
    exact ⟨j, rfl, r.set h j⟩
/-- a box is written -/
theorem SW.wrB {g : Gh} {H : Hp} {σ : L2.St} {ρ : Ev} {s : Sto} (x : SW K g0 H0 g H σ ρ s) {l : Nat} {p : Addr} {vs : List V} {ds : List D} (hB : g.B[l]? = some p) (h3 : Reps K g vs ds) (h0 : p ∈ g0.B ∨ H0 p = none) :
    SW K g0 H0 g (upd H p (.lst vs)) σ ρ (s.set l ds) := by
  have hm : p ∈ g.B := List.mem_of_getElem? hB
  have hS := x.w.bs p hm
  refine ⟨⟨fun a o e => ?_, by rw [List.length_set]; exact x.w.len, fun j xs q => ?_, x.w.inj, x.w.bs⟩, ⟨x.r.len, x.r.val, fun j fs q => ?_, x.r.inj⟩, ⟨x.f.le, fun a o e n => ?_, fun a e => ?_, x.f.newS, x.f.newB⟩, x.o⟩
  · rw [upd_ne (ne_of_none e hS)]
    exact x.w.sub a o e
  · by_cases hj : l = j
    · subst hj
      have hlt : l < s.length := by
        have := (List.getElem?_eq_some_iff.mp q).1
        rwa [List.length_set] at this
      rw [List.getElem?_set_self hlt] at q
      cases q
      exact ⟨p, vs, hB, upd_same, h3⟩
    · rw [List.getElem?_set_ne hj] at q
      obtain ⟨b, us, k1, k2, k3⟩ := x.w.box j xs q
      have ne : b ≠ p := fun e => by
        subst e
        exact hj (x.w.inj l j b hB k1)
      exact ⟨b, us, k1, by rw [upd_ne ne]; exact k2, k3⟩
  · obtain ⟨b, us, k1, k2, k3, k4, k5, k6⟩ := x.r.own j fs q
    have ne : b ≠ p := fun e => by
      subst e
      exact k6 hm
    exact ⟨b, us, k1, by rw [upd_ne ne]; exact k2, k3, k4, k5, k6⟩
  · have ne : a ≠ p := fun z => by
      subst z
      rcases h0 with h0 | h0
      · exact n h0
      · rw [h0] at e; cases e
    rw [upd_ne ne]
    exact x.f.keep a o e n
  · by_cases ha : a = p
    · subst ha
      rw [upd_same] at e
      cases e
    · rw [upd_ne ha] at e
      exact x.f.there a e
theorem box_old {g : Gh} {H : Hp} {σ : L2.St} {ρ : Ev} {s : Sto} (x : SW K g0 H0 g H σ ρ s) {p : Addr} (h : p ∈ g.B) : p ∈ g0.B ∨ H0 p = none := by
  by_cases hm : p ∈ g0.B
  · exact .inl hm
  · cases e : H0 p with
    | none => exact .inr rfl
    | some o => exact absurd h (x.f.newB p o e hm)
theorem asg_sub {o i : Expr} {tpos : Pos} {env : Env} (h : nosl i = true) : ∀ v, assign (.Subscript o i tpos) env v = (do
      let ov ← holding [v] (eval o env)
      let iv ← holding [v, ov] (eval i env)
      standAt tpos
      holding [v, ov, iv] (setItem ov iv v)
      release [v, ov, iv] []) := by
  cases i <;> first
    | (intro v; rfl)
    | (cases h; done)
theorem ds_setx {tpos : Pos} (hx : nosl b = true) (ha : DE C E X a fa) (hb : DE C E X b fb) (he : DE C E X e fe) (hs : swapsWithSole [.Subscript a b tpos] e pos.line X.env = pure false) (hw : swappedStores [.Subscript a b tpos] e X.env = pure none) :
    DS C E X g0 H0 (.Assign [.Subscript a b tpos] e pos) (fun ρ s => Mi.thn (fe ρ s) fun d s => Mi.thn (fa ρ s) fun x s => Mi.thn (fb ρ s) fun y s => match x, y with
    | .box l, .int i => (match s[l]? with
      | some xs => (match setI xs i d with
        | some ys => .nx ρ (s.set l ys)
        | none => .stuck)
      | none => .stuck)
    | _, _ => .stuck) := by
  refine ds_of (ps_asg he.pe (pg_sub ha.pe hb.pe set_list (asg_sub hx)) hs hw (by rfl)) fun D g H σ ρ s sw q => ?_
  refine ⟨g, ρ, s, sw.w, sw.r, (q.thn sw.f).imp fun d s1 g1 H1 f1 w1 k1 v hv => ?_⟩
  have sw1 := sw.fr f1 w1
  refine ⟨g1, ρ, s1, w1, sw1.r, ((k1.weak f1.le).thn sw1.f).imp fun x s2 g2 H2 f2 w2 k2 vx hx => ?_⟩
  have sw2 := sw1.fr f2 w2
  refine ⟨g2, ρ, s2, w2, sw2.r, ((k2.weak f2.le).thn sw2.f).imp fun y s3 g3 H3 f3 w3 k3 vy hy => ?_⟩
  have sw3 := sw2.fr f3 w3
  split at k3
  · rename_i l i
    split at k3
    · rename_i xs e1
      split at k3
      · rename_i ys e2
        obtain ⟨p, us, h1, h2, h3⟩ := w3.box l xs e1
        cases hx with
        | box hx =>
          have hB := f3.le.B _ _ hx
          rw [h1] at hB
          cases hB
          cases hy
          obtain ⟨j, h4, h5⟩ := setI_reps h3 (hv.mono (f2.trans f3).le) e2
          refine ⟨_, us, i, j, rfl, rfl, h2, h4, ?_⟩
          exact k3 g3 _ σ (sw3.wrB h1 h5 (box_old sw3 (List.mem_of_getElem? h1))) f3.le
      · exact k3.elim
    · exact k3.elim
  · exact k3.elim
theorem ds_setxo {i : Nat} {x : Str} {p tpos : Pos} (hx : nosl b = true) (hN : X.N[i]? = some x) (hv : Vis X.env.scope x) (hd : nmOk x = true) (hb : DE C E X b fb) (he : DE C E X e fe) (hs : swapsWithSole [.Subscript (.Name x p) b tpos] e pos.line X.env = pure false) (hw : swappedStores [.Subscript (.Name x p) b tpos] e X.env = pure none) :
    DS C E X g0 H0 (.Assign [.Subscript (.Name x p) b tpos] e pos) (fun ρ s => Mi.thn (fe ρ s) fun d s => match getO ρ i with
    | some xs => Mi.thn (fb ρ s) fun y s => (match y with
      | .int k => (match setI xs k d with
        | some ys => .nx (ρ.set i (.own ys)) s
        | none => .stuck)
      | _ => .stuck)
    | none => .stuck) := by
  refine ds_of (ps_asg he.pe (pg_sub (pe_name hN hv hd) hb.pe set_list (asg_sub hx)) hs hw (by rfl)) fun D g H σ ρ s sw q => ?_
  refine ⟨g, ρ, s, sw.w, sw.r, (q.thn sw.f).imp fun d s1 g1 H1 f1 w1 k1 v hv' => ?_⟩
  have sw1 := sw.fr f1 w1
  cases e1 : getO ρ i with
  | none => simp only [e1] at k1; exact k1.elim
  | some xs =>
    simp only [e1] at k1
    obtain ⟨r, vs, h1, h2, h3, h4, h5, h6, h7, h8⟩ := sw1.own e1
    refine ⟨.ref r, h1, g1, ρ, s1, w1, sw1.r, ((k1.weak f1.le).thn sw1.f).imp fun y s2 g2 H2 f2 w2 k2 vy hy => ?_⟩
    have sw2 := sw1.fr f2 w2
    split at k2
    · rename_i k
      split at k2
      · rename_i ys e2
        cases hy
        obtain ⟨j, h9, h10⟩ := setI_reps (h4.mono f2.le) (hv'.mono f2.le) e2
        refine ⟨_, vs, k, j, rfl, rfl, f2.keep r _ h2 h6, h9, ?_⟩
        exact k2 g2 _ σ (sw2.wr h8 h1 (by rw [List.length_set]; exact h3) h10) f2.le
      · exact k2.elim
    · exact k2.elim
/-! loops -/
mutual
theorem tgt_own : ∀ (t : CT) (d : D) (ρ ρ' : Ev), tgt t d ρ = some ρ' → ∀ (i : Nat) ds, ρ'[i]? = some (.own ds) → ρ[i]? = some (.own ds) ∧ i ∉ t.ix
  | .nm j, d, ρ, ρ', h, i, ds, q => by
    have h' : some (ρ.set j (.val d)) = some ρ' := h
    cases h'
    by_cases hj : j = i
    · subst hj
      have hlt : j < ρ.length := by
        have := (List.getElem?_eq_some_iff.mp q).1
        rwa [List.length_set] at this
      rw [List.getElem?_set_self hlt] at q
      cases q
    · rw [List.getElem?_set_ne hj] at q
      exact ⟨q, fun z => hj (List.mem_singleton.mp z).symm⟩
  | .tp ts, d, ρ, ρ', h, i, ds, q => by
    cases d with
    | tup xs => exact tgts_own ts xs ρ ρ' h i ds q
    | _ => cases h
theorem tgts_own : ∀ (t : CTs) (d : List D) (ρ ρ' : Ev), tgts t d ρ = some ρ' → ∀ (i : Nat) ds, ρ'[i]? = some (.own ds) → ρ[i]? = some (.own ds) ∧ i ∉ t.ix
  | .nil, d, ρ, ρ', h, i, ds, q => by
    cases d with
    | nil =>
      have h' : some ρ = some ρ' := h
      cases h'
      exact ⟨q, fun z => nomatch z⟩
    | cons _ _ => cases h
  | .cons t r, d, ρ, ρ', h, i, ds, q => by
    cases d with
    | nil => cases h
    | cons x xs =>
      have h' : (match tgt t x ρ with | some ρ1 => tgts r xs ρ1 | none => none) = some ρ' := h
      cases e1 : tgt t x ρ with
      | none => rw [e1] at h'; cases h'
      | some ρ1 =>
        rw [e1] at h'
        obtain ⟨q1, q2⟩ := tgts_own r xs ρ1 ρ' h' i ds q
        obtain ⟨q3, q4⟩ := tgt_own t x ρ ρ1 e1 i ds q1
        exact ⟨q3, fun z => (List.mem_append.mp z).elim q4 q2⟩
end
theorem ds_for {tg iter : Expr} {body : List Stmt} {t : CT} {fi : Ev → M (List D)} {fb : Ev → Sto → SR} (hp : PassesOwn (model X.prog X.w) X.A X.env X.xe) (hc : X.calm = true) (hi : DI C E X tg iter false fi) (hg : PG X tg (gD C.K t)) (hb : DSs C E X g0 H0 body fb) (hs : ∀ x, foldedSetIterable iter X.env x = pure x) :
    DS C E X g0 H0 (.For tg iter body [] pos) (fun ρ s => Mi.thn (fi ρ s) fun ds s => forL (fun d ρ s => match tgt t d ρ with
    | some ρ' => fb ρ' s
    | none => .stuck) ds ρ s) := by
  refine ds_of (ps_for hp hc hi.pi hg hb.ps hs) fun D g H σ ρ s sw q => ?_
  refine ⟨g, ρ, s, sw.w, sw.r, (q.thn sw.f).imp fun ds s1 g1 H1 f1 w1 k1 J hJ hlen => ?_⟩
  refine ⟨fun i m σ H => m = ds.length - i ∧ i ≤ ds.length ∧ ∃ g ρ s, SW C.K g0 H0 g H σ ρ s ∧ Le g1 g ∧ SPost C E g0 H0 g D (forL (fun d ρ s => match tgt t d ρ with
    | some ρ' => fb ρ' s
    | none => .stuck) (ds.drop i) ρ s), ⟨ds.length, by simp, Nat.zero_le _, g1, ρ, s1, sw.fr f1 w1, Le.refl g1, k1.weak f1.le⟩, ?_⟩
  rintro i m σ' H' ⟨rfl, hi', g', ρ', s', sw', le', p'⟩
  have gd : Good C.K false g1 H1 g' H' := ⟨⟨s', sw'.w⟩, le', fun z => by cases z⟩
  by_cases hlt : i < ds.length
  · refine .inr ⟨hJ.go g' H' i gd hlt, fun σ2 H2 => ∃ m', m' < ds.length - i ∧ (m' = ds.length - (i + 1) ∧ i + 1 ≤ ds.length ∧ ∃ g ρ s, SW C.K g0 H0 g H2 σ2 ρ s ∧ Le g1 g ∧ SPost C E g0 H0 g D (forL (fun d ρ s => match tgt t d ρ with
      | some ρ' => fb ρ' s
      | none => .stuck) (ds.drop (i + 1)) ρ s)), fun σ2 H2 h => h, fun x Hy hy => ?_⟩
    obtain ⟨g2, d, hd, fr2, wd2, rx⟩ := hJ.yld g' H' i x Hy gd hlt hy
    have w2 := wd2 s' sw'.w
    have sw2 := sw'.fr fr2 w2
    have ed : ds.drop i = d :: ds.drop (i + 1) := by
      rw [List.drop_eq_getElem_cons hlt]
      congr 1
      rw [List.getElem?_eq_getElem hlt] at hd
      exact Option.some.inj hd
    rw [ed] at p'
    have p2 : SPost C E g0 H0 g' D (match (match tgt t d ρ' with
      | some ρ1 => fb ρ1 s'
      | none => SR.stuck) with
      | .nx ρ1 s1 => forL (fun d ρ s => match tgt t d ρ with
        | some ρ' => fb ρ' s
        | none => .stuck) (ds.drop (i + 1)) ρ1 s1
      | .ct ρ1 s1 => forL (fun d ρ s => match tgt t d ρ with
        | some ρ' => fb ρ' s
        | none => .stuck) (ds.drop (i + 1)) ρ1 s1
      | .bk ρ1 s1 => .nx ρ1 s1
      | r => r) := p'
    cases e1 : tgt t d ρ' with
    | none => rw [e1] at p2; exact p2.elim
    | some ρ1 =>
      rw [e1] at p2
      refine ⟨g2, ρ', s', d, ρ1, w2, sw2.r, rx, e1, fun σ3 R3 u3 => ?_⟩
      have sw3 : SW C.K g0 H0 g2 Hy σ3 ρ1 s' := ⟨w2, R3, sw2.f, fun j es a q1 q2 => by
        obtain ⟨q3, q4⟩ := tgt_own t d ρ' ρ1 e1 j es q1
        rw [u3.out j q4] at q2
        exact sw2.o j es a q3 q2⟩
      refine ⟨g2, ρ1, s', sw3, ?_⟩
      have lt2 : ds.length - (i + 1) < ds.length - i := by omega
      revert p2
      show SPost C E g0 H0 g' D (match fb ρ1 s' with
        | .nx ρ1 s1 => _
        | .ct ρ1 s1 => _
        | .bk ρ1 s1 => SR.nx ρ1 s1
        | r => r) → _
      cases fb ρ1 s' with
      | nx ρ4 s4 => exact fun p g5 H5 σ5 sw5 l5 => ⟨_, lt2, rfl, hlt, g5, ρ4, s4, sw5, le'.trans (fr2.le.trans l5), SPost.weak (fr2.le.trans l5) p⟩
      | ct ρ4 s4 => exact fun p g5 H5 σ5 sw5 l5 => ⟨_, lt2, rfl, hlt, g5, ρ4, s4, sw5, le'.trans (fr2.le.trans l5), SPost.weak (fr2.le.trans l5) p⟩
      | bk ρ4 s4 => exact fun p g5 H5 σ5 sw5 l5 => p g5 H5 σ5 sw5 (fr2.le.trans l5)
      | rt d' s4 => exact fun p => p
      | exc c' a' s4 => exact fun p => p
      | stuck => exact fun p => p
  · have e3 : i = ds.length := by omega
    subst e3
    rw [List.drop_length] at p'
    exact .inl ⟨hJ.stop g' H' _ gd (Nat.le_refl _), p' g' H' σ' sw' (Le.refl g')⟩
theorem ds_while {c : Expr} {body : List Stmt} {fc : Ev → M Bool} {fb : Ev → Sto → SR} {W : Nat} (hp : PassesOwn (model X.prog X.w) X.A X.env X.xe) (hc : DT C E X c fc) (hb : DSs C E X g0 H0 body fb) : DS C E X g0 H0 (.While c body [] pos) (fun ρ s => whileL fc fb W ρ s) := by
  refine ds_of (ps_while hp hc.pt hb.ps) fun D g H σ ρ s sw q => ?_
  refine ⟨fun m σ H => ∃ g ρ s, SW C.K g0 H0 g H σ ρ s ∧ SPost C E g0 H0 g D (whileL fc fb m ρ s), ⟨W, g, ρ, s, sw, q⟩, ?_⟩
  rintro m σ1 H1 ⟨g1, ρ1, s1, sw1, p1⟩
  cases m with
  | zero => exact p1.elim
  | succ n =>
    refine ⟨g1, ρ1, s1, sw1.w, sw1.r, ?_⟩
    have p2 : SPost C E g0 H0 g1 D (match fc ρ1 s1 with
      | .ok true s' => (match fb ρ1 s' with
        | .nx ρ' s' => whileL fc fb n ρ' s'
        | .ct ρ' s' => whileL fc fb n ρ' s'
        | .bk ρ' s' => .nx ρ' s'
        | r => r)
      | .ok false s' => .nx ρ1 s'
      | .exc c a s' => .exc c a s'
      | .stuck => .stuck) := p1
    revert p2
    cases fc ρ1 s1 with
    | exc c' a' s2 => exact fun p g' H' od f w x => p g' H' od (sw1.f.trans f) w x
    | stuck => exact fun p => p
    | ok k s2 =>
      cases k with
      | false => exact fun p g' H' f w => iteF (p g' H' σ1 (sw1.fr f w) f.le)
      | true =>
        intro p g' H' f w
        refine iteT ⟨fun σ' H' => ∃ m', m' < n + 1 ∧ ∃ g ρ s, SW C.K g0 H0 g H' σ' ρ s ∧ SPost C E g0 H0 g D (whileL fc fb m' ρ s), fun σ' H' h => h, g', ρ1, s2, sw1.fr f w, ?_⟩
        have p3 : SPost C E g0 H0 g1 D (match fb ρ1 s2 with
          | .nx ρ' s' => whileL fc fb n ρ' s'
          | .ct ρ' s' => whileL fc fb n ρ' s'
          | .bk ρ' s' => .nx ρ' s'
          | r => r) := p
        revert p3
        cases fb ρ1 s2 with
        | nx ρ4 s4 => exact fun p g5 H5 σ5 sw5 l5 => ⟨n, Nat.lt_succ_self n, g5, ρ4, s4, sw5, SPost.weak (f.le.trans l5) p⟩
        | ct ρ4 s4 => exact fun p g5 H5 σ5 sw5 l5 => ⟨n, Nat.lt_succ_self n, g5, ρ4, s4, sw5, SPost.weak (f.le.trans l5) p⟩
        | bk ρ4 s4 => exact fun p g5 H5 σ5 sw5 l5 => p g5 H5 σ5 sw5 (f.le.trans l5)
        | rt d' s4 => exact fun p => p
        | exc c' a' s4 => exact fun p => p
        | stuck => exact fun p => p
end
end Mi
end
section
set_option Elab.async false
set_option linter.all false
set_option maxRecDepth 100000
set_option maxHeartbeats 4000000
/-! Mi14: pairs of stores, raise. -/
namespace Mi
open PySem PySem.Spec PyProof.Rows L2
section
variable {C : Cfg} {E : XK} {X : Cx} {g0 : Gh} {H0 : Hp} {e a b : Expr} {fe fa fb : Ev → M D} {pos : Pos} {K : PySem.W.Frag}
def Flag (o : Bool) (K : PySem.W.Frag) (H0 : Hp) (g : Gh) (H : Hp) (v : V) (d : D) : Prop := match o with
  | false => Rep K g v d
  | true => ∃ ds p vs, d = .lst ds ∧ v = .ref p ∧ H p = some (.lst vs) ∧ vs.length ≤ LIM ∧ Reps K g vs ds ∧ g.S p = none ∧ p ∉ g.B ∧ H0 p = none
theorem Flag.fr {o : Bool} {g g' : Gh} {H H' : Hp} {v : V} {d : D} (f : Fr g H g' H') (h : Flag o K H0 g H v d) : Flag o K H0 g' H' v d := by
  cases o with
  | false => exact Rep.mono f.le h
  | true =>
    obtain ⟨ds, p, vs, e1, e2, h1, h2, h3, h4, h5, h6⟩ := h
    exact ⟨ds, p, vs, e1, e2, f.keep p _ h1 h5, h2, h3.mono f.le, f.newS p _ h1 h4, f.newB p _ h1 h5, h6⟩
theorem SW.st {g : Gh} {H : Hp} {σ : L2.St} {ρ ρ' : Ev} {s : Sto} (x : SW K g0 H0 g H σ ρ s) {o : Bool} {v : V} {d : D} (h : Flag o K H0 g H v d) (i : Nat) (hne : o = true → ∀ (j : Nat) es, j ≠ i → ρ[j]? = some (.own es) → σ[j]? ≠ some (some v)) (e : stF o i d ρ = some ρ') : SW K g0 H0 g H (σ.set i (some v)) ρ' s := by
  cases o with
  | false =>
    cases e
    exact x.set h i
  | true =>
    obtain ⟨ds, p, vs, rfl, rfl, h1, h2, h3, h4, h5, h6⟩ := h
    cases e
    exact x.setO h1 h2 h3 h4 h5 h6 i (hne rfl)
/-- a value to be stored so -/
def DOf (o : Bool) (C : Cfg) (E : XK) (X : Cx) (e : Expr) (f : Ev → M D) : Prop := match o with
  | false => DE C E X e f
  | true => DF C E X e f
def rO (o : Bool) (K : PySem.W.Frag) : RR := match o with
  | false => rS K
  | true => rF K
theorem DOf.pe {o : Bool} {f : Ev → M D} (h : DOf o C E X e f) : PE X e (tD C E (rO o C.K) f) := match o, h with
  | false, h => DE.pe (C := C) (E := E) (f := f) h
  | true, h => DF.pe (C := C) (E := E) (f := f) h
/-- what comes is to be stored so (where it can be stored at all) -/
theorem flag_of {o : Bool} {g g' : Gh} {H H' : Hp} {σ : L2.St} {ρ : Ev} {s : Sto} (sw : SW K g0 H0 g H σ ρ s) {v : V} {d : D} (h : rO o K H g' H' v d) {i : Nat} {ρ1 ρ2 : Ev} (e : stF o i d ρ1 = some ρ2) : Flag o K H0 g' H' v d ∧ (o = true → ∃ p, v = .ref p ∧ H p = none) := by
  cases o with
  | false => exact ⟨h, fun z => by cases z⟩
  | true =>
    obtain ⟨ds, rfl, _⟩ := stF_own e
    obtain ⟨p, vs, rfl, h0, h1, h2, h3, h4, h5⟩ := h.1 ds rfl
    exact ⟨⟨ds, p, vs, rfl, rfl, h1, h2, h3, h4, h5, sw.f.there p h0⟩, fun _ => ⟨p, rfl, h0⟩⟩
/-- two values, stored one behind the other -/
theorem two_stores {o1 o2 : Bool} {i j : Nat} {g g1 g2 : Gh} {H H1 H2 : Hp} {σ : L2.St} {ρ ρ1 ρ2 : Ev} {s s1 s2 : Sto} (sw : SW K g0 H0 g H σ ρ s) (f1 : Fr g H g1 H1) (f2 : Fr g1 H1 g2 H2) (w2 : Wd K g2 H2 s2) {v1 v2 : V} {d1 d2 : D} (h1 : rO o1 K H g1 H1 v1 d1) (h2 : rO o2 K H1 g2 H2 v2 d2)
    (e1 : stF o1 i d1 ρ = some ρ1) (e2 : stF o2 j d2 ρ1 = some ρ2) (sw1 : SW K g0 H0 g1 H1 σ ρ s1) : SW K g0 H0 g2 H2 ((σ.set i (some v1)).set j (some v2)) ρ2 s2 := by
  obtain ⟨F1, q1⟩ := flag_of sw h1 e1
  obtain ⟨F2, q2⟩ := flag_of sw1 h2 e2
  have swA := SW.st (sw.fr (f1.trans f2) w2) (F1.fr f2) i (fun ho k es _ q => by
    obtain ⟨p, ev, hp⟩ := q1 ho
    rw [ev]
    exact own_there sw hp k es q) e1
  refine SW.st swA F2 j (fun ho k es hk q => ?_) e2
  obtain ⟨p, ev, hp⟩ := q2 ho
  rw [ev]
  intro z
  by_cases hki : i = k
  · subst hki
    have hlt : i < σ.length := by
      have := (List.getElem?_eq_some_iff.mp z).1
      rwa [List.length_set] at this
    rw [List.getElem?_set_self hlt] at z
    have ez : v1 = .ref p := Option.some.inj (Option.some.inj z)
    -- the first value is stored here: it is a list of our own, and was there when the second one was made
    cases o1 with
    | false =>
      cases e1
      have hlt2 : i < ρ.length := by rw [sw.r.len]; exact hlt
      rw [List.getElem?_set_self hlt2] at q
      cases q
    | true =>
      obtain ⟨ds, rfl, rfl⟩ := stF_own e1
      obtain ⟨p1, vs, rfl, k0, k1, _⟩ := h1.1 ds rfl
      cases ez
      rw [hp] at k1
      cases k1
  · rw [List.getElem?_set_ne hki] at z
    have q' : ρ[k]? = some (.own es) := by
      cases o1 with
      | false => cases e1; rwa [List.getElem?_set_ne hki] at q
      | true =>
        obtain ⟨ds, rfl, rfl⟩ := stF_own e1
        rwa [List.getElem?_set_ne hki] at q
    exact own_there sw1 hp k es q' z
/-- how the two stores of a pair are taken: some true from the right, some false by the pair itself; none: not told -/
def sw2 (sc : Scope) (x y : Str) (px py : Pos) (a b : Expr) : Option Bool :=
  match sc.names.lookup x == some .local && (sc.names.lookup y == some .local && (py.line == px.line && !(y == x))) with
  | false => some false
  | true => match foldedForSure 8 a && foldedForSure 8 b with
    | true => some false
    | false => match constantsAlone 8 a && constantsAlone 8 b with
      | true => none
      | false => some true
def starB : Expr → Bool
  | .Starred _ _ => true
  | _ => false
theorem notStar {e : Expr} (h : nost e = true) : starB e = false := by
  cases e <;> first
    | rfl
    | (cases h; done)
theorem swapped_of {env : Env} {x y : Str} {px py pt pt2 : Pos} {kt k2 : Nat} {a b : Expr} (hk : env.scope.kind = .function) (ha : nost a = true) (hb : nost b = true) {o : Bool} (h : sw2 env.scope x y px py a b = some o) :
    swappedStores [.Tuple [.Name x px, .Name y py] kt pt] (.Tuple [a, b] k2 pt2) env = pure (if o = true then some [x, y] else none) := by
  have hbk : env.blockKind = .function := by
    unfold Env.blockKind
    rw [hk]
    rfl
  unfold swappedStores
  dsimp only
  rw [hbk]
  unfold sw2 at h
  unfold Env.kindOf
  refine (if_neg (by
    show ¬ (false = true)
    decide)).trans ?_
  refine (if_neg (by
    show ¬ ((starB a || (starB b || false)) = true)
    rw [notStar ha, notStar hb]
    decide)).trans ?_
  have refl : (px.line == px.line) = true := by simp
  have h1' : ∀ l, ([Expr.Name x px, Expr.Name y py].filterMap fun
        | .Name id pos => if env.kindOf id == some .local && pos.line == px.line then some id else none
        | _ => none) = l → ((l.length != 2 || l.eraseDups.length != l.length) = true ∧ o = false) ∨ ((l.length != 2 || l.eraseDups.length != l.length) = false ∧ l = [x, y] ∧ (((foldedForSure 8 a && foldedForSure 8 b) = true ∧ o = false) ∨ ((foldedForSure 8 a && foldedForSure 8 b) = false ∧ (constantsAlone 8 a && constantsAlone 8 b) = false ∧ o = true))) := by
    intro l hl
    rw [List.filterMap_cons, List.filterMap_cons, List.filterMap_nil] at hl
    unfold Env.kindOf at hl
    dsimp only at hl
    rw [refl, Bool.and_true] at hl
    cases h1 : (env.scope.names.lookup x == some .local) with
    | false =>
      rw [h1] at h hl
      cases Option.some.inj h
      left
      cases h2 : (env.scope.names.lookup y == some .local && py.line == px.line) <;> rw [h2] at hl <;> cases hl <;> exact ⟨rfl, rfl⟩
    | true =>
      rw [h1] at h hl
      cases h2 : (env.scope.names.lookup y == some .local) with
      | false =>
        rw [h2] at h hl
        cases Option.some.inj h
        cases hl
        exact .inl ⟨rfl, rfl⟩
      | true =>
        rw [h2] at h hl
        cases h3 : (py.line == px.line) with
        | false =>
          rw [h3] at h hl
          cases Option.some.inj h
          cases hl
          exact .inl ⟨rfl, rfl⟩
        | true =>
          rw [h3] at h hl
          obtain rfl : l = [x, y] := hl.symm
          cases h4 : (y == x) with
          | true =>
            rw [h4] at h
            cases Option.some.inj h
            have he : [x, y].eraseDups.length = 1 := by
              rw [List.eraseDups_cons, List.filter_cons, h4]
              rfl
            rw [he]
            exact .inl ⟨rfl, rfl⟩
          | false =>
            rw [h4] at h
            have he : [x, y].eraseDups.length = 2 := by
              rw [List.eraseDups_cons, List.filter_cons, h4]
              rfl
            rw [he]
            refine .inr ⟨rfl, rfl, ?_⟩
            cases h5 : (foldedForSure 8 a && foldedForSure 8 b) with
            | true =>
              rw [h5] at h
              cases Option.some.inj h
              exact .inl ⟨rfl, rfl⟩
            | false =>
              rw [h5] at h
              cases h6 : (constantsAlone 8 a && constantsAlone 8 b) with
              | true =>
                rw [h6] at h
                cases h
              | false =>
                rw [h6] at h
                cases Option.some.inj h
                exact .inr ⟨rfl, rfl, rfl⟩
  have all2 : ∀ f : Expr → Bool, [a, b].all f = (f a && f b) := fun f => by simp
  rcases h1' _ rfl with ⟨k1, rfl⟩ | ⟨k1, k2, ⟨k3, rfl⟩ | ⟨k3, k4, rfl⟩⟩
  · exact if_pos k1
  · refine (if_neg (fun z => absurd (k1.symm.trans z) (by decide))).trans ?_
    exact if_pos ((all2 _).trans k3)
  · refine (if_neg (fun z => absurd (k1.symm.trans z) (by decide))).trans ?_
    refine (if_neg (fun z => absurd (k3.symm.trans ((all2 _).symm.trans z)) (by decide))).trans ?_
    refine (if_neg (fun z => absurd (k4.symm.trans ((all2 _).symm.trans z)) (by decide))).trans ?_
    exact congrArg (fun l => pure (some l)) k2
theorem pair_noswap {e : Expr} {tg : Expr} {env : Env} (h : match e with | .Tuple _ _ _ => False | _ => True) : swappedStores [tg] e env = pure none := by
  cases e <;> first
    | exact h.elim
    | (cases tg <;> rfl)
theorem ds_par2 {i j : Nat} {o1 o2 : Bool} {x y : Str} {px py pt pt2 : Pos} {kt k2 : Nat} (hK : X.K = C.K) (hc : X.calm = true) (hk : X.env.scope.kind = .function) (hN : X.N.Nodup) (hi : X.N[i]? = some x) (hj : X.N[j]? = some y) (hij : i ≠ j) (hx : Loc X.env.scope x) (hy : Loc X.env.scope y)
    (hfx : X.fn x = true ∨ X.env.scope.names.lookup x = some .local) (hfy : X.fn y = true ∨ X.env.scope.names.lookup y = some .local)
    (na : nost a = true) (nb : nost b = true) (ha : DOf o1 C E X a fa) (hb : DOf o2 C E X b fb) {o : Bool} (h : sw2 X.env.scope x y px py a b = some o) :
    DS C E X g0 H0 (.Assign [.Tuple [.Name x px, .Name y py] kt pt] (.Tuple [a, b] k2 pt2) pos) (fun ρ s => Mi.thn (fa ρ s) fun x s => Mi.thn (fb ρ s) fun y s => match stF o1 i x ρ with
    | some ρ1 => (match stF o2 j y ρ1 with
      | some ρ2 => .nx ρ2 s
      | none => .stuck)
    | none => .stuck) := by
  have hP : PA X [a, b] (tCons (tD C E (rO o1 C.K) fa) (tCons (tD C E (rO o2 C.K) fb) tNil)) := pa_cons ha.pe (pa_cons hb.pe pa_nil (star_ns nb)) (star_ns na)
  have main : ∀ (D : Ends) g H σ ρ s, SW C.K g0 H0 g H σ ρ s → SPost C E g0 H0 g D (Mi.thn (fa ρ s) fun x s => Mi.thn (fb ρ s) fun y s => match stF o1 i x ρ with
    | some ρ1 => (match stF o2 j y ρ1 with
      | some ρ2 => .nx ρ2 s
      | none => .stuck)
    | none => .stuck) → ∀ R : List V → Hp → Prop, (∀ v1 v2 g2 H2 ρ2 s2, SW C.K g0 H0 g2 H2 ((σ.set i (some v1)).set j (some v2)) ρ2 s2 → SPost C E g0 H0 g2 D (.nx ρ2 s2) → R [v1, v2] H2) →
      tCons (tD C E (rO o1 C.K) fa) (tCons (tD C E (rO o2 C.K) fb) tNil) σ H R := by
    intro D g H σ ρ s sw q R hR
    refine ⟨g, ρ, s, sw.w, sw.r, (q.thn sw.f).imp fun d1 s1 g1 H1 f1 w1 k1 v1 hv1 => ?_⟩
    have sw1 := sw.fr f1 w1
    refine ⟨g1, ρ, s1, w1, sw1.r, ((k1.weak f1.le).thn sw1.f).imp fun d2 s2 g2 H2 f2 w2 k2 v2 hv2 => ?_⟩
    cases e1 : stF o1 i d1 ρ with
    | none => simp only [e1] at k2; exact k2.elim
    | some ρ1 =>
      simp only [e1] at k2
      cases e2 : stF o2 j d2 ρ1 with
      | none => simp only [e2] at k2; exact k2.elim
      | some ρ2 =>
        simp only [e2] at k2
        have fin := two_stores (s := s) (s2 := s2) sw f1 f2 w2 hv1 hv2 e1 e2 sw1
        exact hR v1 v2 g2 H2 ρ2 s2 fin (SPost.weak f2.le k2)
  cases o with
  | true =>
    have hs := swapped_of (pt := pt) (pt2 := pt2) (kt := kt) (k2 := k2) hk na nb h
    have hl : X.env.scope.names.lookup x = some .local ∧ X.env.scope.names.lookup y = some .local := by
      unfold sw2 at h
      split at h
      · cases h
      · rename_i hz
        simp only [Bool.and_eq_true, beq_iff_eq] at hz
        exact ⟨hz.1, hz.2.1⟩
    refine ds_of (ps_par hc hN hi hj hij hl.1 hl.2 hP hs (by rfl)) fun D g H σ ρ s sw q => ?_
    exact main D g H σ ρ s sw q _ fun v1 v2 g2 H2 ρ2 s2 sw2 p2 => ⟨v1, v2, rfl, p2 g2 H2 _ sw2 (Le.refl g2)⟩
  | false =>
    have hs := swapped_of (pt := pt) (pt2 := pt2) (kt := kt) (k2 := k2) hk na nb h
    have hG : PG X (.Tuple [.Name x px, .Name y py] kt pt) (gTup X.K 2 (gCons (gName i) (gCons (gName j) gNil))) := pg_tup hc (pgs_cons (pg_name hN hi hx hfx) (pgs_cons (pg_name hN hj hy hfy) pgs_nil (by rfl)) (by rfl)) (by rfl) (by rfl)
    refine ds_of (ps_asg (pe_tup hP) hG (by rfl) hs (by rfl)) fun D g H σ ρ s sw q => ?_
    refine main D g H σ ρ s sw q (fun vs H1 => vs.length ≤ sizeLine ∧ ∀ p, H1 p = Option.none → gTup X.K 2 (gCons (gName i) (gCons (gName j) gNil)) (.ref p) σ (upd H1 p (.tup vs)) fun σ' H' => D.nx σ' H') fun v1 v2 g2 H2 ρ2 s2 sw2 p2 => ⟨by show 2 ≤ sizeLine; decide, fun t ht => ?_⟩
    refine ⟨t, [v1, v2], rfl, .inl (.inl upd_same), rfl, v1, [v2], rfl, v2, [], rfl, rfl, ?_⟩
    exact p2 g2 _ _ (sw2.fr (fr_new ht) (sw2.w.new ht)) (Le.refl g2)
end
end Mi
end
section
set_option Elab.async false
set_option linter.all false
set_option maxRecDepth 100000
set_option maxHeartbeats 4000000
/-! Mi15: the checker of statements. -/
namespace Mi
open PySem PySem.Spec PyProof.Rows L2
def compSc : Expr → Option Scope
  | .ListComp _ _ s _ => some s
  | .SetComp _ _ s _ => some s
  | .DictComp _ _ _ s _ => some s
  | _ => none
/-- is the value of such an assignment stored by the comprehension itself -/
def swB (sc : Scope) (x : Str) (px : Pos) (e : Expr) : Bool := match compSc e with
  | some s => sc.names.lookup x == some .local && (px.line == e.pos.line && !(s.names.any fun (n, k) => n == x && (k == .local || k == .cell)))
  | none => false
theorem swB_eq {env : Env} {x : Str} {px : Pos} {e : Expr} {l : Nat} (hk : env.scope.kind = .function) : swapsWith e (some (.Name x px)) l env = pure (swB env.scope x px e) := by
  have hb : env.blockKind = .function := by unfold Env.blockKind; rw [hk]; rfl
  unfold swapsWith swB
  rw [hb]
  cases e <;> first
    | rfl
    | (simp only [compSc]; unfold Env.kindOf; congr 1; simp [Bool.and_assoc])
theorem swE_eq {env : Env} {e : Expr} {l : Nat} (h : (compSc e).isNone = true) : swapsWith e none l env = pure false := by
  unfold swapsWith
  cases e <;> first
    | rfl
    | (cases h; done)
theorem swN_eq {env : Env} {t e : Expr} {l : Nat} (h : match t with | .Name _ _ => False | _ => True) : swapsWithSole [t] e l env = pure false := by
  show swapsWith e (some t) l env = pure false
  unfold swapsWith
  cases t <;> first
    | (cases h; done)
    | (cases e <;> rfl)
def notTupE : Expr → Bool
  | .Tuple _ _ _ => false
  | _ => true
theorem sws_notTup {t e : Expr} {env : Env} (h : notTupE e = true) : swappedStores [t] e env = pure none := by
  unfold swappedStores
  cases e <;> first
    | (cases h; done)
    | (cases t <;> rfl)
theorem sws_sub {a b e : Expr} {p : Pos} {env : Env} : swappedStores [.Subscript a b p] e env = pure none := by
  unfold swappedStores
  cases e <;> rfl
def mdO : Bool → Md
  | true => .f
  | false => .s
def opB : Bool → Operator → Bool
  | true, .Sub => true
  | false, .Add => true
  | _, _ => false
def lcE : CE → Bool
  | .lc _ _ _ _ _ => true
  | .lc2 _ _ _ _ _ _ _ _ _ => true
  | _ => false
abbrev allO : Str → Bool := fun _ => true
def chkSet (c : Ctx) (sc : Scope) (o : Bool) (i : Nat) (e : CE) (st : Stmt) : Bool := match st with
  | .Assign [.Name x p] v _ => atN c.N i x && (tgOk allO sc x && (chk c (mdO o) sc e v && (match swB sc x p v with
    | true => lcE e
    | false => true)))
  | _ => false
mutual
def chkS (c : Ctx) (sc : Scope) : CS → Stmt → Bool
  | .skip, st => (match st with
    | .Pass _ => true
    | _ => false)
  | .ex e, st => (match st with
    | .Expr x _ => (compSc x).isNone && chk c .s sc e x
    | _ => false)
  | .ret e, st => (match st with
    | .Return (some x) _ => chk c .s sc e x
    | _ => false)
  | .retn, st => (match st with
    | .Return none _ => true
    | _ => false)
  | .set i e, st => chkSet c sc false i e st
  | .seto i e, st => chkSet c sc true i e st
  | .par2 i j o1 o2 a b, st => (match st with
    | .Assign [.Tuple [.Name x px, .Name y py] _ _] (.Tuple [u, v] _ _) _ => atN c.N i x && (atN c.N j y && (decide (i ≠ j) && (tgOk allO sc x && (tgOk allO sc y && (nost u && (nost v && (chk c (mdO o1) sc a u && (chk c (mdO o2) sc b v && (sw2 sc x y px py u v).isSome))))))))
    | _ => false)
  | .asg t e, st => (match st with
    | .Assign [.Tuple es k p] v _ => notTupE v && (chkT c allO sc t (.Tuple es k p) && chk c .s sc e v)
    | _ => false)
  | .aug i sub e, st => (match st with
    | .AugAssign (.Name x _) op v _ => atN c.N i x && (tgOk allO sc x && (opB sub op && chk c .s sc e v))
    | _ => false)
  | .augo _ _, _ => false
  | .app i e, st => (match st with
    | .Expr (.Call (.Attribute (.Name x _) f ap) [v] [] cp) _ => decide (f = ("append" : Str)) && (atN c.N i x && (isVis sc x && (nmOk x && (nost v && ((ap.endLine == cp.line) && chk c .s sc e v)))))
    | _ => false)
  | .pop i j, st => (match st with
    | .Assign [.Name y _] (.Call (.Attribute (.Name x _) f ap) [] [] cp) _ => decide (f = ("pop" : Str)) && (atN c.N i x && (isVis sc x && (nmOk x && (atN c.N j y && (tgOk allO sc y && ((ap.endLine == cp.line) && decide (i ≠ j)))))))
    | _ => false)
  | .setx a b e, st => (match st with
    | .Assign [.Subscript u v _] w _ => nosl v && (chk c .s sc a u && (chk c .s sc b v && chk c .s sc e w))
    | _ => false)
  | .setxo i b e, st => (match st with
    | .Assign [.Subscript (.Name x _) v _] w _ => nosl v && (atN c.N i x && (isVis sc x && (nmOk x && (chk c .s sc b v && chk c .s sc e w))))
    | _ => false)
  | .iff d a b, st => (match st with
    | .If t bs cs _ => chk c .s sc d t && (chkB c sc a bs && chkB c sc b cs)
    | _ => false)
  | .for_ t it b, st => (match st with
    | .For tg iter body [] _ => nosetE iter && (chkI c false sc it tg iter && (chkT c allO sc t tg && chkB c sc b body))
    | _ => false)
  | .while_ d b, st => (match st with
    | .While t body [] _ => chk c .s sc d t && chkB c sc b body
    | _ => false)
  | .raise n, st => (match st with
    | .Raise (some (.Call (.Name x _) [.Constant (.str _) _ _] [] _)) none _ => isGl sc x && c.xs.contains (x, n)
    | _ => false)
  | .brk, st => (match st with
    | .Break _ => true
    | _ => false)
  | .cnt, st => (match st with
    | .Continue _ => true
    | _ => false)
  | .frz _ s, st => chkS c sc s st
def chkB (c : Ctx) (sc : Scope) : CB → List Stmt → Bool
  | .nil, st => (match st with
    | [] => true
    | _ => false)
  | .cons s r, st => (match st with
    | x :: xs => chkS c sc s x && chkB c sc r xs
    | [] => false)
end
/-- an exception class of the text -/
def ExOk (K : PySem.W.Frag) (mg : Str → Option Value) (C : Cfg) (p : Str × Nat) : Prop := ∃ (Cl : Addr) (bmB : List Value) (B newId initId : String), ExcBaseFacts B newId initId bmB ∧ PySem.W.excIn K Cl bmB newId = true ∧ mg p.1 = some (.ref Cl) ∧ PySem.W.keepIn K (.ref Cl) = true ∧
  PySem.W.subIn K (.ref Cl) (.type "BaseException") = some true ∧ PySem.W.typeIn K (.ref Cl) = some (.type "type") ∧ C.cls p.2 = .ref Cl
structure GS (c : Ctx) (C : Cfg) (Φ : Nat → List D → M D) (k : Nat) (E : XK) (X : Cx) : Prop where
  x : GX c C Φ k E X
  takes : Takes X (fun cls d _ H => E cls d H)
  kind : X.env.scope.kind = .function
  fn : ∀ y, X.fn y = true
  own : PassesOwn (model X.prog X.w) X.A X.env X.xe
  exs : ∀ p ∈ c.xs, ExOk X.K X.mg C p
section
variable {c : Ctx} {C : Cfg} {Φ : Nat → List D → M D} {k : Nat} {E : XK} {X : Cx} {g0 : Gh} {H0 : Hp}
theorem DS.to {st : Stmt} {f f' : Ev → Sto → SR} (h : DS C E X g0 H0 st f) (i : f' = f) : DS C E X g0 H0 st f' := by rw [i]; exact h
theorem DSs.to {st : List Stmt} {f f' : Ev → Sto → SR} (h : DSs C E X g0 H0 st f) (i : f' = f) : DSs C E X g0 H0 st f' := by rw [i]; exact h
theorem tg_loc {sc : Scope} {x : Str} (h : tgOk allO sc x = true) : Loc sc x := by
  unfold tgOk at h
  split at h
  · exact .inl (by assumption)
  · exact .inr (by assumption)
  · cases h
theorem snd_do (G : GX c C Φ k E X) {o : Bool} {a : CE} {e : Expr} (h : chk c (mdO o) X.env.scope a e = true) : DOf o C E X e (ev Φ a) := by
  cases o with
  | true => exact (snd c C Φ k a E X e G).v .f h
  | false => exact (snd c C Φ k a E X e G).v .s h
/-- name = value, by what the value is -/
theorem ds_setG {st : Stmt} {i : Nat} {te : TE} {f : Ev → M D} (h0 : PS X st (tAsg te (gName i))) (red : ∀ (σ : L2.St) (H : Hp) (Q : VK), tD C E (rF C.K) f σ H Q → te σ H Q) :
    (DS C E X g0 H0 st (fun ρ s => Mi.thn (f ρ s) fun d s => .nx (ρ.set i (.val d)) s)) ∧ (DS C E X g0 H0 st (fun ρ s => Mi.thn (f ρ s) fun d s => match stF true i d ρ with | some ρ' => .nx ρ' s | none => .stuck)) := by
  refine ⟨ds_of h0 fun D g H σ ρ s sw p => ?_, ds_of h0 fun D g H σ ρ s sw p => ?_⟩
  · exact red σ H _ ⟨g, ρ, s, sw.w, sw.r, post_frz (p.thn sw.f) fun d s1 g1 H1 f1 w1 k v hv => k g1 H1 _ ((sw.fr f1 w1).set hv i) f1.le⟩
  · refine red σ H _ ⟨g, ρ, s, sw.w, sw.r, (p.thn sw.f).imp fun d s1 g1 H1 f1 w1 k v hv => ?_⟩
    cases e1 : stF true i d ρ with
    | none => simp only [e1] at k; exact k.elim
    | some ρ' =>
      simp only [e1] at k
      obtain ⟨ds, rfl, rfl⟩ := stF_own e1
      obtain ⟨q, vs, rfl, h0, h1, h2, h3, h4, h5⟩ := hv.1 ds rfl
      exact k g1 H1 _ ((sw.fr f1 w1).setO h1 h2 h3 h4 h5 (sw.f.there q h0) i fun j es _ q => own_there sw h0 j es q) f1.le
/-- a comprehension, stored by itself -/
theorem snd_lcs (G : GS c C Φ k E X) {e : CE} {v : Expr} {i : Nat} {y : Str} {py pos : Pos} {m : Md} (hl : lcE e = true) (h : chk c m X.env.scope e v = true) (hy : X.N[i]? = some y) (hsw : swB X.env.scope y py v = true) :
    ∃ te, PS X (.Assign [.Name y py] v pos) (tAsg te (gName i)) ∧ ∀ (σ : L2.St) (H : Hp) (Q : VK), tD C E (rF C.K) (ev Φ e) σ H Q → te σ H Q := by
  have hs0 : swapsWith v (some (.Name y py)) pos.line X.env = pure true := by rw [swB_eq G.kind, hsw]
  have hyl : X.env.scope.names.lookup y = some .local := by
    unfold swB at hsw
    split at hsw
    · obtain ⟨h1, _⟩ := ba2 hsw
      simpa using h1
    · cases hsw
  have GX0 := G.x
  cases e with
  | lc x t it d vs =>
    unfold chk at h
    split at h
    · rename_i z tg iter ifs scope p1
      obtain ⟨h1, h⟩ := ba2 h
      obtain ⟨h2, h⟩ := ba2 h
      obtain ⟨h3, h⟩ := ba2 h
      obtain ⟨h4, h⟩ := ba2 h
      obtain ⟨h5, h⟩ := ba2 h
      obtain ⟨h6, h⟩ := ba2 h
      have ok : BlkOk X.N X.env.scope scope (ownOf c.N vs) := by
        rw [GX0.N]
        exact blkOk_by h1
      refine ⟨_, ps_setLc (own := ownOf c.N vs) (g := gD C.K t) (tt := tDT C E00 (evC Φ d)) (te := tD C E00 (rS C.K) (ev Φ x)) GX0.calm GX0.nd hy hyl hs0 ((sndI c C Φ k it E X GX0).1 tg iter h5).pi ok (fun s H C' cl fp => ?_) (fun s H C' cl fp => ?_) (fun s H C' cl fp => ?_) (fold_ns h3 X.env), ?_⟩
      · have GB := GX0.blk s H scope (compEnvC scope cl C' X.env) fp
        exact snd_tgt (c := c) (own := cellOf scope) GB.N GB.nd GB.K GB.calm (fun x hx => hx) t tg h4
      · exact ((sndO c C Φ k d E00 _ (GX0.blk s H scope _ fp)).2 ifs h6).pt
      · exact ((snd c C Φ k x E00 _ z (GX0.blk s H scope _ fp)).v .s h).pe
      · intro σ H Q q
        refine tD_lc (fun i hi => ?_) σ H Q ?_
        · rw [own_snd]
          have := List.all_eq_true.mp h2 i hi
          simpa using this
        · rw [own_snd]
          have e0 : ev Φ (.lc x t it d vs) = fun ρ => bnd (evI Φ it ρ) fun ds => nox (bnd (compL (lcStep t (evC Φ d) (ev Φ x) (wipeD ρ vs)) ds) fun xs => pur (.lst xs)) := funext fun ρ => by
            rw [ev]
            rfl
          rw [← e0]
          exact q
    · cases h
  | lc2 x t it d t1 it1 d1 vs vs1 =>
    unfold chk at h
    split at h
    · rename_i z tg iter ifs tg1 iter1 ifs1 scope p1
      obtain ⟨h1, h⟩ := ba2 h
      obtain ⟨h2, h⟩ := ba2 h
      obtain ⟨h3, h⟩ := ba2 h
      obtain ⟨h4, h⟩ := ba2 h
      obtain ⟨h5, h⟩ := ba2 h
      obtain ⟨h6, h⟩ := ba2 h
      obtain ⟨h7, h⟩ := ba2 h
      obtain ⟨h8, h⟩ := ba2 h
      obtain ⟨h9, h⟩ := ba2 h
      obtain ⟨h10, h⟩ := ba2 h
      obtain ⟨h11, h⟩ := ba2 h
      obtain ⟨h12, h⟩ := ba2 h
      have ok : BlkOk X.N X.env.scope scope (ownOf c.N vs) := by
        rw [GX0.N]
        exact blkOk_by h1
      refine ⟨_, ps_setLc2 (own := ownOf c.N vs) (vs1 := vs1) (g := gD C.K t) (tt := tDT C E00 (evC Φ d)) (g1 := gD C.K t1) (tt1 := tDT C E00 (evC Φ d1)) (wi1 := tDI C E00 false (evI Φ it1)) (te := tD C E00 (rS C.K) (ev Φ x)) GX0.calm GX0.nd hy hyl hs0 ((sndI c C Φ k it E X GX0).1 tg iter h8).pi ok (fun i hi => ?_) (fun s H C' cl fp => ?_) (fun s H C' cl fp => ?_) (fun s H C' cl fp => ?_) (fun s H C' cl fp => ?_) (fun s H C' cl fp => ?_) (fun s H C' cl fp => ?_) (fold_ns h5 X.env) (fold_ns h6), ?_⟩
      · rw [own_snd]
        have := List.all_eq_true.mp h4 i hi
        simpa using this
      · have GB := GX0.blk s H scope (compEnvC scope cl C' X.env) fp
        exact snd_tgt (c := c) (own := cellOf scope) GB.N GB.nd GB.K GB.calm (fun x hx => hx) t tg h7
      · exact ((sndO c C Φ k d E00 _ (GX0.blk s H scope _ fp)).2 ifs h9).pt
      · exact ((sndI c C Φ k it1 E00 _ (GX0.blk s H scope _ fp)).2 tg1 iter1 h11).pi
      · have GB := GX0.blk s H scope (compEnvC scope cl C' X.env) fp
        exact snd_tgt (c := c) (own := cellOf scope) GB.N GB.nd GB.K GB.calm (fun x hx => hx) t1 tg1 h10
      · exact ((sndO c C Φ k d1 E00 _ (GX0.blk s H scope _ fp)).2 ifs1 h12).pt
      · exact ((snd c C Φ k x E00 _ z (GX0.blk s H scope _ fp)).v .s h).pe
      · intro σ H Q q
        refine tD_lc2 (fun i hi => ?_) (fun i hi => ?_) σ H Q ?_
        · rw [own_snd]
          have := List.all_eq_true.mp h2 i hi
          simpa using this
        · have := List.all_eq_true.mp h3 i hi
          simpa using this
        · rw [own_snd]
          have e0 : ev Φ (.lc2 x t it d t1 it1 d1 vs vs1) = fun ρ => bnd (evI Φ it ρ) fun ds => nox (bnd (compL (lc2Step t (evC Φ d) (evI Φ it1) t1 (evC Φ d1) (ev Φ x) vs1 (wipeD (dropO ρ) vs)) ds) fun xs => if xs.length ≤ LIM then pur (.lst xs) else stk) := funext fun ρ => by
            rw [ev]
            rfl
          rw [← e0]
          exact q
    · cases h
  | _ => cases hl
theorem ds_raise (G : GS c C Φ k E X) {x m : Str} {n j : Nat} {p p2 pos pos' : Pos} (hg : isGl X.env.scope x = true) (hx : (x, n) ∈ c.xs) : DS C E X g0 H0 (.Raise (some (.Call (.Name x p) [.Constant (.str m) j p2] [] pos)) none pos') (fun _ s => .exc n none s) := by
  obtain ⟨Cl, bmB, B, newId, initId, F, h1, h2, h3, h4, h5, h6⟩ := G.exs _ hx
  obtain ⟨g1, g2⟩ := gl_of hg
  refine ds_of (ps_raise G.x.calm G.takes (pmk_own F h1 h2 h3 (raises_own h4 h5) g1 g2)) fun D g H σ ρ s sw q => ?_
  have := q g H none sw.f sw.w rfl
  rw [h6] at this
  exact this
theorem snd_set (G : GS c C Φ k E X) {i : Nat} {e : CE} {st : Stmt} : (chkSet c X.env.scope false i e st = true → DS C E X g0 H0 st (fun ρ s => Mi.thn (ev Φ e ρ s) fun d s => .nx (ρ.set i (.val d)) s)) ∧
    (chkSet c X.env.scope true i e st = true → DS C E X g0 H0 st (fun ρ s => Mi.thn (ev Φ e ρ s) fun d s => match stF true i d ρ with | some ρ' => .nx ρ' s | none => .stuck)) := by
  have GX0 := G.x
  refine ⟨fun h => ?_, fun h => ?_⟩
  · unfold chkSet at h
    split at h
    · rename_i x p v pos
      obtain ⟨h1, h⟩ := ba2 h
      obtain ⟨h2, h⟩ := ba2 h
      obtain ⟨h3, h⟩ := ba2 h
      have hi := atN_of h1
      rw [← GX0.N] at hi
      cases hsw : swB X.env.scope x p v with
      | true =>
        rw [hsw] at h
        obtain ⟨te, q1, q2⟩ := snd_lcs G (pos := pos) (i := i) h h3 hi hsw
        exact (ds_setG q1 q2).1
      | false => exact ds_set GX0.nd hi (tg_loc h2) ((snd c C Φ k e E X v GX0).v .s h3) (by rw [swB_eq G.kind, hsw]) (.inl (G.fn x))
    · cases h
  · unfold chkSet at h
    split at h
    · rename_i x p v pos
      obtain ⟨h1, h⟩ := ba2 h
      obtain ⟨h2, h⟩ := ba2 h
      obtain ⟨h3, h⟩ := ba2 h
      have hi := atN_of h1
      rw [← GX0.N] at hi
      cases hsw : swB X.env.scope x p v with
      | true =>
        rw [hsw] at h
        obtain ⟨te, q1, q2⟩ := snd_lcs G (pos := pos) (i := i) h h3 hi hsw
        exact (ds_setG q1 q2).2
      | false => exact ds_seto GX0.nd hi (tg_loc h2) ((snd c C Φ k e E X v GX0).v .f h3) (by rw [swB_eq G.kind, hsw]) (.inl (G.fn x))
    · cases h
end
end Mi
end
section
set_option Elab.async false
set_option linter.all false
set_option maxRecDepth 100000
set_option maxHeartbeats 4000000
/-! Mi16: the checker of statements is sound; functions. -/
namespace Mi
open PySem PySem.Spec PyProof.Rows L2
section
variable {C : Cfg} {E : XK} {X : Cx} {g0 : Gh} {H0 : Hp}
mutual
theorem sndS (c : Ctx) (C : Cfg) (Φ : Nat → List D → M D) (W k : Nat) (E : XK) (X : Cx) (g0 : Gh) (H0 : Hp) (G : GS c C Φ k E X) : ∀ (cs : CS) (st : Stmt), chkS c X.env.scope cs st = true → DS C E X g0 H0 st (evS Φ W cs)
  | .skip, st, h => by
    unfold chkS at h
    split at h
    · exact (ds_skip ps_pass).to (funext fun ρ => funext fun s => by rw [evS] <;> rfl)
    · cases h
  | .ex e, st, h => by
    unfold chkS at h
    split at h
    · obtain ⟨h1, h2⟩ := ba2 h
      exact (ds_ex ((snd c C Φ k e E X _ G.x).v .s h2) (swE_eq h1)).to (funext fun ρ => funext fun s => by rw [evS] <;> rfl)
    · cases h
  | .ret e, st, h => by
    unfold chkS at h
    split at h
    · exact (ds_ret ((snd c C Φ k e E X _ G.x).v .s h)).to (funext fun ρ => funext fun s => by rw [evS] <;> rfl)
    · cases h
  | .retn, st, h => by
    unfold chkS at h
    split at h
    · exact ds_retn.to (funext fun ρ => funext fun s => by rw [evS] <;> rfl)
    · cases h
  | .set i e, st, h => by
    unfold chkS at h
    exact ((snd_set G).1 h).to (funext fun ρ => funext fun s => by rw [evS] <;> rfl)
  | .seto i e, st, h => by
    unfold chkS at h
    exact ((snd_set G).2 h).to (funext fun ρ => funext fun s => by rw [evS] <;> rfl)
  | .par2 i j o1 o2 a b, st, h => by
    unfold chkS at h
    split at h
    · rename_i x px y py kt pt u v k2 pt2 pos
      obtain ⟨h1, h⟩ := ba2 h
      obtain ⟨h2, h⟩ := ba2 h
      obtain ⟨h3, h⟩ := ba2 h
      obtain ⟨h4, h⟩ := ba2 h
      obtain ⟨h5, h⟩ := ba2 h
      obtain ⟨h6, h⟩ := ba2 h
      obtain ⟨h7, h⟩ := ba2 h
      obtain ⟨h8, h⟩ := ba2 h
      obtain ⟨h9, h⟩ := ba2 h
      have hi := atN_of h1
      have hj := atN_of h2
      rw [← G.x.N] at hi hj
      obtain ⟨o, ho⟩ := Option.isSome_iff_exists.mp h
      exact (ds_par2 G.x.K G.x.calm G.kind G.x.nd hi hj (of_decide_eq_true h3) (tg_loc h4) (tg_loc h5) (.inl (G.fn x)) (.inl (G.fn y)) h6 h7 (snd_do G.x h8) (snd_do G.x h9) ho).to (funext fun ρ => funext fun s => by rw [evS] <;> rfl)
    · cases h
  | .asg t e, st, h => by
    unfold chkS at h
    split at h
    · obtain ⟨h1, h⟩ := ba2 h
      obtain ⟨h2, h3⟩ := ba2 h
      exact (ds_asg ((snd c C Φ k e E X _ G.x).v .s h3) (snd_tgt (c := c) (own := allO) G.x.N G.x.nd G.x.K G.x.calm (fun x _ => G.fn x) t _ h2) (swN_eq trivial) (sws_notTup h1) (by rfl) (fun ρ ρ' d e i ds q => tgt_own t d ρ ρ' e i ds q)).to (funext fun ρ => funext fun s => by rw [evS] <;> rfl)
    · cases h
  | .aug i sub e, st, h => by
    unfold chkS at h
    split at h
    · rename_i x p op v pos
      obtain ⟨h1, h⟩ := ba2 h
      obtain ⟨h2, h⟩ := ba2 h
      obtain ⟨h3, hz⟩ := ba2 h
      have hi := atN_of h1
      rw [← G.x.N] at hi
      have eo : op = (match (generalizing := false) sub with | true => .Sub | false => .Add) := by
        clear h
        cases sub <;> cases op <;> first
          | rfl
          | cases h3
      subst eo
      exact (ds_aug G.x.nd hi (tg_loc h2) (.inl (G.fn x)) ((snd c C Φ k e E X _ G.x).v .s hz)).to (funext fun ρ => funext fun s => by rw [evS] <;> rfl)
    · cases h
  | .augo i e, st, h => by
    unfold chkS at h
    cases h
  | .app i e, st, h => by
    unfold chkS at h
    split at h
    · obtain ⟨h1, h⟩ := ba2 h
      obtain ⟨h2, h⟩ := ba2 h
      obtain ⟨h3, h⟩ := ba2 h
      obtain ⟨h4, h⟩ := ba2 h
      obtain ⟨h5, h⟩ := ba2 h
      obtain ⟨h6, hz⟩ := ba2 h
      have e1 := of_decide_eq_true h1
      subst e1
      have hi := atN_of h2
      rw [← G.x.N] at hi
      exact (ds_app hi (vis_of h3) h4 ((snd c C Φ k e E X _ G.x).v .s hz) h5 h6).to (funext fun ρ => funext fun s => by rw [evS] <;> rfl)
    · cases h
  | .pop i j, st, h => by
    unfold chkS at h
    split at h
    · obtain ⟨h1, h⟩ := ba2 h
      obtain ⟨h2, h⟩ := ba2 h
      obtain ⟨h3, h⟩ := ba2 h
      obtain ⟨h4, h⟩ := ba2 h
      obtain ⟨h5, h⟩ := ba2 h
      obtain ⟨h6, h⟩ := ba2 h
      obtain ⟨h7, hz⟩ := ba2 h
      have e1 := of_decide_eq_true h1
      subst e1
      have hi := atN_of h2
      have hj := atN_of h5
      rw [← G.x.N] at hi hj
      exact (ds_pop G.x.nd hi (vis_of h3) h4 hj (tg_loc h6) (.inl (G.fn _)) h7 (of_decide_eq_true hz)).to (funext fun ρ => funext fun s => by rw [evS] <;> rfl)
    · cases h
  | .setx a b e, st, h => by
    unfold chkS at h
    split at h
    · obtain ⟨h1, h⟩ := ba2 h
      obtain ⟨h2, h⟩ := ba2 h
      obtain ⟨h3, h⟩ := ba2 h
      exact (ds_setx h1 ((snd c C Φ k a E X _ G.x).v .s h2) ((snd c C Φ k b E X _ G.x).v .s h3) ((snd c C Φ k e E X _ G.x).v .s h) (swN_eq trivial) sws_sub).to (funext fun ρ => funext fun s => by rw [evS] <;> rfl)
    · cases h
  | .setxo i b e, st, h => by
    unfold chkS at h
    split at h
    · obtain ⟨h1, h⟩ := ba2 h
      obtain ⟨h2, h⟩ := ba2 h
      obtain ⟨h3, h⟩ := ba2 h
      obtain ⟨h4, h⟩ := ba2 h
      obtain ⟨h5, h⟩ := ba2 h
      have hi := atN_of h2
      rw [← G.x.N] at hi
      exact (ds_setxo h1 hi (vis_of h3) h4 ((snd c C Φ k b E X _ G.x).v .s h5) ((snd c C Φ k e E X _ G.x).v .s h) (swN_eq trivial) sws_sub).to (funext fun ρ => funext fun s => by rw [evS] <;> rfl)
    · cases h
  | .iff d a b, st, h => by
    unfold chkS at h
    split at h
    · obtain ⟨h1, h⟩ := ba2 h
      obtain ⟨h2, h3⟩ := ba2 h
      exact (ds_iff ((snd c C Φ k d E X _ G.x).t h1) (sndB c C Φ W k E X g0 H0 G a _ h2) (sndB c C Φ W k E X g0 H0 G b _ h3)).to (funext fun ρ => funext fun s => by rw [evS] <;> rfl)
    · cases h
  | .for_ t it b, st, h => by
    unfold chkS at h
    split at h
    · obtain ⟨h1, h⟩ := ba2 h
      obtain ⟨h2, h⟩ := ba2 h
      obtain ⟨h3, h4⟩ := ba2 h
      exact (ds_for G.own G.x.calm ((sndI c C Φ k it E X G.x).2 _ _ h2) (snd_tgt (c := c) (own := allO) G.x.N G.x.nd G.x.K G.x.calm (fun x _ => G.fn x) t _ h3) (sndB c C Φ W k E X g0 H0 G b _ h4) (fold_ns h1 X.env)).to (funext fun ρ => funext fun s => by rw [evS] <;> rfl)
    · cases h
  | .while_ d b, st, h => by
    unfold chkS at h
    split at h
    · obtain ⟨h1, h2⟩ := ba2 h
      exact (ds_while (W := W) G.own ((snd c C Φ k d E X _ G.x).t h1) (sndB c C Φ W k E X g0 H0 G b _ h2)).to (funext fun ρ => funext fun s => by rw [evS] <;> rfl)
    · cases h
  | .raise n, st, h => by
    unfold chkS at h
    split at h
    · obtain ⟨h1, h2⟩ := ba2 h
      exact (ds_raise G h1 (by simpa using h2)).to (funext fun ρ => funext fun s => by rw [evS] <;> rfl)
    · cases h
  | .brk, st, h => by
    unfold chkS at h
    split at h
    · exact ds_brk.to (funext fun ρ => funext fun s => by rw [evS] <;> rfl)
    · cases h
  | .cnt, st, h => by
    unfold chkS at h
    split at h
    · exact ds_cnt.to (funext fun ρ => funext fun s => by rw [evS] <;> rfl)
    · cases h
  | .frz i s, st, h => by
    unfold chkS at h
    exact (ds_frz (i := i) (sndS c C Φ W k E X g0 H0 G s st h)).to (funext fun ρ => funext fun s => by rw [evS] <;> rfl)
theorem sndB (c : Ctx) (C : Cfg) (Φ : Nat → List D → M D) (W k : Nat) (E : XK) (X : Cx) (g0 : Gh) (H0 : Hp) (G : GS c C Φ k E X) : ∀ (cb : CB) (st : List Stmt), chkB c X.env.scope cb st = true → DSs C E X g0 H0 st (evB Φ W cb)
  | .nil, st, h => by
    unfold chkB at h
    split at h
    · exact dss_nil.to (funext fun ρ => funext fun s => by rw [evB] <;> rfl)
    · cases h
  | .cons s r, st, h => by
    unfold chkB at h
    split at h
    · obtain ⟨h1, h2⟩ := ba2 h
      exact (dss_cons (sndS c C Φ W k E X g0 H0 G s _ h1) (sndB c C Φ W k E X g0 H0 G r _ h2)).to (funext fun ρ => funext fun s => by rw [evB] <;> rfl)
    · cases h
end
end
/-! ### functions -/
/-- a def and its core term -/
structure DefOk (K : PySem.W.Frag) (mg : Str → Option Value) (c : Ctx) (T : Nat → Option Fd) (f : Nat) : Prop where
  ex : ∃ (fa : Addr) (fd : FuncData) (qual : Str) (params : Arguments) (body : List Stmt) (scope : Scope) (ps N : List Str) (t : Fd),
    FunD K (c.fnm f) qual params body scope [] [] fa fd ∧ FnScope N ps scope ∧ mg (c.fnm f) = some (.ref fa) ∧ Binds K fd ps [] ∧ T f = some t ∧ t.np = ps.length ∧ t.nl = N.length ∧ c.far f = ps.length ∧ chkB { c with N := N } scope t.body body = true
theorem start_env {K : PySem.W.Frag} {g : Gh} {H : Hp} {N : List Str} {vs : List V} {ds : List D} (r : Reps K g vs ds) (hl : vs.length ≤ N.length) : REnv K g H (L2.start N vs) (ds.map .val ++ List.replicate (N.length - vs.length) .no) := by
  have l := r.length
  have noown : ∀ (i : Nat) es, (ds.map Sl.val ++ List.replicate (N.length - vs.length) Sl.no)[i]? ≠ some (.own es) := fun i es q => by
    by_cases hi : i < (ds.map Sl.val).length
    · rw [List.getElem?_append_left hi, List.getElem?_map] at q
      cases h : ds[i]? with
      | none => rw [h] at q; cases q
      | some d => rw [h] at q; cases q
    · rw [List.getElem?_append_right (by omega), List.getElem?_replicate] at q
      split at q <;> cases q
  refine ⟨?_, fun i d q => ?_, fun i es q => absurd q (noown i es), fun i j es fs a q => absurd q (noown i es)⟩
  · unfold L2.start
    simp only [List.length_append, List.length_map, List.length_replicate]
    omega
  · by_cases hi : i < (ds.map Sl.val).length
    · rw [List.getElem?_append_left hi, List.getElem?_map] at q
      cases h : ds[i]? with
      | none => rw [h] at q; cases q
      | some d' =>
        rw [h] at q
        cases q
        obtain ⟨v, h1, h2⟩ := r.get h
        refine ⟨v, ?_, h2⟩
        unfold L2.start
        have hi2 : i < (vs.map some).length := by rw [List.length_map] at hi ⊢; omega
        rw [List.getElem?_append_left hi2, List.getElem?_map, h1]
        rfl
    · rw [List.getElem?_append_right (by omega), List.getElem?_replicate] at q
      split at q <;> cases q
/-- what a def's body is asked, from what its call is asked -/
theorem body_post {C : Cfg} {E : XK} {g0 : Gh} {H0 : Hp} {Q : VK} : ∀ {r : SR}, Post C E g0 H0 (fun d _ g' H' => ∀ v, Rep C.K g' v d → Q v H') (match r with
    | .nx _ s' => .ok .non s'
    | .rt d s' => .ok d s'
    | .exc c a s' => .exc c a s'
    | _ => .stuck) → SPost C E g0 H0 g0 { nx := fun _ H' => Q .non H', rt := Q } r
  | .nx ρ s, h => fun g H σ sw l => h g H sw.f sw.w .non .non
  | .rt d s, h => fun g H v f w r => h g H f w v r
  | .bk ρ s, h => h.elim
  | .ct ρ s, h => h.elim
  | .exc c a s, h => h
  | .stuck, h => h
abbrev FnsAt (P : Program) (w : World) (K : PySem.W.Frag) (mg : Str → Option Value) (base : Heap) (C : Cfg) (c : Ctx) (T : Nat → Option Fd) (W n : Nat) : Prop :=
  ∀ f ∈ c.fs, ∃ fa fd ps, FnOk P w K mg base (L2.CX P w) n fa fd ps (spD C (c.far f) (callN T W n f)) ∧ mg (c.fnm f) = some (.ref fa) ∧ PySem.W.keepIn K (.ref fa) = true ∧ Binds K fd ps []
theorem fn_step {P : Program} {w : World} {K : PySem.W.Frag} {mg : Str → Option Value} {base : Heap} {C : Cfg} {c : Ctx} {T : Nat → Option Fd} {W n : Nat} (hK : C.K = K)
    (blt : ∀ x ∈ bltNames, mg x = none) (gls : ∀ p ∈ c.gs, ∃ v u, mg p.1 = some u ∧ RelV v u ∧ ∀ g, Rep C.K g v (gV p.2)) (exs : ∀ p ∈ c.xs, ExOk K mg C p) (ih : FnsAt P w K mg base C c T W n) {f : Nat} {x qual : Str} {params : Arguments} {body : List Stmt} {scope : Scope} {fa : Addr} {fd : FuncData} {ps N : List Str} {t : Fd}
    (F : FunD K x qual params body scope [] [] fa fd) (S : FnScope N ps scope) (h3 : T f = some t) (h4 : t.np = ps.length) (h5 : t.nl = N.length) (h6 : c.far f = ps.length) (h7 : chkB { c with N := N } scope t.body body = true) :
    FnOk P w K mg base (L2.CX P w) (n + 1) fa fd ps (spD C (c.far f) (callN T W (n + 1) f)) := by
  refine FunD.ok F S (fun vs H Q E q => by rw [q.1, h6]) fun cdv A outer s H vs Q E hr q => ?_
  obtain ⟨hl, g, ds, s0, w0, rp, q⟩ := q
  have tk : Takes (cxOf (L2.CX P w) P w K mg base N qual scope fa cdv A outer s H E) (fun cls d _ H => E cls d H) := takes_of rfl rfl rfl rfl
  have G : GS { c with N := N } C (callN T W n) n E (cxOf (L2.CX P w) P w K mg base N qual scope fa cdv A outer s H E) :=
    ⟨⟨hK.symm, rfl, S.nd, rfl, passes_call tk fun _ _ _ _ h => h, hr, ih, blt, gls⟩, tk, S.kind, fun _ => rfl, passes_of rfl, exs⟩
  refine ⟨_, (sndB { c with N := N } C (callN T W n) W n E _ g H G t.body body h7).ps, ?_⟩
  have hlen : ds.length = t.np := by rw [← rp.length, hl, h6, h4]
  have e : callN T W (n + 1) f ds s0 = (match evB (callN T W n) W t.body (ds.map .val ++ List.replicate (t.nl - t.np) .no) s0 with
    | .nx _ s' => .ok .non s'
    | .rt d s' => .ok d s'
    | .exc c a s' => .exc c a s'
    | _ => .stuck) := by
    show (match T f with | some fd => evF (callN T W n) W fd ds | none => stk) s0 = _
    rw [h3]
    show (match ds.length == t.np with | true => _ | false => _) = _
    have hb : (ds.length == t.np) = true := by simp [hlen]
    rw [hb] <;> rfl
  have el : t.nl - t.np = N.length - vs.length := by rw [h4, h5, hl, h6]
  rw [e, el] at q
  have pl : ps.length ≤ N.length := by
    have := congrArg List.length S.pre
    rw [List.length_take] at this
    omega
  refine ⟨g, _, s0, ⟨w0, start_env rp (by rw [hl, h6]; exact pl), Fr.refl g H, fun i es a q1 _ => ?_⟩, body_post q⟩
  exfalso
  by_cases hi : i < (ds.map Sl.val).length
  · rw [List.getElem?_append_left hi, List.getElem?_map] at q1
    cases h : ds[i]? with
    | none => rw [h] at q1; cases q1
    | some d => rw [h] at q1; cases q1
  · rw [List.getElem?_append_right (by omega), List.getElem?_replicate] at q1
    split at q1 <;> cases q1
theorem fns_ok {P : Program} {w : World} {K : PySem.W.Frag} {mg : Str → Option Value} {base : Heap} {C : Cfg} {c : Ctx} {T : Nat → Option Fd} {W : Nat} (hK : C.K = K) (hd : ∀ f ∈ c.fs, DefOk K mg c T f)
    (blt : ∀ x ∈ bltNames, mg x = none) (gls : ∀ p ∈ c.gs, ∃ v u, mg p.1 = some u ∧ RelV v u ∧ ∀ g, Rep C.K g v (gV p.2)) (exs : ∀ p ∈ c.xs, ExOk K mg C p) : ∀ (n : Nat), ∀ f ∈ c.fs, ∃ fa fd ps, FnOk P w K mg base (L2.CX P w) n fa fd ps (spD C (c.far f) (callN T W n f)) ∧ mg (c.fnm f) = some (.ref fa) ∧ PySem.W.keepIn K (.ref fa) = true ∧ Binds K fd ps []
  | 0, f, hf => by
    obtain ⟨fa, fd, qual, params, body, scope, ps, N, t, F, S, h1, h2, h3, h4, h5, h6, h7⟩ := (hd f hf).ex
    refine ⟨fa, fd, ps, ⟨fun vs H Q E q => ?_, fun A outer s H args us vs Q E hr he hb hv q => ?_⟩, h1, F.kp, h2⟩
    · rw [q.1, h6]
    · obtain ⟨_, g, ds, s, _, _, q⟩ := q
      exact q.elim
  | n + 1, f, hf => by
    obtain ⟨fa, fd, qual, params, body, scope, ps, N, t, F, S, h1, h2, h3, h4, h5, h6, h7⟩ := (hd f hf).ex
    have ih := fns_ok (P := P) (w := w) (base := base) (W := W) hK hd blt gls exs n
    exact ⟨fa, fd, ps, fn_step hK blt gls exs ih F S h3 h4 h5 h6 h7, h1, F.kp, h2⟩
end Mi
end
section
set_option Elab.async false
set_option linter.all false
set_option maxRecDepth 100000
set_option maxHeartbeats 1000000
/-! Mi17: the module's values, the head's hook, the end. -/
namespace Mi
open PySem PySem.Spec PyProof.Rows L2
/-! ### constants of the module -/
def toV : Value → V
  | .bool b => .bl b
  | .int i _ => .int i
  | .str x _ => .str x
  | .ref a => .ref a
  | _ => .non
mutual
def conB (K : PySem.W.Frag) : D → Value → Bool
  | .non, u => (match u with
    | .none => true
    | _ => false)
  | .bl b, u => (match u with
    | .bool c => decide (b = c)
    | _ => false)
  | .int i, u => (match u with
    | .int j _ => decide (i = j)
    | _ => false)
  | .str x, u => (match u with
    | .str y _ => decide (x = y)
    | _ => false)
  | .tup ds, u => (match u with
    | .ref a => (match K.lookup a with
      | some ⟨.type c, _, .seq its _, _⟩ => decide (c = "tuple") && (decide (its.size ≤ LIM) && conL K ds its.toList)
      | _ => false)
    | _ => false)
  | _, _ => false
def conL (K : PySem.W.Frag) : List D → List Value → Bool
  | [], us => (match us with
    | [] => true
    | _ => false)
  | d :: ds, us => (match us with
    | u :: us => conB K d u && conL K ds us
    | [] => false)
end
mutual
theorem con_ok {K : PySem.W.Frag} : ∀ (d : D) (u : Value), conB K d u = true → RelV (toV u) u ∧ ∀ g, Rep K g (toV u) d
  | .non, u, h => by
    unfold conB at h
    cases u with
    | none => exact ⟨rfl, fun g => .non⟩
    | _ => cases h
  | .bl b, u, h => by
    unfold conB at h
    cases u with
    | bool c =>
      cases of_decide_eq_true h
      exact ⟨rfl, fun g => .bl _⟩
    | _ => cases h
  | .int i, u, h => by
    unfold conB at h
    cases u with
    | int j t =>
      cases of_decide_eq_true h
      exact ⟨⟨t, rfl⟩, fun g => .int _⟩
    | _ => cases h
  | .str x, u, h => by
    unfold conB at h
    cases u with
    | str y t =>
      cases of_decide_eq_true h
      exact ⟨⟨t, rfl⟩, fun g => .str _⟩
    | _ => cases h
  | .tup ds, u, h => by
    unfold conB at h
    cases u with
    | ref a =>
      have h : (match K.lookup a with
        | some ⟨.type c, _, .seq its _, _⟩ => decide (c = "tuple") && (decide (its.size ≤ LIM) && conL K ds its.toList)
        | _ => false) = true := h
      cases q : K.lookup a with
      | none => rw [q] at h; cases h
      | some o =>
        obtain ⟨oc, od, dt, osl⟩ := o
        rw [q] at h
        cases oc with
        | type c =>
          cases dt with
          | seq its n =>
            obtain ⟨h1, h⟩ := ba2 (show (decide (c = "tuple") && (decide (its.size ≤ LIM) && conL K ds its.toList)) = true from h)
            obtain ⟨h2, h3⟩ := ba2 h
            have h4 := of_decide_eq_true h2
            obtain ⟨k1, k2⟩ := conL_ok ds its.toList h3
            refine ⟨rfl, fun g => .tup (.inr ⟨_, its, n, q, congrArg Value.type (of_decide_eq_true h1), rfl, by rw [← lim_eq]; exact h4, k1⟩) ?_ (k2 g)⟩
            rw [List.length_map, Array.length_toList]
            exact h4
          | _ => cases h
        | _ => cases dt <;> cases h
    | _ => cases h
  | .lst ds, u, h => by
    unfold conB at h
    cases h
  | .box l, u, h => by
    unfold conB at h
    cases h
theorem conL_ok {K : PySem.W.Frag} : ∀ (ds : List D) (us : List Value), conL K ds us = true → Vals (us.map toV) us ∧ ∀ g, Reps K g (us.map toV) ds
  | [], us, h => by
    unfold conL at h
    cases us with
    | nil => exact ⟨.nil, fun g => .nil⟩
    | cons _ _ => cases h
  | d :: ds, us, h => by
    unfold conL at h
    cases us with
    | nil => cases h
    | cons u us =>
      obtain ⟨h1, h2⟩ := ba2 h
      obtain ⟨k1, k2⟩ := con_ok d u h1
      obtain ⟨k3, k4⟩ := conL_ok ds us h2
      exact ⟨.cons k1 k3, fun g => .cons (k2 g) (k4 g)⟩
end
def gsB (gs : List (Str × Nat)) (K : PySem.W.Frag) : Bool := gs.all fun p => match PySem.W.nsIn K mainGlobals p.1 with
  | some (some u) => conB K (gV p.2) u
  | _ => false
theorem gs_ok {gs : List (Str × Nat)} {K : PySem.W.Frag} {C : Cfg} {h : Heap} {mg : Str → Option Value} (hK : C.K = K) (X : K.In h) (G : h.Ns mainGlobals mg) (c : gsB gs K = true) : ∀ p ∈ gs, ∃ v u, mg p.1 = some u ∧ RelV v u ∧ ∀ g, Rep C.K g v (gV p.2) := by
  intro p hp
  have c1 := List.all_eq_true.mp c p hp
  cases e : PySem.W.nsIn K mainGlobals p.1 with
  | none => rw [e] at c1; cases c1
  | some o =>
    rw [e] at c1
    cases o with
    | none => cases c1
    | some u =>
      obtain ⟨k1, k2⟩ := con_ok _ u c1
      exact ⟨toV u, u, PySem.W.mg_of X G e, k1, fun g => by rw [hK]; exact k2 g⟩
/-! ### the hook -/
def hookG (n : Nat) (fa : List He.Fa) (fn : List He.DefD) (gs : List (Str × Nat)) : PySem.W.Hook where
  α := He.AlD × Bool
  obs := fun s => (He.obsD fa fn (He.frG s.heap.get? (He.asD s.heap.get? n)), gsB gs (He.frG s.heap.get? (He.asD s.heap.get? n)))
  val := fun _ => (He.valD fn, true)
  says := fun _ h => ∃ K : PySem.W.Frag, K.In h ∧ He.SaysD fa fn K ∧ gsB gs K = true
  of := fun _ _ e => ⟨_, He.frG_in, congrArg (fun z : He.AlD × Bool => z.1) e, congrArg (fun z : He.AlD × Bool => z.2) e⟩
  keeps := fun _ _ _ ⟨K, hK, c⟩ k => ⟨K, PySem.W.Frag.In.keeps hK k, c⟩
def obsG (n : Nat) (fa : List He.Fa) (fn : List He.DefD) (gs : List (Str × Nat)) (g : Addr → Option Obj) : He.AlD × Bool := (He.obsD fa fn (He.frG g (He.asD g n)), gsB gs (He.frG g (He.asD g n)))
theorem obsG_eq {n : Nat} {fa : List He.Fa} {fn : List He.DefD} {gs : List (Str × Nat)} {g : Addr → Option Obj} {s : Shared} (h : ∀ a, g a = s.heap.get? a) : obsG n fa fn gs g = (hookG n fa fn gs).obs s := by
  have e : g = s.heap.get? := funext h
  rw [e] <;> rfl
/-! ### the end -/
theorem walk_ofW {l : PySem.W.OpenLaw} {n k : Nat} {q : Program} {loose : List Str} {XP : (Str → Option Value) → Heap → Prop} {YP : World → Heap → Prop} {d : DefRec} {x : Str}
    (hn : l.most = some n) (hn2 : n ≤ sizeLine) (hdf : d.params.defaults = []) (hr : Room k callerA)
    (Fq : ∀ (w : World) (mg : Str → Option Value) (fa : Addr) (h : Heap), YP w h → h.Ns mainGlobals mg → mg d.name = some (.ref fa) →
      ∃ (K : PySem.W.Frag) (fd : FuncData) (sp : Sp), K.In h ∧ (∀ (s : Shared) (u : Value), BindsTo s fd ⟨[u], []⟩ [(x, u)]) ∧
        (∀ (H : Hp) (a : Addr) (ns : List Int), ns.length ≤ n → Only H → SqL K H a (ns.map V.int) → sp [.ref a] H (fun v _ => v = .bl true) fun _ _ _ => False) ∧
        ∀ base : Heap, K.In base → base.Ns mainGlobals mg → FnOk l.prog w K mg base (L2.CX l.prog w) k fa fd [x] sp) :
    PySem.W.WalkO q loose XP YP l.row.toRowW d [] (fun f vs => PySem.call f vs) := by
  refine Att.attach_call hn hdf fun w s₀ s₁ mg mb fa o pm cd doc a vs ns G Y ho hd hcd hmg hobj hints hlen hg => ?_
  obtain ⟨K, fd, sp, KX, hb, hsp, hF⟩ := Fq w mg fa _ Y G.T.g hmg
  refine law_call KX G.T.g G.T.b G.T.builtins G.T.nolimit hg hobj hints (Nat.le_trans hlen hn2) hr hF hb (fun H hO hS => hsp H a ns hlen hO hS) fun H e s' z => ?_
  obtain ⟨_, _, _, _, _, _, _, _, _, _, _, _, f⟩ := z
  exact f
/-- the law's promise, from its plain law -/
theorem law_sp {C : Cfg} {K : PySem.W.Frag} (hK : C.K = K) {F : List D → M D} {n : Nat} (hn : n ≤ LIM) (h : ∀ ns : List Int, ns.length ≤ n → ∃ s', F [.lst (ns.map .int)] [] = .ok (.bl true) s') (H : Hp) (a : Addr) (ns : List Int) (hl : ns.length ≤ n) (hS : SqL K H a (ns.map V.int)) :
    spD C 1 F [.ref a] H (fun v _ => v = .bl true) fun _ _ _ => False := by
  refine ⟨rfl, ⟨H, []⟩, [.lst (ns.map .int)], [], ⟨fun a o e => e, rfl, fun l xs q => by simp at q, fun i j b q _ => by simp at q, fun b hb => by cases hb⟩, .cons (.lst (xs := ns.map V.int) (by rw [hK]; exact hS) (by rw [List.length_map]; omega) (Reps.map _ _ (fun k => .int _) _)) .nil, ?_⟩
  obtain ⟨s', e⟩ := h ns hl
  rw [e]
  intro g' H' f w v r
  cases r
  rfl
/-- an exception class below ValueError -/
theorem ex_ok {K : PySem.W.Frag} {mg : Str → Option Value} {h : Heap} {C : Cfg} {x : Str} {n : Nat} (X : K.In h) (G : h.Ns mainGlobals mg) (c : (He.Fa.exc x).ok K = true) (c2 : (He.Fa.glo x).ok K = true) (hc : C.cls n = .ref (He.ga K x)) : ExOk K mg C (x, n) := by
  obtain ⟨h1, h2, h3, h4⟩ := He.exc_ok c
  exact ⟨He.ga K x, He.veBase, _, _, _, F.excBase_ValueError, h1, He.glo_ok X G c2, h2, h3, h4, hc⟩
end Mi
end
section
set_option maxRecDepth 100000
namespace Mi
open PySem
/-- is_within -/
def F0 : Fd := ⟨3, 3, (.cons (.ret (.and (.isi .int (.var 0)) (.and (.not (.isi .bool (.var 0))) (.chain .le .le (.var 1) (.var 0) (.var 2))))) .nil)⟩
/-- has_items -/
def F1 : Fd := ⟨3, 3, (.cons (.ret (.and (.isi .tuple (.var 0)) (.chain .le .le (.var 1) (.bf .len (.cons (.var 0) .nil)) (.var 2)))) .nil)⟩
/-- is_door -/
def F2 : Fd := ⟨2, 2, (.cons (.ret (.and (.call 1 (.cons (.var 1) (.cons (.con (.int 2)) (.cons (.con (.int 2)) .nil)))) (.and (.call 0 (.cons (.ix (.var 1) (.con (.int 0))) (.cons (.con (.int 0)) (.cons (.con (.int 1)) .nil)))) (.call 0 (.cons (.ix (.var 1) (.con (.int 1))) (.cons (.con (.int 1)) (.cons (.var 0) .nil))))))) .nil)⟩
/-- is_lip -/
def F3 : Fd := ⟨3, 4, (.cons (.iff (.or (.not (.call 1 (.cons (.var 2) (.cons (.con (.int 3)) (.cons (.con (.int 3)) .nil))))) (.not (.bf .all (.cons (.lc (.call 0 (.cons (.var 3) (.cons (.con (.int 0)) (.cons (.bin .sub (.var 1) (.con (.int 1))) .nil)))) (.nm 3) (.seq (.slice (.var 2) .none (.some (.con (.int 2))))) .none [3]) .nil)))) (.cons (.ret (.con (.bl false))) .nil) .nil) (.cons (.ret (.and (.cmp .ne (.ix (.var 2) (.con (.int 0))) (.ix (.var 2) (.con (.int 1)))) (.call 0 (.cons (.ix (.var 2) (.con (.int 2))) (.cons (.neg (.var 0)) (.cons (.var 0) .nil)))))) .nil))⟩
/-- has_shape -/
def F4 : Fd := ⟨1, 6, (.cons (.iff (.or (.not (.call 1 (.cons (.var 0) (.cons (.con (.int 3)) (.cons (.con (.int 3)) .nil))))) (.not (.call 0 (.cons (.ix (.var 0) (.con (.int 0))) (.cons (.con (.int 2)) (.cons (.con (.int 5)) .nil)))))) (.cons (.ret (.con (.bl false))) .nil) .nil) (.cons (.asg (.tp (.cons (.nm 1) (.cons (.nm 2) (.cons (.nm 3) .nil)))) (.var 0)) (.cons (.iff (.or (.not (.call 1 (.cons (.var 2) (.cons (.con (.int 2)) (.cons (.con (.int 3)) .nil))))) (.not (.bf .all (.cons (.lc (.call 2 (.cons (.var 1) (.cons (.var 4) .nil))) (.nm 4) (.seq (.var 2)) .none [4]) .nil)))) (.cons (.ret (.con (.bl false))) .nil) .nil) (.cons (.iff (.or (.not (.call 1 (.cons (.var 3) (.cons (.con (.int 0)) (.cons (.con (.int 4)) .nil))))) (.not (.bf .all (.cons (.lc (.call 3 (.cons (.var 1) (.cons (.bf .len (.cons (.var 2) .nil)) (.cons (.var 4) .nil)))) (.nm 4) (.seq (.var 3)) .none [4]) .nil)))) (.cons (.ret (.con (.bl false))) .nil) .nil) (.cons (.ret (.bf .all (.cons (.lc (.cmp .lt (.var 4) (.var 5)) (.tp (.cons (.nm 4) (.cons (.nm 5) .nil))) (.zip (.var 3) (.slice (.var 3) (.some (.con (.int 1))) .none)) .none [4, 5]) .nil))) .nil)))))⟩
/-- goes_left -/
def F5 : Fd := ⟨3, 3, (.cons (.ret (.and (.cmp .lt (.var 1) (.var 2)) (.cmp .eq (.ix (.ix (.var 0) (.var 1)) (.con (.int 0))) (.ix (.ix (.var 0) (.var 2)) (.con (.int 0)))))) .nil)⟩
/-- bounds_of -/
def F6 : Fd := ⟨1, 12, (.cons (.asg (.tp (.cons (.nm 1) (.cons (.nm 2) (.cons (.nm 3) .nil)))) (.var 0)) (.cons (.set 4 (.lrng (.cons (.bf .len (.cons (.var 2) .nil)) .nil))) (.cons (.set 5 (.bin .add (.lc (.tup (.cons (.bin .add (.var 6) (.con (.int 1))) (.cons (.con (.int 0)) (.cons (.bin .sub (.var 1) (.ix (.ix (.var 2) (.var 6)) (.con (.int 1)))) .nil)))) (.nm 6) (.seq (.var 4)) .none [6]) (.lc (.tup (.cons (.con (.int 0)) (.cons (.bin .add (.var 6) (.con (.int 1))) (.cons (.con (.int 0)) .nil)))) (.nm 6) (.seq (.var 4)) .none [6]))) (.cons (.set 7 (.lc2 (.tup (.cons (.var 8) (.cons (.var 9) .nil))) (.nm 8) (.seq (.var 4)) .none (.nm 9) (.seq (.var 4)) (.some (.call 5 (.cons (.var 2) (.cons (.var 8) (.cons (.var 9) .nil))))) [8, 9] [9])) (.cons (.set 10 (.lc (.tup (.cons (.bin .add (.var 8) (.con (.int 1))) (.cons (.bin .add (.var 9) (.con (.int 1))) (.cons (.neg (.ix (.ix (.var 2) (.var 8)) (.con (.int 1)))) .nil)))) (.tp (.cons (.nm 8) (.cons (.nm 9) .nil))) (.seq (.var 7)) .none [8, 9])) (.cons (.ret (.bin .add (.bin .add (.var 5) (.var 10)) (.lc (.tup (.cons (.bin .add (.var 8) (.con (.int 1))) (.cons (.bin .add (.var 9) (.con (.int 1))) (.cons (.var 11) .nil)))) (.tp (.cons (.nm 8) (.cons (.nm 9) (.cons (.nm 11) .nil)))) (.seq (.var 3)) .none [8, 9, 11]))) .nil))))))⟩
/-- told_bound -/
def F7 : Fd := ⟨3, 7, (.cons (.set 3 (.lc (.var 6) (.tp (.cons (.nm 4) (.cons (.nm 5) (.cons (.nm 6) .nil)))) (.seq (.var 0)) (.some (.cmp .eq (.tup (.cons (.var 4) (.cons (.var 5) .nil))) (.tup (.cons (.var 1) (.cons (.var 2) .nil))))) [4, 5, 6])) (.cons (.ret (.bf .min (.cons (.bin .add (.lst (.cons (.ife (.cmp .eq (.var 1) (.var 2)) (.con (.int 0)) (.glob (Str.ofString "FAR") 0)) .nil)) (.var 3)) .nil))) .nil))⟩
/-- closed -/
def F8 : Fd := ⟨2, 10, (.cons (.set 2 (.lrng (.cons (.var 0) .nil))) (.cons (.set 3 (.lc (.lc (.call 7 (.cons (.var 1) (.cons (.var 5) (.cons (.var 4) .nil)))) (.nm 4) (.seq (.var 2)) .none [4]) (.nm 5) (.seq (.var 2)) .none [5])) (.cons (.for_ (.nm 6) (.seq (.var 2)) (.cons (.set 7 (.ix (.var 3) (.var 6))) (.cons (.set 3 (.lc (.lc (.bf .min (.cons (.ix (.var 8) (.var 4)) (.cons (.bin .add (.ix (.var 8) (.var 6)) (.ix (.var 7) (.var 4))) .nil))) (.nm 4) (.seq (.var 2)) .none [4]) (.nm 8) (.seq (.var 3)) .none [8])) .nil))) (.cons (.ret (.ife (.bf .all (.cons (.lc (.cmp .ge (.ix (.ix (.var 3) (.var 9)) (.var 9)) (.con (.int 0))) (.nm 9) (.seq (.var 2)) .none [9]) .nil)) (.var 3) (.con .non))) .nil))))⟩
/-- table_of -/
def F9 : Fd := ⟨1, 1, (.cons (.ret (.call 8 (.cons (.bin .add (.bf .len (.cons (.ix (.var 0) (.con (.int 1))) .nil)) (.con (.int 1))) (.cons (.call 6 (.cons (.var 0) .nil)) .nil)))) .nil)⟩
/-- is_cupboard_value -/
def F10 : Fd := ⟨1, 1, (.cons (.ret (.and (.call 4 (.cons (.var 0) .nil)) (.notn (.call 9 (.cons (.var 0) .nil))))) .nil)⟩
/-- divisor -/
def F11 : Fd := ⟨2, 2, (.cons (.while_ (.cmp .gt (.var 1) (.con (.int 0))) (.cons (.par2 0 1 false false (.var 1) (.bin .mod (.var 0) (.var 1))) .nil)) (.cons (.ret (.var 0)) .nil))⟩
/-- lowest -/
def F12 : Fd := ⟨2, 3, (.cons (.set 2 (.call 11 (.cons (.bf .abs (.cons (.var 0) .nil)) (.cons (.var 1) .nil)))) (.cons (.ret (.tup (.cons (.bin .fdiv (.var 0) (.var 2)) (.cons (.bin .fdiv (.var 1) (.var 2)) .nil)))) .nil))⟩
/-- less_by -/
def F13 : Fd := ⟨2, 2, (.cons (.ret (.call 12 (.cons (.bin .sub (.bin .mul (.ix (.var 0) (.con (.int 0))) (.ix (.var 1) (.con (.int 1)))) (.bin .mul (.ix (.var 1) (.con (.int 0))) (.ix (.var 0) (.con (.int 1))))) (.cons (.bin .mul (.ix (.var 0) (.con (.int 1))) (.ix (.var 1) (.con (.int 1)))) .nil)))) .nil)⟩
/-- is_fraction -/
def F14 : Fd := ⟨1, 1, (.cons (.iff (.or (.not (.call 1 (.cons (.var 0) (.cons (.con (.int 2)) (.cons (.con (.int 2)) .nil))))) (.or (.not (.call 0 (.cons (.ix (.var 0) (.con (.int 0))) (.cons (.con (.int 0)) (.cons (.bin .pow (.con (.int 10)) (.con (.int 9))) .nil))))) (.not (.call 0 (.cons (.ix (.var 0) (.con (.int 1))) (.cons (.con (.int 1)) (.cons (.bin .pow (.con (.int 10)) (.con (.int 9))) .nil))))))) (.cons (.ret (.con (.bl false))) .nil) .nil) (.cons (.ret (.cmp .eq (.call 11 (.cons (.ix (.var 0) (.con (.int 0))) (.cons (.ix (.var 0) (.con (.int 1))) .nil))) (.con (.int 1)))) .nil))⟩
/-- is_places_value -/
def F15 : Fd := ⟨2, 8, (.cons (.iff (.or (.not (.call 1 (.cons (.var 1) (.cons (.bf .len (.cons (.ix (.var 0) (.con (.int 1))) .nil)) (.cons (.bf .len (.cons (.ix (.var 0) (.con (.int 1))) .nil)) .nil))))) (.not (.bf .all (.cons (.lc (.call 14 (.cons (.var 2) .nil)) (.nm 2) (.seq (.var 1)) .none [2]) .nil)))) (.cons (.ret (.con (.bl false))) .nil) .nil) (.cons (.set 3 (.bin .add (.tup (.cons (.tup (.cons (.con (.int 0)) (.cons (.con (.int 1)) .nil))) .nil)) (.var 1))) (.cons (.for_ (.tp (.cons (.nm 2) (.cons (.nm 4) (.cons (.nm 5) .nil)))) (.seq (.call 6 (.cons (.var 0) .nil))) (.cons (.asg (.tp (.cons (.nm 6) (.cons (.nm 7) .nil))) (.call 13 (.cons (.ix (.var 3) (.var 2)) (.cons (.ix (.var 3) (.var 4)) .nil)))) (.cons (.iff (.cmp .gt (.var 6) (.bin .mul (.var 5) (.var 7))) (.cons (.ret (.con (.bl false))) .nil) .nil) .nil))) (.cons (.ret (.con (.bl true))) .nil))))⟩
/-- need_cupboard -/
def F16 : Fd := ⟨1, 1, (.cons (.iff (.not (.call 10 (.cons (.var 0) .nil))) (.cons (.raise 0) .nil) .nil) .nil)⟩
/-- need_places -/
def F17 : Fd := ⟨2, 2, (.cons (.iff (.not (.call 15 (.cons (.var 0) (.cons (.var 1) .nil)))) (.cons (.raise 1) .nil) .nil) .nil)⟩
/-- is_push_value -/
def F18 : Fd := ⟨2, 5, (.cons (.asg (.tp (.cons (.nm 2) (.cons (.nm 3) (.cons (.nm 4) .nil)))) (.var 0)) (.cons (.iff (.or (.not (.call 1 (.cons (.var 1) (.cons (.con (.int 3)) (.cons (.con (.int 3)) .nil))))) (.or (.not (.isi .str (.ix (.var 1) (.con (.int 0))))) (.not (.call 0 (.cons (.ix (.var 1) (.con (.int 1))) (.cons (.con (.int 0)) (.cons (.bin .sub (.bf .len (.cons (.var 3) .nil)) (.con (.int 1))) .nil))))))) (.cons (.ret (.con (.bl false))) .nil) .nil) (.cons (.iff (.cmp .eq (.ix (.var 1) (.con (.int 0))) (.con (.str (Str.ofString "to")))) (.cons (.ret (.call 0 (.cons (.ix (.var 1) (.con (.int 2))) (.cons (.con (.int 0)) (.cons (.var 2) .nil))))) .nil) .nil) (.cons (.iff (.cmp .eq (.ix (.var 1) (.con (.int 0))) (.con (.str (Str.ofString "by")))) (.cons (.ret (.and (.call 0 (.cons (.ix (.var 1) (.con (.int 2))) (.cons (.neg (.var 2)) (.cons (.var 2) .nil)))) (.cmp .ne (.ix (.var 1) (.con (.int 2))) (.con (.int 0))))) .nil) .nil) (.cons (.ret (.and (.cmp .eq (.ix (.var 1) (.con (.int 0))) (.con (.str (Str.ofString "end")))) (.and (.isi .str (.ix (.var 1) (.con (.int 2)))) (.cmp .inn (.ix (.var 1) (.con (.int 2))) (.glob (Str.ofString "SIDES") 2))))) .nil)))))⟩
/-- are_pushes -/
def F19 : Fd := ⟨3, 4, (.cons (.ret (.and (.call 1 (.cons (.var 1) (.cons (.con (.int 0)) (.cons (.var 2) .nil)))) (.bf .all (.cons (.lc (.call 18 (.cons (.var 0) (.cons (.var 3) .nil))) (.nm 3) (.seq (.var 1)) .none [3]) .nil)))) .nil)⟩
/-- is_script_value -/
def F20 : Fd := ⟨2, 2, (.cons (.ret (.call 19 (.cons (.var 0) (.cons (.var 1) (.cons (.glob (Str.ofString "MOST_PUSHES") 1) .nil))))) .nil)⟩
/-- plus -/
def F21 : Fd := ⟨2, 2, (.cons (.ret (.tup (.cons (.bin .add (.ix (.var 0) (.con (.int 0))) (.bin .mul (.var 1) (.ix (.var 0) (.con (.int 1))))) (.cons (.ix (.var 0) (.con (.int 1))) .nil)))) .nil)⟩
/-- is_less -/
def F22 : Fd := ⟨2, 2, (.cons (.ret (.cmp .lt (.bin .mul (.ix (.var 0) (.con (.int 0))) (.ix (.var 1) (.con (.int 1)))) (.bin .mul (.ix (.var 1) (.con (.int 0))) (.ix (.var 0) (.con (.int 1)))))) .nil)⟩
/-- goal_of -/
def F23 : Fd := ⟨4, 10, (.cons (.asg (.tp (.cons (.nm 4) (.cons (.nm 5) (.cons (.nm 6) .nil)))) (.var 3)) (.cons (.par2 7 8 false false (.tup (.cons (.neg (.ix (.ix (.var 1) (.con (.int 0))) (.bin .add (.var 5) (.con (.int 1))))) (.cons (.con (.int 1)) .nil))) (.tup (.cons (.ix (.ix (.var 1) (.bin .add (.var 5) (.con (.int 1)))) (.con (.int 0))) (.cons (.con (.int 1)) .nil)))) (.cons (.iff (.cmp .eq (.var 4) (.con (.str (Str.ofString "end")))) (.cons (.ret (.ife (.cmp .eq (.var 6) (.con (.str (Str.ofString "left")))) (.var 7) (.var 8))) .nil) .nil) (.cons (.set 9 (.ife (.cmp .eq (.var 4) (.con (.str (Str.ofString "to")))) (.tup (.cons (.var 6) (.cons (.con (.int 1)) .nil))) (.call 21 (.cons (.ix (.var 2) (.var 5)) (.cons (.var 6) .nil))))) (.cons (.iff (.call 22 (.cons (.var 9) (.cons (.var 7) .nil))) (.cons (.ret (.var 7)) .nil) .nil) (.cons (.ret (.ife (.call 22 (.cons (.var 8) (.cons (.var 9) .nil))) (.var 8) (.var 9))) .nil))))))⟩
/-- pushed -/
def F24 : Fd := ⟨4, 11, (.cons (.par2 4 5 false false (.ix (.var 3) (.con (.int 1))) (.call 23 (.cons (.var 0) (.cons (.var 1) (.cons (.var 2) (.cons (.var 3) .nil)))))) (.cons (.set 6 (.lrng (.cons (.bf .len (.cons (.var 2) .nil)) .nil))) (.cons (.iff (.call 22 (.cons (.ix (.var 2) (.var 4)) (.cons (.var 5) .nil))) (.cons (.set 7 (.lc (.call 21 (.cons (.var 5) (.cons (.neg (.ix (.ix (.var 1) (.bin .add (.var 4) (.con (.int 1)))) (.bin .add (.var 8) (.con (.int 1))))) .nil))) (.nm 8) (.seq (.var 6)) .none [8])) (.cons (.ret (.bf .tuple (.cons (.lc (.ife (.call 22 (.cons (.ix (.var 2) (.var 9)) (.cons (.ix (.var 7) (.var 9)) .nil))) (.ix (.var 7) (.var 9)) (.ix (.var 2) (.var 9))) (.nm 9) (.seq (.var 6)) .none [9]) .nil))) .nil)) .nil) (.cons (.set 10 (.lc (.call 21 (.cons (.var 5) (.cons (.ix (.ix (.var 1) (.bin .add (.var 8) (.con (.int 1)))) (.bin .add (.var 4) (.con (.int 1)))) .nil))) (.nm 8) (.seq (.var 6)) .none [8])) (.cons (.ret (.bf .tuple (.cons (.lc (.ife (.call 22 (.cons (.ix (.var 10) (.var 9)) (.cons (.ix (.var 2) (.var 9)) .nil))) (.ix (.var 10) (.var 9)) (.ix (.var 2) (.var 9))) (.nm 9) (.seq (.var 6)) .none [9]) .nil))) .nil)))))⟩
/-- run -/
def F25 : Fd := ⟨3, 5, (.cons (.set 3 (.call 9 (.cons (.var 0) .nil))) (.cons (.for_ (.nm 4) (.seq (.var 1)) (.cons (.set 2 (.call 24 (.cons (.var 0) (.cons (.var 3) (.cons (.var 2) (.cons (.var 4) .nil)))))) .nil)) (.cons (.ret (.var 2)) .nil)))⟩
/-- need_script -/
def F26 : Fd := ⟨2, 2, (.cons (.iff (.not (.call 20 (.cons (.var 0) (.cons (.var 1) .nil)))) (.cons (.raise 2) .nil) .nil) .nil)⟩
/-- behind -/
def F27 : Fd := ⟨3, 3, (.cons (.ex (.call 16 (.cons (.var 0) .nil))) (.cons (.ex (.call 26 (.cons (.var 0) (.cons (.var 1) .nil)))) (.cons (.ex (.call 17 (.cons (.var 0) (.cons (.var 2) .nil)))) (.cons (.ret (.call 25 (.cons (.var 0) (.cons (.var 1) (.cons (.var 2) .nil))))) .nil))))⟩
/-- _law_deck -/
def F28 : Fd := ⟨2, 2, (.cons (.iff (.cmp .ge (.var 0) (.bin .pow (.con (.int 10)) (.con (.int 18)))) (.cons (.ret (.mkb (.cons (.bin .sub (.var 0) (.bin .pow (.con (.int 10)) (.con (.int 18)))) (.cons (.bin .mod (.var 0) (.con (.int 2147483579))) (.cons (.var 1) .nil))))) .nil) .nil) (.cons (.ret (.mkb (.cons (.con (.int 0)) (.cons (.bin .mod (.var 0) (.con (.int 2147483579))) (.cons (.var 1) .nil))))) .nil))⟩
/-- _law_pick -/
def F29 : Fd := ⟨2, 4, (.cons (.iff (.cmp .gt (.ix (.var 0) (.con (.int 0))) (.con (.int 1))) (.cons (.set 2 (.bin .mod (.bf .int (.cons (.ix (.var 0) (.con (.int 0))) .nil)) (.var 1))) (.cons (.setx (.var 0) (.con (.int 0)) (.bin .fdiv (.ix (.var 0) (.con (.int 0))) (.var 1))) (.cons (.ret (.var 2)) .nil))) .nil) (.cons (.setx (.var 0) (.con (.int 2)) (.bin .add (.ix (.var 0) (.con (.int 2))) (.con (.int 1)))) (.cons (.set 3 (.bin .mod (.bin .pow (.bin .add (.ix (.var 0) (.con (.int 1))) (.bin .mul (.con (.int 15485867)) (.ix (.var 0) (.con (.int 2))))) (.con (.int 5))) (.con (.int 2147483647)))) (.cons (.set 2 (.bin .fdiv (.bin .mod (.bin .pow (.bin .add (.var 3) (.bin .mul (.con (.int 7919)) (.ix (.var 0) (.con (.int 2))))) (.con (.int 3))) (.con (.int 2147483629))) (.con (.int 32)))) (.cons (.ret (.bin .mod (.bf .int (.cons (.var 2) .nil)) (.var 1))) .nil)))))⟩
/-- _law_one -/
def F30 : Fd := ⟨2, 2, (.cons (.ret (.ix (.var 1) (.call 29 (.cons (.var 0) (.cons (.bf .len (.cons (.var 1) .nil)) .nil))))) .nil)⟩
/-- _law_bounds -/
def F31 : Fd := ⟨1, 8, (.cons (.asg (.tp (.cons (.nm 1) (.cons (.nm 2) (.cons (.nm 3) .nil)))) (.var 0)) (.cons (.set 4 (.lst .nil)) (.cons (.for_ (.nm 5) (.rng (.cons (.bf .len (.cons (.var 2) .nil)) .nil)) (.cons (.set 4 (.bin .add (.var 4) (.lst (.cons (.tup (.cons (.bin .add (.var 5) (.con (.int 1))) (.cons (.con (.int 0)) (.cons (.bin .sub (.var 1) (.ix (.ix (.var 2) (.var 5)) (.con (.int 1)))) .nil)))) (.cons (.tup (.cons (.con (.int 0)) (.cons (.bin .add (.var 5) (.con (.int 1))) (.cons (.con (.int 0)) .nil)))) .nil))))) (.cons (.for_ (.nm 6) (.rng (.cons (.var 5) .nil)) (.cons (.set 4 (.bin .add (.var 4) (.rep (.lst (.cons (.tup (.cons (.bin .add (.var 6) (.con (.int 1))) (.cons (.bin .add (.var 5) (.con (.int 1))) (.cons (.bin .sub (.con (.int 0)) (.ix (.ix (.var 2) (.var 6)) (.con (.int 1)))) .nil)))) .nil)) (.bf .int (.cons (.cmp .eq (.ix (.ix (.var 2) (.var 6)) (.con (.int 0))) (.ix (.ix (.var 2) (.var 5)) (.con (.int 0)))) .nil))))) .nil)) .nil))) (.cons (.ret (.bin .add (.var 4) (.lc (.tup (.cons (.bin .add (.ix (.var 7) (.con (.int 0))) (.con (.int 1))) (.cons (.bin .add (.ix (.var 7) (.con (.int 1))) (.con (.int 1))) (.cons (.ix (.var 7) (.con (.int 2))) .nil)))) (.nm 7) (.seq (.var 3)) .none [7]))) .nil))))⟩
/-- _law_moved -/
def F32 : Fd := ⟨4, 10, (.cons (.seto 4 (.bf .list (.cons (.var 2) .nil))) (.cons (.for_ (.nm 5) (.rng (.cons (.bin .add (.bf .len (.cons (.var 2) .nil)) (.con (.int 2))) .nil)) (.cons (.set 6 (.con (.bl true))) (.cons (.for_ (.tp (.cons (.nm 7) (.cons (.nm 8) (.cons (.nm 9) .nil)))) (.seq (.var 0)) (.cons (.iff (.cmp .gt (.bin .sub (.ix (.own 4) (.var 7)) (.ix (.own 4) (.var 8))) (.bin .mul (.var 9) (.var 1))) (.cons (.set 6 (.con (.bl false))) (.cons (.iff (.cmp .gt (.var 3) (.con (.int 0))) (.cons (.setxo 4 (.var 8) (.bin .sub (.ix (.own 4) (.var 7)) (.bin .mul (.var 9) (.var 1)))) .nil) (.cons (.setxo 4 (.var 7) (.bin .add (.ix (.own 4) (.var 8)) (.bin .mul (.var 9) (.var 1)))) .nil)) .nil)) .nil) .nil)) (.cons (.iff (.var 6) (.cons (.ret (.ife (.cmp .eq (.ix (.var 4) (.con (.int 0))) (.con (.int 0))) (.bf .tuple (.cons (.var 4) .nil)) (.con .non))) .nil) .nil) .nil)))) (.cons (.ret (.con .non)) .nil)))⟩
/-- _law_lows -/
def F33 : Fd := ⟨2, 2, (.cons (.ret (.call 32 (.cons (.call 31 (.cons (.var 0) .nil)) (.cons (.var 1) (.cons (.bin .mul (.tup (.cons (.con (.int 0)) .nil)) (.bin .add (.bf .len (.cons (.ix (.var 0) (.con (.int 1))) .nil)) (.con (.int 1)))) (.cons (.con (.int 1)) .nil)))))) .nil)⟩
/-- _law_highs -/
def F34 : Fd := ⟨2, 2, (.cons (.ret (.call 32 (.cons (.call 31 (.cons (.var 0) .nil)) (.cons (.var 1) (.cons (.bin .add (.tup (.cons (.con (.int 0)) .nil)) (.bin .mul (.tup (.cons (.bin .mul (.ix (.var 0) (.con (.int 0))) (.var 1)) .nil)) (.bf .len (.cons (.ix (.var 0) (.con (.int 1))) .nil)))) (.cons (.neg (.con (.int 1))) .nil)))))) .nil)⟩
/-- _law_door -/
def F35 : Fd := ⟨2, 2, (.cons (.ret (.tup (.cons (.call 29 (.cons (.var 0) (.cons (.con (.int 2)) .nil))) (.cons (.bin .add (.con (.int 1)) (.call 29 (.cons (.var 0) (.cons (.bf .max (.cons (.con (.int 1)) (.cons (.bin .sub (.var 1) (.con (.int 1))) .nil))) .nil)))) .nil)))) .nil)⟩
/-- _law_any_cupboard -/
def F36 : Fd := ⟨3, 9, (.cons (.par2 3 4 false false (.bf .tuple (.cons (.lc (.call 35 (.cons (.var 0) (.cons (.var 1) .nil))) (.nm 5) (.rng (.cons (.var 2) .nil)) .none [5]) .nil)) (.tup .nil)) (.cons (.for_ (.nm 6) (.rng (.cons (.call 29 (.cons (.var 0) (.cons (.con (.int 4)) .nil))) .nil)) (.cons (.set 7 (.call 29 (.cons (.var 0) (.cons (.var 2) .nil)))) (.cons (.set 8 (.bin .mod (.bf .int (.cons (.bin .add (.bin .add (.var 7) (.con (.int 1))) (.call 29 (.cons (.var 0) (.cons (.bin .sub (.var 2) (.con (.int 1))) .nil)))) .nil)) (.var 2))) (.cons (.set 4 (.bin .add (.var 4) (.tup (.cons (.tup (.cons (.var 7) (.cons (.var 8) (.cons (.bin .sub (.call 29 (.cons (.var 0) (.cons (.bin .add (.var 1) (.con (.int 2))) .nil))) (.con (.int 1))) .nil)))) .nil)))) .nil)))) (.cons (.ret (.tup (.cons (.var 1) (.cons (.var 3) (.cons (.bf .tuple (.cons (.sset (.var 4)) .nil)) .nil))))) .nil)))⟩
/-- _law_cupboard -/
def F37 : Fd := ⟨3, 5, (.cons (.for_ (.nm 3) (.rng (.cons (.con (.int 12)) .nil)) (.cons (.set 4 (.call 36 (.cons (.var 0) (.cons (.bin .add (.con (.int 2)) (.call 29 (.cons (.var 0) (.cons (.bin .sub (.var 1) (.con (.int 1))) .nil)))) (.cons (.bin .add (.con (.int 2)) (.call 29 (.cons (.var 0) (.cons (.bin .sub (.var 2) (.con (.int 1))) .nil)))) .nil))))) (.cons (.iff (.and (.notn (.call 33 (.cons (.var 4) (.cons (.con (.int 1)) .nil)))) (.notn (.call 34 (.cons (.var 4) (.cons (.con (.int 1)) .nil))))) (.cons (.ret (.var 4)) .nil) .nil) .nil))) (.cons (.ret (.tup (.cons (.con (.int 4)) (.cons (.tup (.cons (.tup (.cons (.con (.int 0)) (.cons (.con (.int 2)) .nil))) (.cons (.tup (.cons (.con (.int 1)) (.cons (.con (.int 2)) .nil))) .nil))) (.cons (.tup (.cons (.tup (.cons (.con (.int 1)) (.cons (.con (.int 0)) (.cons (.con (.int 1)) .nil)))) .nil)) .nil))))) .nil))⟩
/-- _law_push -/
def F38 : Fd := ⟨2, 6, (.cons (.par2 2 3 false false (.ix (.var 1) (.con (.int 0))) (.call 29 (.cons (.var 0) (.cons (.bf .len (.cons (.ix (.var 1) (.con (.int 1))) .nil)) .nil)))) (.cons (.set 4 (.call 29 (.cons (.var 0) (.cons (.con (.int 5)) .nil)))) (.cons (.iff (.cmp .eq (.var 4) (.con (.int 0))) (.cons (.ret (.tup (.cons (.con (.str (Str.ofString "end"))) (.cons (.var 3) (.cons (.call 30 (.cons (.var 0) (.cons (.lst (.cons (.con (.str (Str.ofString "left"))) (.cons (.con (.str (Str.ofString "right"))) .nil))) .nil))) .nil))))) .nil) .nil) (.cons (.iff (.cmp .lt (.var 4) (.con (.int 3))) (.cons (.ret (.tup (.cons (.con (.str (Str.ofString "to"))) (.cons (.var 3) (.cons (.call 29 (.cons (.var 0) (.cons (.bin .add (.var 2) (.con (.int 1))) .nil))) .nil))))) .nil) .nil) (.cons (.set 5 (.ife (.cmp .gt (.call 29 (.cons (.var 0) (.cons (.con (.int 4)) .nil))) (.con (.int 0))) (.bin .add (.con (.int 1)) (.call 29 (.cons (.var 0) (.cons (.bf .min (.cons (.con (.int 2)) (.cons (.var 2) .nil))) .nil)))) (.var 2))) (.cons (.ret (.tup (.cons (.con (.str (Str.ofString "by"))) (.cons (.var 3) (.cons (.call 30 (.cons (.var 0) (.cons (.lst (.cons (.var 5) (.cons (.bin .sub (.con (.int 0)) (.var 5)) .nil))) .nil))) .nil))))) .nil))))))⟩
/-- _law_script -/
def F39 : Fd := ⟨3, 4, (.cons (.ret (.bf .tuple (.cons (.lc (.call 38 (.cons (.var 0) (.cons (.var 1) .nil))) (.nm 3) (.rng (.cons (.call 29 (.cons (.var 0) (.cons (.bin .add (.var 2) (.con (.int 1))) .nil))) .nil)) .none [3]) .nil))) .nil)⟩
/-- _law_frac -/
def F40 : Fd := ⟨2, 4, (.cons (.par2 2 3 false false (.var 0) (.var 1)) (.cons (.while_ (.cmp .gt (.var 3) (.con (.int 0))) (.cons (.par2 2 3 false false (.var 3) (.bin .mod (.var 2) (.var 3))) .nil)) (.cons (.ret (.tup (.cons (.bin .fdiv (.var 0) (.var 2)) (.cons (.bin .fdiv (.var 1) (.var 2)) .nil)))) .nil)))⟩
/-- _law_told -/
def F41 : Fd := ⟨2, 3, (.cons (.ret (.bf .tuple (.cons (.lc (.call 40 (.cons (.var 2) (.cons (.var 0) .nil))) (.nm 2) (.seq (.slice (.var 1) (.some (.con (.int 1))) .none)) .none [2]) .nil))) .nil)⟩
/-- _law_keeps -/
def F42 : Fd := ⟨3, 7, (.cons (.set 3 (.lc (.con (.int 1)) (.tp (.cons (.nm 4) (.cons (.nm 5) (.cons (.nm 6) .nil)))) (.seq (.call 31 (.cons (.var 0) .nil))) (.some (.cmp .gt (.bin .sub (.ix (.var 2) (.var 4)) (.ix (.var 2) (.var 5))) (.bin .mul (.var 6) (.var 1)))) [4, 5, 6])) (.cons (.ret (.cmp .eq (.var 3) (.lst .nil))) .nil))⟩
/-- _law_grid -/
def F43 : Fd := ⟨2, 8, (.cons (.set 2 (.lst (.cons (.tup (.cons (.con (.int 0)) .nil)) .nil))) (.cons (.for_ (.tp (.cons (.nm 3) (.cons (.nm 4) .nil))) (.seq (.ix (.var 0) (.con (.int 1)))) (.cons (.set 5 (.lst .nil)) (.cons (.for_ (.nm 6) (.seq (.var 2)) (.cons (.set 5 (.bin .add (.var 5) (.lc (.bin .add (.var 6) (.tup (.cons (.var 7) .nil))) (.nm 7) (.rng (.cons (.bin .add (.bin .mul (.bin .sub (.ix (.var 0) (.con (.int 0))) (.var 4)) (.var 1)) (.con (.int 1))) .nil)) .none [7]))) .nil)) (.cons (.set 2 (.var 5)) .nil)))) (.cons (.ret (.lc (.var 6) (.nm 6) (.seq (.var 2)) (.some (.call 42 (.cons (.var 0) (.cons (.var 1) (.cons (.var 6) .nil))))) [6])) .nil)))⟩
/-- _law_start -/
def F44 : Fd := ⟨2, 12, (.cons (.par2 2 3 false false (.call 43 (.cons (.var 1) (.cons (.con (.int 1)) .nil))) (.call 30 (.cons (.var 0) (.cons (.lst (.cons (.con (.int 1)) (.cons (.con (.int 2)) (.cons (.con (.int 3)) (.cons (.con (.int 4)) (.cons (.con (.int 7)) (.cons (.con (.int 12)) (.cons (.con (.int 1000003)) .nil)))))))) .nil)))) (.cons (.set 4 (.lc (.call 30 (.cons (.var 0) (.cons (.var 2) .nil))) (.nm 5) (.rng (.cons (.con (.int 3)) .nil)) .none [5])) (.cons (.set 6 (.call 29 (.cons (.var 0) (.cons (.bin .add (.var 3) (.con (.int 1))) .nil)))) (.cons (.set 7 (.call 29 (.cons (.var 0) (.cons (.bin .add (.bin .sub (.var 3) (.var 6)) (.con (.int 1))) .nil)))) (.cons (.set 8 (.lst (.cons (.var 6) (.cons (.var 7) (.cons (.bin .sub (.bin .sub (.var 3) (.var 6)) (.var 7)) .nil))))) (.cons (.set 9 (.tup (.cons (.con (.int 0)) .nil))) (.cons (.for_ (.nm 5) (.rng (.cons (.con (.int 1)) (.cons (.bf .len (.cons (.ix (.var 4) (.con (.int 0))) .nil)) .nil))) (.cons (.set 9 (.bin .add (.var 9) (.tup (.cons (.bf .sum (.cons (.lc (.bin .mul (.var 10) (.ix (.var 11) (.var 5))) (.tp (.cons (.nm 10) (.cons (.nm 11) .nil))) (.zip (.var 8) (.var 4)) .none [10, 11]) .nil)) .nil)))) .nil)) (.cons (.ret (.tup (.cons (.var 3) (.cons (.var 9) .nil)))) .nil))))))))⟩
/-- _law_frac_of -/
def F45 : Fd := ⟨2, 4, (.cons (.par2 2 3 false false (.bf .abs (.cons (.var 0) .nil)) (.var 1)) (.cons (.while_ (.cmp .gt (.var 3) (.con (.int 0))) (.cons (.par2 2 3 false false (.var 3) (.bin .mod (.var 2) (.var 3))) .nil)) (.cons (.ret (.tup (.cons (.bin .fdiv (.var 0) (.var 2)) (.cons (.bin .fdiv (.var 1) (.var 2)) .nil)))) .nil)))⟩
/-- _law_worth -/
def F46 : Fd := ⟨2, 2, (.cons (.ret (.call 45 (.cons (.bin .sub (.bin .mul (.ix (.var 0) (.con (.int 0))) (.ix (.var 1) (.con (.int 1)))) (.bin .mul (.ix (.var 1) (.con (.int 0))) (.ix (.var 0) (.con (.int 1))))) (.cons (.bin .mul (.ix (.var 0) (.con (.int 1))) (.ix (.var 1) (.con (.int 1)))) .nil)))) .nil)⟩
/-- _law_farthest -/
def F47 : Fd := ⟨2, 8, (.cons (.set 2 (.lc (.call 46 (.cons (.var 3) (.cons (.var 4) .nil))) (.tp (.cons (.nm 3) (.cons (.nm 4) .nil))) (.zip (.var 0) (.var 1)) .none [3, 4])) (.cons (.set 5 (.tup (.cons (.con (.int 0)) (.cons (.con (.int 1)) .nil)))) (.cons (.for_ (.tp (.cons (.nm 6) (.cons (.nm 7) .nil))) (.seq (.var 2)) (.cons (.iff (.cmp .gt (.bin .mul (.bf .abs (.cons (.var 6) .nil)) (.ix (.var 5) (.con (.int 1)))) (.bin .mul (.ix (.var 5) (.con (.int 0))) (.var 7))) (.cons (.set 5 (.tup (.cons (.bf .abs (.cons (.var 6) .nil)) (.cons (.var 7) .nil)))) .nil) .nil) .nil)) (.cons (.ret (.var 5)) .nil))))⟩
/-- law -/
def F48 : Fd := ⟨1, 26, (.cons (.for_ (.nm 1) (.seq (.slice (.bin .add (.lst (.cons (.con (.int 0)) .nil)) (.var 0)) .none (.some (.con (.int 10))))) (.cons (.set 2 (.call 28 (.cons (.var 1) (.cons (.con (.int 3)) .nil)))) (.cons (.set 3 (.call 37 (.cons (.var 2) (.cons (.con (.int 5)) (.cons (.con (.int 3)) .nil))))) (.cons (.for_ (.nm 4) (.rng (.cons (.con (.int 8)) .nil)) (.cons (.set 5 (.call 39 (.cons (.var 2) (.cons (.var 3) (.cons (.con (.int 6)) .nil))))) (.cons (.asg (.tp (.cons (.nm 6) (.cons (.nm 7) .nil))) (.call 44 (.cons (.var 2) (.cons (.var 3) .nil)))) (.cons (.asg (.tp (.cons (.nm 8) (.cons (.nm 9) .nil))) (.call 44 (.cons (.var 2) (.cons (.var 3) .nil)))) (.cons (.set 10 (.bf .tuple (.cons (.lc (.bin .mul (.var 11) (.var 8)) (.nm 11) (.seq (.var 7)) .none [11]) .nil))) (.cons (.set 12 (.bf .tuple (.cons (.lc (.bin .mul (.var 11) (.var 6)) (.nm 11) (.seq (.var 9)) .none [11]) .nil))) (.cons (.iff (.cmp .eq (.bin .mod (.var 4) (.con (.int 2))) (.con (.int 0))) (.cons (.set 13 (.lzip (.var 10) (.var 12))) (.cons (.par2 10 12 false false (.bf .tuple (.cons (.lc (.bf .min (.cons (.var 14) .nil)) (.nm 14) (.seq (.var 13)) .none [14]) .nil)) (.bf .tuple (.cons (.lc (.bf .max (.cons (.var 14) .nil)) (.nm 14) (.seq (.var 13)) .none [14]) .nil))) .nil)) .nil) (.cons (.set 15 (.lst (.cons (.call 41 (.cons (.bin .mul (.var 6) (.var 8)) (.cons (.var 10) .nil))) (.cons (.call 41 (.cons (.bin .mul (.var 6) (.var 8)) (.cons (.var 12) .nil))) .nil)))) (.cons (.set 16 (.cmp .eq (.lc (.var 17) (.nm 17) (.seq (.bin .add (.ix (.var 15) (.con (.int 0))) (.ix (.var 15) (.con (.int 1))))) (.some (.cmp .gt (.bf .max (.cons (.var 17) .nil)) (.bin .pow (.con (.int 10)) (.con (.int 9))))) [17]) (.lst .nil))) (.cons (.iff (.var 16) (.cons (.set 18 (.lc (.call 27 (.cons (.var 3) (.cons (.var 5) (.cons (.var 19) .nil)))) (.nm 19) (.seq (.var 15)) .none [19])) (.cons (.par2 20 21 false false (.call 47 (.cons (.ix (.var 15) (.con (.int 0))) (.cons (.ix (.var 15) (.con (.int 1))) .nil))) (.call 47 (.cons (.ix (.var 18) (.con (.int 0))) (.cons (.ix (.var 18) (.con (.int 1))) .nil)))) (.cons (.iff (.cmp .gt (.bin .mul (.ix (.var 21) (.con (.int 0))) (.ix (.var 20) (.con (.int 1)))) (.bin .mul (.ix (.var 20) (.con (.int 0))) (.ix (.var 21) (.con (.int 1))))) (.cons (.ret (.con (.bl false))) .nil) .nil) (.cons (.set 22 (.lc (.ix (.call 46 (.cons (.var 23) (.cons (.var 24) .nil))) (.con (.int 0))) (.tp (.cons (.nm 23) (.cons (.nm 24) .nil))) (.zip (.ix (.var 18) (.con (.int 1))) (.ix (.var 18) (.con (.int 0)))) .none [23, 24])) (.cons (.iff (.and (.cmp .eq (.bin .mod (.var 4) (.con (.int 2))) (.con (.int 0))) (.cmp .ne (.lc (.var 25) (.nm 25) (.seq (.var 22)) (.some (.cmp .lt (.var 25) (.con (.int 0)))) [25]) (.lst .nil))) (.cons (.ret (.con (.bl false))) .nil) .nil) .nil))))) .nil) .nil)))))))))) .nil)))) (.cons (.ret (.con (.bl true))) .nil))⟩
/-- fits -/
def F49 : Fd := ⟨3, 6, (.cons (.for_ (.tp (.cons (.nm 3) (.cons (.nm 4) (.cons (.nm 5) .nil)))) (.seq (.var 0)) (.cons (.iff (.and (.cmp .lt (.var 3) (.bf .len (.cons (.var 1) .nil))) (.and (.cmp .lt (.var 4) (.bf .len (.cons (.var 1) .nil))) (.cmp .gt (.bin .sub (.ix (.var 1) (.var 3)) (.ix (.var 1) (.var 4))) (.bin .mul (.var 2) (.var 5))))) (.cons (.ret (.con (.bl false))) .nil) .nil) .nil)) (.cons (.ret (.con (.bl true))) .nil))⟩
/-- rows_of -/
def F50 : Fd := ⟨2, 9, (.cons (.par2 2 3 false false (.call 6 (.cons (.var 0) .nil)) (.lst (.cons (.tup (.cons (.con (.int 0)) .nil)) .nil))) (.cons (.for_ (.tp (.cons (.nm 4) (.cons (.nm 5) .nil))) (.seq (.ix (.var 0) (.con (.int 1)))) (.cons (.set 6 (.lrng (.cons (.bin .add (.bin .mul (.var 1) (.bin .sub (.ix (.var 0) (.con (.int 0))) (.var 5))) (.con (.int 1))) .nil))) (.cons (.set 3 (.lc2 (.bin .add (.var 7) (.tup (.cons (.var 8) .nil))) (.nm 7) (.seq (.var 3)) .none (.nm 8) (.seq (.var 6)) (.some (.call 49 (.cons (.var 2) (.cons (.bin .add (.var 7) (.tup (.cons (.var 8) .nil))) (.cons (.var 1) .nil))))) [7, 8] [8])) .nil))) (.cons (.ret (.var 3)) .nil)))⟩
/-- whole_starts -/
def F51 : Fd := ⟨1, 3, (.cons (.ret (.lc (.bf .tuple (.cons (.lc (.tup (.cons (.var 1) (.cons (.con (.int 1)) .nil))) (.nm 1) (.seq (.slice (.var 2) (.some (.con (.int 1))) .none)) .none [1]) .nil)) (.nm 2) (.seq (.call 50 (.cons (.var 0) (.cons (.con (.int 1)) .nil)))) .none [2])) .nil)⟩
/-- parted -/
def F52 : Fd := ⟨3, 4, (.cons (.for_ (.nm 3) (.seq (.call 51 (.cons (.var 0) .nil))) (.cons (.iff (.cmp .ne (.call 25 (.cons (.var 0) (.cons (.var 1) (.cons (.var 3) .nil)))) (.call 25 (.cons (.var 0) (.cons (.var 2) (.cons (.var 3) .nil))))) (.cons (.ret (.var 3)) .nil) .nil) .nil)) (.cons (.ret (.con .non)) .nil))⟩
/-- need_all -/
def F53 : Fd := ⟨2, 2, (.cons (.ex (.call 16 (.cons (.var 0) .nil))) (.cons (.ex (.call 26 (.cons (.var 0) (.cons (.var 1) .nil)))) .nil))⟩
/-- needless -/
def F54 : Fd := ⟨2, 3, (.cons (.ex (.call 53 (.cons (.var 0) (.cons (.var 1) .nil)))) (.cons (.ret (.lc (.var 2) (.nm 2) (.rng (.cons (.bf .len (.cons (.var 1) .nil)) .nil)) (.some (.isn (.call 52 (.cons (.var 0) (.cons (.var 1) (.cons (.bin .add (.slice (.var 1) .none (.some (.var 2))) (.slice (.var 1) (.some (.bin .add (.var 2) (.con (.int 1)))) .none)) .nil)))))) [2])) .nil))⟩
/-- swapped -/
def F55 : Fd := ⟨2, 2, (.cons (.ret (.bin .add (.bin .add (.slice (.var 0) .none (.some (.var 1))) (.tup (.cons (.ix (.var 0) (.bin .add (.var 1) (.con (.int 1)))) (.cons (.ix (.var 0) (.var 1)) .nil)))) (.slice (.var 0) (.some (.bin .add (.var 1) (.con (.int 2)))) .none))) .nil)⟩
/-- exchangeable -/
def F56 : Fd := ⟨2, 3, (.cons (.ex (.call 53 (.cons (.var 0) (.cons (.var 1) .nil)))) (.cons (.ret (.lc (.var 2) (.nm 2) (.rng (.cons (.bin .sub (.bf .len (.cons (.var 1) .nil)) (.con (.int 1))) .nil)) (.some (.isn (.call 52 (.cons (.var 0) (.cons (.var 1) (.cons (.call 55 (.cons (.var 1) (.cons (.var 2) .nil))) .nil)))))) [2])) .nil))⟩
/-- once_enough -/
def F57 : Fd := ⟨2, 2, (.cons (.ex (.call 53 (.cons (.var 0) (.cons (.var 1) .nil)))) (.cons (.ret (.isn (.call 52 (.cons (.var 0) (.cons (.var 1) (.cons (.bin .add (.var 1) (.var 1)) .nil)))))) .nil))⟩
/-- _law_sort -/
def F58 : Fd := ⟨1, 1, (.cons (.iff (.isi .bool (.var 0)) (.cons (.ret (.con (.int 1))) .nil) .nil) (.cons (.iff (.isi .int (.var 0)) (.cons (.ret (.con (.int 2))) .nil) .nil) (.cons (.iff (.isi .str (.var 0)) (.cons (.ret (.con (.int 3))) .nil) .nil) (.cons (.iff (.isi .list (.var 0)) (.cons (.ret (.con (.int 4))) .nil) .nil) (.cons (.ret (.ife (.isi .tuple (.var 0)) (.con (.int 5)) (.con (.int 6)))) .nil)))))⟩
/-- _law_same -/
def F59 : Fd := ⟨2, 4, (.cons (.iff (.cmp .ne (.call 58 (.cons (.var 0) .nil)) (.call 58 (.cons (.var 1) .nil))) (.cons (.ret (.con (.bl false))) .nil) .nil) (.cons (.iff (.and (.cmp .gt (.call 58 (.cons (.var 0) .nil)) (.con (.int 3))) (.cmp .lt (.call 58 (.cons (.var 0) .nil)) (.con (.int 6)))) (.cons (.iff (.cmp .ne (.bf .len (.cons (.var 0) .nil)) (.bf .len (.cons (.var 1) .nil))) (.cons (.ret (.con (.bl false))) .nil) .nil) (.cons (.ret (.cmp .eq (.lc (.var 2) (.tp (.cons (.nm 2) (.cons (.nm 3) .nil))) (.enum (.var 0)) (.some (.not (.call 59 (.cons (.var 3) (.cons (.ix (.var 1) (.var 2)) .nil))))) [2, 3]) (.lst .nil))) .nil)) .nil) (.cons (.ret (.cmp .eq (.var 0) (.var 1))) .nil)))⟩
/-- _law_pushed -/
def F60 : Fd := ⟨4, 11, (.cons (.asg (.tp (.cons (.nm 4) (.cons (.nm 5) (.cons (.nm 6) .nil)))) (.var 3)) (.cons (.par2 7 8 false false (.ix (.call 33 (.cons (.var 0) (.cons (.var 1) .nil))) (.bin .add (.var 5) (.con (.int 1)))) (.ix (.call 34 (.cons (.var 0) (.cons (.var 1) .nil))) (.bin .add (.var 5) (.con (.int 1))))) (.cons (.set 9 (.ife (.cmp .eq (.var 4) (.con (.str (Str.ofString "by")))) (.bin .add (.ix (.var 2) (.bin .add (.var 5) (.con (.int 1)))) (.bin .mul (.var 6) (.var 1))) (.var 7))) (.cons (.iff (.cmp .eq (.var 4) (.con (.str (Str.ofString "to")))) (.cons (.set 9 (.bin .mul (.var 6) (.var 1))) .nil) .nil) (.cons (.iff (.and (.cmp .eq (.var 4) (.con (.str (Str.ofString "end")))) (.cmp .eq (.var 6) (.con (.str (Str.ofString "right"))))) (.cons (.set 9 (.var 8)) .nil) .nil) (.cons (.set 9 (.bf .min (.cons (.var 8) (.cons (.bf .max (.cons (.var 7) (.cons (.var 9) .nil))) .nil)))) (.cons (.set 10 (.bin .add (.bin .add (.slice (.var 2) .none (.some (.bin .add (.var 5) (.con (.int 1))))) (.tup (.cons (.var 9) .nil))) (.slice (.var 2) (.some (.bin .add (.var 5) (.con (.int 2)))) .none))) (.cons (.iff (.cmp .eq (.var 9) (.ix (.var 2) (.bin .add (.var 5) (.con (.int 1))))) (.cons (.ret (.var 2)) .nil) .nil) (.cons (.ret (.call 32 (.cons (.call 31 (.cons (.var 0) .nil)) (.cons (.var 1) (.cons (.var 10) (.cons (.ife (.cmp .gt (.var 9) (.ix (.var 2) (.bin .add (.var 5) (.con (.int 1))))) (.con (.int 1)) (.neg (.con (.int 1)))) .nil)))))) .nil)))))))))⟩
/-- _law_run -/
def F61 : Fd := ⟨4, 5, (.cons (.for_ (.nm 4) (.seq (.var 3)) (.cons (.set 2 (.call 60 (.cons (.var 0) (.cons (.var 1) (.cons (.var 2) (.cons (.var 4) .nil)))))) .nil)) (.cons (.ret (.var 2)) .nil))⟩
/-- _law_known -/
def F62 : Fd := ⟨0, 2, (.cons (.set 0 (.tup (.cons (.con (.int 4)) (.cons (.tup (.cons (.tup (.cons (.con (.int 0)) (.cons (.con (.int 2)) .nil))) (.cons (.tup (.cons (.con (.int 1)) (.cons (.con (.int 2)) .nil))) .nil))) (.cons (.tup .nil) .nil))))) (.cons (.set 1 (.tup (.cons (.con (.int 5)) (.cons (.tup (.cons (.tup (.cons (.con (.int 0)) (.cons (.con (.int 1)) .nil))) (.cons (.tup (.cons (.con (.int 0)) (.cons (.con (.int 1)) .nil))) (.cons (.tup (.cons (.con (.int 1)) (.cons (.con (.int 2)) .nil))) .nil)))) (.cons (.tup (.cons (.tup (.cons (.con (.int 1)) (.cons (.con (.int 0)) (.cons (.con (.int 2)) .nil)))) .nil)) .nil))))) (.cons (.ret (.lst (.cons (.var 0) (.cons (.bin .add (.slice (.var 0) .none (.some (.con (.int 2)))) (.tup (.cons (.tup (.cons (.tup (.cons (.con (.int 1)) (.cons (.con (.int 0)) (.cons (.con (.int 1)) .nil)))) .nil)) .nil))) (.cons (.var 1) (.cons (.bin .add (.slice (.var 0) .none (.some (.con (.int 2)))) (.tup (.cons (.tup (.cons (.tup (.cons (.con (.int 1)) (.cons (.con (.int 0)) (.cons (.neg (.con (.int 1))) .nil)))) .nil)) .nil))) .nil)))))) .nil)))⟩
/-- _law_alike -/
def F63 : Fd := ⟨4, 6, (.cons (.set 4 (.lc (.var 5) (.nm 5) (.seq (.var 1)) (.some (.cmp .ne (.call 61 (.cons (.var 0) (.cons (.con (.int 1)) (.cons (.var 5) (.cons (.var 2) .nil))))) (.call 61 (.cons (.var 0) (.cons (.con (.int 1)) (.cons (.var 5) (.cons (.var 3) .nil))))))) [5])) (.cons (.ret (.cmp .eq (.var 4) (.lst .nil))) .nil))⟩
/-- are_places -/
def F64 : Fd := ⟨2, 2, (.cons (.ex (.call 16 (.cons (.var 0) .nil))) (.cons (.ret (.call 15 (.cons (.var 0) (.cons (.var 1) .nil)))) .nil))⟩
/-- alike -/
def F65 : Fd := ⟨3, 3, (.cons (.ex (.call 53 (.cons (.var 0) (.cons (.var 1) .nil)))) (.cons (.ex (.call 26 (.cons (.var 0) (.cons (.var 2) .nil)))) (.cons (.ret (.isn (.call 52 (.cons (.var 0) (.cons (.var 1) (.cons (.var 2) .nil)))))) .nil)))⟩
/-- parting -/
def F66 : Fd := ⟨3, 3, (.cons (.ex (.call 53 (.cons (.var 0) (.cons (.var 1) .nil)))) (.cons (.ex (.call 26 (.cons (.var 0) (.cons (.var 2) .nil)))) (.cons (.ret (.call 52 (.cons (.var 0) (.cons (.var 1) (.cons (.var 2) .nil))))) .nil)))⟩
/-- never_further -/
def F67 : Fd := ⟨3, 7, (.cons (.ex (.call 53 (.cons (.var 0) (.cons (.var 1) .nil)))) (.cons (.ex (.call 26 (.cons (.var 0) (.cons (.var 2) .nil)))) (.cons (.for_ (.nm 3) (.seq (.call 51 (.cons (.var 0) .nil))) (.cons (.set 4 (.lzip (.call 25 (.cons (.var 0) (.cons (.var 1) (.cons (.var 3) .nil)))) (.call 25 (.cons (.var 0) (.cons (.var 2) (.cons (.var 3) .nil)))))) (.cons (.iff (.bf .any (.cons (.lc (.cmp .gt (.ix (.var 5) (.con (.int 0))) (.ix (.var 6) (.con (.int 0)))) (.tp (.cons (.nm 5) (.cons (.nm 6) .nil))) (.seq (.var 4)) .none [5, 6]) .nil)) (.cons (.ret (.con (.bl false))) .nil) .nil) .nil))) (.cons (.ret (.con (.bl true))) .nil))))⟩
/-- _law_beyond -/
def F68 : Fd := ⟨2, 4, (.cons (.ret (.cmp .ne (.lc (.con (.int 1)) (.tp (.cons (.nm 2) (.cons (.nm 3) .nil))) (.zip (.var 0) (.var 1)) (.some (.cmp .gt (.var 2) (.var 3))) [2, 3]) (.lst .nil))) .nil)⟩
/-- _law_written -/
def F69 : Fd := ⟨0, 4, (.cons (.set 0 (.ix (.call 62 .nil) (.con (.int 1)))) (.cons (.set 1 (.tup (.cons (.tup (.cons (.con (.str (Str.ofString "end"))) (.cons (.con (.int 1)) (.cons (.con (.str (Str.ofString "right"))) .nil)))) .nil))) (.cons (.iff (.cmp .nis (.call 65 (.cons (.var 0) (.cons (.var 1) (.cons (.tup (.cons (.tup (.cons (.con (.str (Str.ofString "to"))) (.cons (.con (.int 1)) (.cons (.con (.int 4)) .nil)))) .nil)) .nil)))) (.con (.bl true))) (.cons (.ret (.con (.bl false))) .nil) .nil) (.cons (.iff (.notn (.call 66 (.cons (.var 0) (.cons (.var 1) (.cons (.bin .add (.var 1) (.var 1)) .nil))))) (.cons (.ret (.con (.bl false))) .nil) .nil) (.cons (.par2 2 3 false false (.tup (.cons (.tup (.cons (.con (.str (Str.ofString "end"))) (.cons (.con (.int 1)) (.cons (.con (.str (Str.ofString "left"))) .nil)))) .nil)) (.tup (.cons (.tup (.cons (.con (.str (Str.ofString "end"))) (.cons (.con (.int 0)) (.cons (.con (.str (Str.ofString "right"))) .nil)))) .nil))) (.cons (.iff (.cmp .nis (.call 67 (.cons (.var 0) (.cons (.var 2) (.cons (.var 3) .nil)))) (.con (.bl true))) (.cons (.ret (.con (.bl false))) .nil) .nil) (.cons (.ret (.cmp .iss (.call 65 (.cons (.var 0) (.cons (.var 1) (.cons (.bin .add (.tup (.cons (.tup (.cons (.con (.str (Str.ofString "to"))) (.cons (.con (.int 0)) (.cons (.con (.int 1)) .nil)))) .nil)) (.var 1)) .nil)))) (.con (.bl false)))) .nil)))))))⟩
/-- is_script -/
def F70 : Fd := ⟨2, 2, (.cons (.ex (.call 16 (.cons (.var 0) .nil))) (.cons (.ret (.call 20 (.cons (.var 0) (.cons (.var 1) .nil)))) .nil))⟩
/-- stages -/
def F71 : Fd := ⟨3, 4, (.cons (.ex (.call 16 (.cons (.var 0) .nil))) (.cons (.ex (.call 26 (.cons (.var 0) (.cons (.var 1) .nil)))) (.cons (.ex (.call 17 (.cons (.var 0) (.cons (.var 2) .nil)))) (.cons (.ret (.lc (.call 25 (.cons (.var 0) (.cons (.slice (.var 1) .none (.some (.var 3))) (.cons (.var 2) .nil)))) (.nm 3) (.rng (.cons (.bin .add (.bf .len (.cons (.var 1) .nil)) (.con (.int 1))) .nil)) .none [3])) .nil))))⟩
/-- moved_doors -/
def F72 : Fd := ⟨3, 8, (.cons (.set 3 (.call 71 (.cons (.var 0) (.cons (.var 1) (.cons (.var 2) .nil))))) (.cons (.seto 4 (.lst .nil)) (.cons (.for_ (.tp (.cons (.nm 5) (.cons (.nm 6) .nil))) (.zip (.var 3) (.slice (.var 3) (.some (.con (.int 1))) .none)) (.cons (.app 4 (.bf .tuple (.cons (.lc (.var 7) (.nm 7) (.rng (.cons (.bf .len (.cons (.var 5) .nil)) .nil)) (.some (.cmp .ne (.ix (.var 5) (.var 7)) (.ix (.var 6) (.var 7)))) [7]) .nil))) .nil)) (.cons (.ret (.var 4)) .nil))))⟩
/-- least_places -/
def F73 : Fd := ⟨1, 3, (.cons (.set 1 (.call 9 (.cons (.var 0) .nil))) (.cons (.ret (.bf .tuple (.cons (.lc (.tup (.cons (.neg (.ix (.ix (.var 1) (.con (.int 0))) (.bin .add (.var 2) (.con (.int 1))))) (.cons (.con (.int 1)) .nil))) (.nm 2) (.rng (.cons (.bf .len (.cons (.ix (.var 0) (.con (.int 1))) .nil)) .nil)) .none [2]) .nil))) .nil))⟩
/-- greatest_places -/
def F74 : Fd := ⟨1, 3, (.cons (.set 1 (.call 9 (.cons (.var 0) .nil))) (.cons (.ret (.bf .tuple (.cons (.lc (.tup (.cons (.ix (.ix (.var 1) (.bin .add (.var 2) (.con (.int 1)))) (.con (.int 0))) (.cons (.con (.int 1)) .nil))) (.nm 2) (.rng (.cons (.bf .len (.cons (.ix (.var 0) (.con (.int 1))) .nil)) .nil)) .none [2]) .nil))) .nil))⟩
/-- hangs_on_it -/
def F75 : Fd := ⟨4, 7, (.cons (.set 4 (.call 51 (.cons (.var 0) .nil))) (.cons (.for_ (.nm 5) (.seq (.var 4)) (.cons (.set 6 (.bin .add (.bin .add (.slice (.var 5) .none (.some (.var 3))) (.tup (.cons (.tup (.cons (.bin .add (.ix (.ix (.var 5) (.var 3)) (.con (.int 0))) (.con (.int 1))) (.cons (.con (.int 1)) .nil))) .nil))) (.slice (.var 5) (.some (.bin .add (.var 3) (.con (.int 1)))) .none))) (.cons (.iff (.and (.cmp .inn (.var 6) (.var 4)) (.cmp .ne (.ix (.call 25 (.cons (.var 0) (.cons (.var 1) (.cons (.var 5) .nil)))) (.var 2)) (.ix (.call 25 (.cons (.var 0) (.cons (.var 1) (.cons (.var 6) .nil)))) (.var 2)))) (.cons (.ret (.con (.bl true))) .nil) .nil) .nil))) (.cons (.ret (.con (.bl false))) .nil)))⟩
/-- _law_hangs -/
def F76 : Fd := ⟨3, 8, (.cons (.set 3 (.lst .nil)) (.cons (.for_ (.nm 4) (.rng (.cons (.con (.int 1)) (.cons (.bf .len (.cons (.ix (.var 0) (.con (.int 0))) .nil)) .nil))) (.cons (.seto 5 (.lst .nil)) (.cons (.for_ (.nm 6) (.seq (.var 0)) (.cons (.set 7 (.bin .add (.bin .add (.slice (.var 6) .none (.some (.var 4))) (.tup (.cons (.bin .add (.ix (.var 6) (.var 4)) (.con (.int 1))) .nil))) (.slice (.var 6) (.some (.bin .add (.var 4) (.con (.int 1)))) .none))) (.cons (.iff (.and (.cmp .inn (.var 7) (.var 1)) (.cmp .ne (.ix (.ix (.var 1) (.var 7)) (.bin .add (.var 2) (.con (.int 1)))) (.ix (.ix (.var 1) (.var 6)) (.bin .add (.var 2) (.con (.int 1)))))) (.cons (.app 5 (.var 6)) .nil) .nil) .nil))) (.cons (.set 3 (.bin .add (.var 3) (.rep (.lst (.cons (.bin .sub (.var 4) (.con (.int 1))) .nil)) (.bf .int (.cons (.cmp .ne (.own 5) (.lst .nil)) .nil))))) .nil)))) (.cons (.ret (.var 3)) .nil)))⟩
/-- pushes_of -/
def F77 : Fd := ⟨1, 10, (.cons (.asg (.tp (.cons (.nm 1) (.cons (.nm 2) (.cons (.nm 3) .nil)))) (.var 0)) (.cons (.set 4 (.lrng (.cons (.bf .len (.cons (.var 2) .nil)) .nil))) (.cons (.set 5 (.lc2 (.tup (.cons (.con (.str (Str.ofString "by"))) (.cons (.var 6) (.cons (.var 7) .nil)))) (.nm 6) (.seq (.var 4)) .none (.nm 7) (.rng (.cons (.neg (.var 1)) (.cons (.bin .add (.var 1) (.con (.int 1))) .nil))) (.some (.cmp .ne (.var 7) (.con (.int 0)))) [6, 7] [7])) (.cons (.aug 5 false (.lc2 (.tup (.cons (.con (.str (Str.ofString "end"))) (.cons (.var 6) (.cons (.var 8) .nil)))) (.nm 6) (.seq (.var 4)) .none (.nm 8) (.seq (.tup (.cons (.con (.str (Str.ofString "left"))) (.cons (.con (.str (Str.ofString "right"))) .nil)))) .none [6, 8] [8])) (.cons (.ret (.bin .add (.var 5) (.lc2 (.tup (.cons (.con (.str (Str.ofString "to"))) (.cons (.var 6) (.cons (.var 9) .nil)))) (.nm 6) (.seq (.var 4)) .none (.nm 9) (.rng (.cons (.bin .add (.var 1) (.con (.int 1))) .nil)) .none [6, 9] [9]))) .nil)))))⟩
/-- forgets -/
def F78 : Fd := ⟨2, 2, (.cons (.ex (.call 53 (.cons (.var 0) (.cons (.var 1) .nil)))) (.cons (.ret (.cmp .eq (.call 25 (.cons (.var 0) (.cons (.var 1) (.cons (.call 73 (.cons (.var 0) .nil)) .nil)))) (.call 25 (.cons (.var 0) (.cons (.var 1) (.cons (.call 74 (.cons (.var 0) .nil)) .nil)))))) .nil))⟩
/-- _law_all_pushes -/
def F79 : Fd := ⟨1, 8, (.cons (.par2 1 2 false false (.ix (.var 0) (.con (.int 0))) (.lst .nil)) (.cons (.for_ (.nm 3) (.rng (.cons (.bf .len (.cons (.ix (.var 0) (.con (.int 1))) .nil)) .nil)) (.cons (.set 2 (.bin .add (.var 2) (.lc (.tup (.cons (.con (.str (Str.ofString "by"))) (.cons (.var 3) (.cons (.var 4) .nil)))) (.nm 4) (.rng (.cons (.bin .sub (.con (.int 0)) (.var 1)) (.cons (.bin .add (.var 1) (.con (.int 1))) .nil))) (.some (.cmp .ne (.var 4) (.con (.int 0)))) [4]))) (.cons (.set 2 (.bin .add (.var 2) (.lst (.cons (.tup (.cons (.con (.str (Str.ofString "end"))) (.cons (.var 3) (.cons (.con (.str (Str.ofString "left"))) .nil)))) (.cons (.tup (.cons (.con (.str (Str.ofString "end"))) (.cons (.var 3) (.cons (.con (.str (Str.ofString "right"))) .nil)))) .nil))))) (.cons (.set 2 (.bin .add (.var 2) (.lc (.tup (.cons (.con (.str (Str.ofString "to"))) (.cons (.var 3) (.cons (.var 5) .nil)))) (.nm 5) (.rng (.cons (.bin .add (.var 1) (.con (.int 1))) .nil)) .none [5]))) .nil)))) (.cons (.set 6 (.lc (.var 7) (.nm 7) (.seq (.var 2)) (.some (.cmp .eq (.ix (.var 7) (.con (.int 0))) (.con (.str (Str.ofString "by"))))) [7])) (.cons (.ret (.bin .add (.bin .add (.var 6) (.lc (.var 7) (.nm 7) (.seq (.var 2)) (.some (.cmp .eq (.ix (.var 7) (.con (.int 0))) (.con (.str (Str.ofString "end"))))) [7])) (.lc (.var 7) (.nm 7) (.seq (.var 2)) (.some (.cmp .eq (.ix (.var 7) (.con (.int 0))) (.con (.str (Str.ofString "to"))))) [7]))) .nil))))⟩
/-- is_plain -/
def F80 : Fd := ⟨1, 3, (.cons (.set 1 (.sset (.lc (.bin .mod (.var 2) (.glob (Str.ofString "PARTS") 3)) (.nm 2) (.seq (.var 0)) (.some (.cmp .gt (.bin .mod (.var 2) (.glob (Str.ofString "PARTS") 3)) (.con (.int 0)))) [2]))) (.cons (.ret (.cmp .eq (.var 1) (.lrng (.cons (.con (.int 1)) (.cons (.bin .add (.bf .len (.cons (.var 1) .nil)) (.con (.int 1))) .nil))))) .nil))⟩
/-- all_starts -/
def F81 : Fd := ⟨1, 3, (.cons (.ret (.lc (.bf .tuple (.cons (.lc (.call 12 (.cons (.var 1) (.cons (.glob (Str.ofString "PARTS") 3) .nil))) (.nm 1) (.seq (.slice (.var 2) (.some (.con (.int 1))) .none)) .none [1]) .nil)) (.nm 2) (.seq (.call 50 (.cons (.var 0) (.cons (.glob (Str.ofString "PARTS") 3) .nil)))) (.some (.call 80 (.cons (.var 2) .nil))) [2])) .nil)⟩
/-- need_two -/
def F82 : Fd := ⟨3, 3, (.cons (.ex (.call 16 (.cons (.var 0) .nil))) (.cons (.ex (.call 17 (.cons (.var 0) (.cons (.var 1) .nil)))) (.cons (.ex (.call 17 (.cons (.var 0) (.cons (.var 2) .nil)))) .nil)))⟩
/-- is_stretch -/
def F83 : Fd := ⟨2, 2, (.cons (.ret (.and (.call 1 (.cons (.var 1) (.cons (.con (.int 2)) (.cons (.con (.int 2)) .nil)))) (.and (.call 0 (.cons (.ix (.var 1) (.con (.int 0))) (.cons (.con (.int 0)) (.cons (.var 0) .nil)))) (.call 0 (.cons (.ix (.var 1) (.con (.int 1))) (.cons (.bin .add (.ix (.var 1) (.con (.int 0))) (.con (.int 1))) (.cons (.var 0) .nil))))))) .nil)⟩
/-- is_free -/
def F84 : Fd := ⟨3, 7, (.cons (.for_ (.tp (.cons (.tp (.cons (.nm 3) (.cons (.nm 4) .nil))) (.cons (.tp (.cons (.nm 5) (.cons (.nm 6) .nil))) .nil))) (.zip (.var 1) (.ix (.var 0) (.con (.int 1)))) (.cons (.iff (.and (.cmp .gt (.bin .add (.var 3) (.bin .mul (.var 6) (.var 4))) (.bin .mul (.ix (.var 2) (.con (.int 0))) (.var 4))) (.cmp .lt (.var 3) (.bin .mul (.ix (.var 2) (.con (.int 1))) (.var 4)))) (.cons (.ret (.con (.bl false))) .nil) .nil) .nil)) (.cons (.ret (.con (.bl true))) .nil))⟩
/-- side_bounds -/
def F85 : Fd := ⟨3, 10, (.cons (.par2 3 4 true false (.lst .nil) (.con (.int 0))) (.cons (.for_ (.tp (.cons (.nm 5) (.cons (.nm 6) .nil))) (.seq (.var 1)) (.cons (.for_ (.tp (.cons (.nm 7) (.cons (.tp (.cons (.nm 8) (.cons (.nm 9) .nil))) .nil))) (.enum (.ix (.var 0) (.con (.int 1)))) (.cons (.iff (.cmp .eq (.ix (.var 2) (.var 4)) (.con (.str (Str.ofString "left")))) (.cons (.app 3 (.tup (.cons (.bin .add (.var 7) (.con (.int 1))) (.cons (.con (.int 0)) (.cons (.bin .sub (.var 5) (.var 9)) .nil))))) .nil) (.cons (.app 3 (.tup (.cons (.con (.int 0)) (.cons (.bin .add (.var 7) (.con (.int 1))) (.cons (.neg (.var 6)) .nil))))) .nil)) (.cons (.aug 4 false (.con (.int 1))) .nil))) .nil)) (.cons (.ret (.var 3)) .nil)))⟩
/-- places_of -/
def F86 : Fd := ⟨2, 4, (.cons (.set 2 (.call 8 (.cons (.bin .add (.bf .len (.cons (.ix (.var 0) (.con (.int 1))) .nil)) (.con (.int 1))) (.cons (.bin .add (.call 6 (.cons (.var 0) .nil)) (.var 1)) .nil)))) (.cons (.iff (.isn (.var 2)) (.cons (.ret (.con .non)) .nil) .nil) (.cons (.ret (.bf .tuple (.cons (.lc (.tup (.cons (.neg (.ix (.ix (.var 2) (.con (.int 0))) (.bin .add (.var 3) (.con (.int 1))))) (.cons (.con (.int 1)) .nil))) (.nm 3) (.rng (.cons (.bf .len (.cons (.ix (.var 0) (.con (.int 1))) .nil)) .nil)) .none [3]) .nil))) .nil)))⟩
/-- are_free -/
def F87 : Fd := ⟨3, 4, (.cons (.ret (.bf .all (.cons (.lc (.call 84 (.cons (.var 0) (.cons (.var 1) (.cons (.var 3) .nil)))) (.nm 3) (.seq (.var 2)) .none [3]) .nil))) .nil)⟩
/-- _law_stretch -/
def F88 : Fd := ⟨2, 3, (.cons (.set 2 (.call 29 (.cons (.var 0) (.cons (.var 1) .nil)))) (.cons (.ret (.tup (.cons (.var 2) (.cons (.bin .add (.bin .add (.var 2) (.con (.int 1))) (.call 29 (.cons (.var 0) (.cons (.bin .sub (.var 1) (.var 2)) .nil)))) .nil)))) .nil))⟩
/-- _law_stretches -/
def F89 : Fd := ⟨2, 3, (.cons (.ret (.bf .tuple (.cons (.lc (.call 88 (.cons (.var 0) (.cons (.var 1) .nil))) (.nm 2) (.rng (.cons (.bin .add (.con (.int 1)) (.call 29 (.cons (.var 0) (.cons (.con (.int 2)) .nil)))) .nil)) .none [2]) .nil))) .nil)⟩
/-- _law_is_free -/
def F90 : Fd := ⟨4, 9, (.cons (.for_ (.tp (.cons (.nm 4) (.cons (.nm 5) .nil))) (.seq (.var 3)) (.cons (.for_ (.tp (.cons (.nm 6) (.cons (.tp (.cons (.nm 7) (.cons (.nm 8) .nil))) .nil))) (.enum (.ix (.var 0) (.con (.int 1)))) (.cons (.iff (.and (.cmp .lt (.ix (.var 2) (.bin .add (.var 6) (.con (.int 1)))) (.bin .mul (.var 5) (.var 1))) (.cmp .gt (.bin .add (.ix (.var 2) (.bin .add (.var 6) (.con (.int 1)))) (.bin .mul (.var 8) (.var 1))) (.bin .mul (.var 4) (.var 1)))) (.cons (.ret (.con (.bl false))) .nil) .nil) .nil)) .nil)) (.cons (.ret (.con (.bl true))) .nil))⟩
/-- is_cupboard -/
def F91 : Fd := ⟨1, 1, (.cons (.ret (.call 10 (.cons (.var 0) .nil))) .nil)⟩
/-- ends_of -/
def F92 : Fd := ⟨1, 1, (.cons (.ex (.call 16 (.cons (.var 0) .nil))) (.cons (.ret (.tup (.cons (.call 73 (.cons (.var 0) .nil)) (.cons (.call 74 (.cons (.var 0) .nil)) .nil)))) .nil))⟩
/-- idle_lips -/
def F93 : Fd := ⟨1, 6, (.cons (.ex (.call 16 (.cons (.var 0) .nil))) (.cons (.asg (.tp (.cons (.nm 1) (.cons (.nm 2) (.cons (.nm 3) .nil)))) (.var 0)) (.cons (.set 4 (.call 9 (.cons (.var 0) .nil))) (.cons (.ret (.lc (.var 5) (.nm 5) (.rng (.cons (.bf .len (.cons (.var 3) .nil)) .nil)) (.some (.cmp .eq (.call 9 (.cons (.tup (.cons (.var 1) (.cons (.var 2) (.cons (.bin .add (.slice (.var 3) .none (.some (.var 5))) (.slice (.var 3) (.some (.bin .add (.var 5) (.con (.int 1)))) .none)) .nil)))) .nil)) (.var 4))) [5])) .nil))))⟩
/-- _law_whole -/
def F94 : Fd := ⟨1, 1, (.cons (.ret (.and (.isi .int (.var 0)) (.not (.isi .bool (.var 0))))) .nil)⟩
/-- _law_has_shape -/
def F95 : Fd := ⟨1, 7, (.cons (.iff (.or (.not (.isi .tuple (.var 0))) (.cmp .ne (.bf .len (.cons (.var 0) .nil)) (.con (.int 3)))) (.cons (.ret (.con (.bl false))) .nil) .nil) (.cons (.iff (.or (.not (.call 94 (.cons (.ix (.var 0) (.con (.int 0))) .nil))) (.not (.chain .le .le (.con (.int 2)) (.ix (.var 0) (.con (.int 0))) (.con (.int 5))))) (.cons (.ret (.con (.bl false))) .nil) .nil) (.cons (.asg (.tp (.cons (.nm 1) (.cons (.nm 2) (.cons (.nm 3) .nil)))) (.var 0)) (.cons (.iff (.or (.not (.isi .tuple (.var 2))) (.or (.not (.chain .le .le (.con (.int 2)) (.bf .len (.cons (.var 2) .nil)) (.con (.int 3)))) (.or (.not (.isi .tuple (.var 3))) (.cmp .gt (.bf .len (.cons (.var 3) .nil)) (.con (.int 4)))))) (.cons (.ret (.con (.bl false))) .nil) .nil) (.cons (.for_ (.nm 4) (.seq (.var 2)) (.cons (.iff (.or (.not (.isi .tuple (.var 4))) (.or (.cmp .ne (.bf .len (.cons (.var 4) .nil)) (.con (.int 2))) (.cmp .ne (.lc (.con (.int 1)) (.nm 5) (.seq (.var 4)) (.some (.not (.call 94 (.cons (.var 5) .nil)))) [5]) (.lst .nil)))) (.cons (.ret (.con (.bl false))) .nil) .nil) (.cons (.iff (.or (.not (.chain .le .le (.con (.int 0)) (.ix (.var 4) (.con (.int 0))) (.con (.int 1)))) (.not (.chain .le .le (.con (.int 1)) (.ix (.var 4) (.con (.int 1))) (.var 1)))) (.cons (.ret (.con (.bl false))) .nil) .nil) .nil))) (.cons (.for_ (.nm 6) (.seq (.var 3)) (.cons (.iff (.or (.not (.isi .tuple (.var 6))) (.or (.cmp .ne (.bf .len (.cons (.var 6) .nil)) (.con (.int 3))) (.cmp .ne (.lc (.con (.int 1)) (.nm 5) (.seq (.var 6)) (.some (.not (.call 94 (.cons (.var 5) .nil)))) [5]) (.lst .nil)))) (.cons (.ret (.con (.bl false))) .nil) .nil) (.cons (.iff (.or (.cmp .eq (.ix (.var 6) (.con (.int 0))) (.ix (.var 6) (.con (.int 1)))) (.cmp .gt (.bf .abs (.cons (.ix (.var 6) (.con (.int 2))) .nil)) (.var 1))) (.cons (.ret (.con (.bl false))) .nil) .nil) (.cons (.iff (.cmp .ne (.lc (.con (.int 1)) (.nm 5) (.seq (.slice (.var 6) .none (.some (.con (.int 2))))) (.some (.not (.chain .le .lt (.con (.int 0)) (.var 5) (.bf .len (.cons (.var 2) .nil))))) [5]) (.lst .nil)) (.cons (.ret (.con (.bl false))) .nil) .nil) .nil)))) (.cons (.ret (.cmp .eq (.bf .list (.cons (.var 3) .nil)) (.sset (.var 3)))) .nil)))))))⟩
/-- _law_is_cupboard -/
def F96 : Fd := ⟨1, 1, (.cons (.ret (.and (.call 95 (.cons (.var 0) .nil)) (.and (.notn (.call 33 (.cons (.var 0) (.cons (.con (.int 1)) .nil)))) (.notn (.call 34 (.cons (.var 0) (.cons (.con (.int 1)) .nil))))))) .nil)⟩
/-- _law_are_places -/
def F97 : Fd := ⟨2, 5, (.cons (.iff (.or (.not (.isi .tuple (.var 1))) (.cmp .ne (.bf .len (.cons (.var 1) .nil)) (.bf .len (.cons (.ix (.var 0) (.con (.int 1))) .nil)))) (.cons (.ret (.con (.bl false))) .nil) .nil) (.cons (.set 2 (.con (.int 1))) (.cons (.for_ (.nm 3) (.seq (.var 1)) (.cons (.iff (.or (.not (.isi .tuple (.var 3))) (.cmp .ne (.bf .len (.cons (.var 3) .nil)) (.con (.int 2)))) (.cons (.ret (.con (.bl false))) .nil) .nil) (.cons (.iff (.or (.not (.call 94 (.cons (.ix (.var 3) (.con (.int 0))) .nil))) (.not (.call 94 (.cons (.ix (.var 3) (.con (.int 1))) .nil)))) (.cons (.ret (.con (.bl false))) .nil) .nil) (.cons (.iff (.or (.cmp .lt (.ix (.var 3) (.con (.int 0))) (.con (.int 0))) (.or (.cmp .lt (.ix (.var 3) (.con (.int 1))) (.con (.int 1))) (.or (.cmp .gt (.bf .max (.cons (.var 3) .nil)) (.bin .pow (.con (.int 10)) (.con (.int 9)))) (.cmp .ne (.call 40 (.cons (.ix (.var 3) (.con (.int 0))) (.cons (.ix (.var 3) (.con (.int 1))) .nil))) (.var 3))))) (.cons (.ret (.con (.bl false))) .nil) .nil) (.cons (.set 2 (.bin .mul (.var 2) (.ix (.var 3) (.con (.int 1))))) .nil))))) (.cons (.set 4 (.bin .add (.tup (.cons (.con (.int 0)) .nil)) (.bf .tuple (.cons (.lc (.bin .mul (.ix (.var 3) (.con (.int 0))) (.bin .fdiv (.var 2) (.ix (.var 3) (.con (.int 1))))) (.nm 3) (.seq (.var 1)) .none [3]) .nil)))) (.cons (.ret (.call 42 (.cons (.var 0) (.cons (.var 2) (.cons (.var 4) .nil))))) .nil)))))⟩
/-- next_edge -/
def F98 : Fd := ⟨3, 5, (.cons (.set 3 (.tup (.cons (.ix (.var 0) (.con (.int 0))) (.cons (.con (.int 1)) .nil)))) (.cons (.for_ (.nm 4) (.seq (.var 1)) (.cons (.iff (.and (.call 22 (.cons (.var 2) (.cons (.var 4) .nil))) (.call 22 (.cons (.var 4) (.cons (.var 3) .nil)))) (.cons (.set 3 (.var 4)) .nil) .nil) .nil)) (.cons (.ret (.var 3)) .nil)))⟩
/-- end_behind -/
def F99 : Fd := ⟨3, 6, (.cons (.for_ (.tp (.cons (.nm 3) (.cons (.tp (.cons (.nm 4) (.cons (.nm 5) .nil))) .nil))) (.zip (.var 1) (.ix (.var 0) (.con (.int 1)))) (.cons (.iff (.and (.not (.call 22 (.cons (.var 2) (.cons (.var 3) .nil)))) (.call 22 (.cons (.var 2) (.cons (.call 21 (.cons (.var 3) (.cons (.var 5) .nil))) .nil)))) (.cons (.ret (.call 21 (.cons (.var 3) (.cons (.var 5) .nil)))) .nil) .nil) .nil)) (.cons (.ret (.con .non)) .nil))⟩
/-- gaps_at -/
def F100 : Fd := ⟨2, 5, (.cons (.par2 2 3 true false (.lst .nil) (.tup (.cons (.con (.int 0)) (.cons (.con (.int 1)) .nil)))) (.cons (.while_ (.call 22 (.cons (.var 3) (.cons (.tup (.cons (.ix (.var 0) (.con (.int 0))) (.cons (.con (.int 1)) .nil))) .nil))) (.cons (.set 4 (.call 99 (.cons (.var 0) (.cons (.var 1) (.cons (.var 3) .nil))))) (.cons (.iff (.isn (.var 4)) (.cons (.set 4 (.call 98 (.cons (.var 0) (.cons (.var 1) (.cons (.var 3) .nil))))) (.cons (.app 2 (.tup (.cons (.var 3) (.cons (.var 4) .nil)))) .nil)) .nil) (.cons (.set 3 (.var 4)) .nil)))) (.cons (.ret (.var 2)) .nil)))⟩
/-- choices_of -/
def F101 : Fd := ⟨1, 5, (.cons (.set 1 (.lst (.cons (.tup .nil) .nil))) (.cons (.for_ (.nm 2) (.rng (.cons (.var 0) .nil)) (.cons (.set 1 (.lc2 (.bin .add (.var 3) (.tup (.cons (.var 4) .nil))) (.nm 3) (.seq (.var 1)) .none (.nm 4) (.seq (.glob (Str.ofString "SIDES") 2)) .none [3, 4] [4])) .nil)) (.cons (.ret (.var 1)) .nil)))⟩
/-- places_for -/
def F102 : Fd := ⟨2, 4, (.cons (.for_ (.nm 2) (.seq (.call 101 (.cons (.bin .mul (.bf .len (.cons (.var 1) .nil)) (.bf .len (.cons (.ix (.var 0) (.con (.int 1))) .nil))) .nil))) (.cons (.set 3 (.call 86 (.cons (.var 0) (.cons (.call 85 (.cons (.var 0) (.cons (.var 1) (.cons (.var 2) .nil)))) .nil)))) (.cons (.iff (.notn (.var 3)) (.cons (.ret (.var 3)) .nil) .nil) .nil))) (.cons (.ret (.con .non)) .nil))⟩
/-- gaps -/
def F103 : Fd := ⟨2, 2, (.cons (.ex (.call 16 (.cons (.var 0) .nil))) (.cons (.ex (.call 17 (.cons (.var 0) (.cons (.var 1) .nil)))) (.cons (.ret (.call 100 (.cons (.var 0) (.cons (.var 1) .nil)))) .nil)))⟩
/-- _law_gaps -/
def F104 : Fd := ⟨3, 12, (.cons (.set 3 (.lst (.cons (.con (.int 0)) (.cons (.bin .mul (.ix (.var 0) (.con (.int 0))) (.var 1)) .nil)))) (.cons (.for_ (.tp (.cons (.nm 4) (.cons (.tp (.cons (.nm 5) (.cons (.nm 6) .nil))) .nil))) (.enum (.ix (.var 0) (.con (.int 1)))) (.cons (.set 3 (.bin .add (.var 3) (.lst (.cons (.ix (.var 2) (.bin .add (.var 4) (.con (.int 1)))) (.cons (.bin .add (.ix (.var 2) (.bin .add (.var 4) (.con (.int 1)))) (.bin .mul (.var 6) (.var 1))) .nil))))) .nil)) (.cons (.set 3 (.sset (.var 3))) (.cons (.seto 7 (.lst .nil)) (.cons (.for_ (.tp (.cons (.nm 8) (.cons (.nm 9) .nil))) (.zip (.var 3) (.slice (.var 3) (.some (.con (.int 1))) .none)) (.cons (.set 10 (.lc (.var 4) (.tp (.cons (.nm 4) (.cons (.nm 11) .nil))) (.enum (.ix (.var 0) (.con (.int 1)))) (.some (.chain .le .lt (.ix (.var 2) (.bin .add (.var 4) (.con (.int 1)))) (.var 8) (.bin .add (.ix (.var 2) (.bin .add (.var 4) (.con (.int 1)))) (.bin .mul (.ix (.var 11) (.con (.int 1))) (.var 1))))) [4, 11])) (.cons (.iff (.cmp .eq (.var 10) (.lst .nil)) (.cons (.app 7 (.tup (.cons (.call 40 (.cons (.var 8) (.cons (.var 1) .nil))) (.cons (.call 40 (.cons (.var 9) (.cons (.var 1) .nil))) .nil)))) .nil) .nil) .nil))) (.cons (.ret (.var 7)) .nil))))))⟩
/-- least_bound -/
def F105 : Fd := ⟨3, 7, (.cons (.set 3 (.lc (.var 6) (.tp (.cons (.nm 4) (.cons (.nm 5) (.cons (.nm 6) .nil)))) (.seq (.var 0)) (.some (.cmp .eq (.tup (.cons (.var 4) (.cons (.var 5) .nil))) (.tup (.cons (.var 1) (.cons (.var 2) .nil))))) [4, 5, 6])) (.cons (.ret (.ife (.cmp .ne (.var 3) (.lst .nil)) (.bf .min (.cons (.var 3) .nil)) (.con .non))) .nil))⟩
/-- chain_sum -/
def F106 : Fd := ⟨2, 5, (.cons (.set 2 (.lc (.call 105 (.cons (.var 0) (.cons (.var 3) (.cons (.var 4) .nil)))) (.tp (.cons (.nm 3) (.cons (.nm 4) .nil))) (.zip (.var 1) (.bin .add (.slice (.var 1) (.some (.con (.int 1))) .none) (.slice (.var 1) .none (.some (.con (.int 1)))))) .none [3, 4])) (.cons (.ret (.ife (.cmp .nin (.con .non) (.var 2)) (.bf .sum (.cons (.var 2) .nil)) (.con .non))) .nil))⟩
/-- all_chains -/
def F107 : Fd := ⟨1, 5, (.cons (.par2 1 2 false false (.lc (.tup (.cons (.var 3) .nil)) (.nm 3) (.rng (.cons (.var 0) .nil)) .none [3]) (.lst .nil)) (.cons (.while_ (.cmp .ne (.var 1) (.lst .nil)) (.cons (.set 1 (.lc2 (.bin .add (.var 4) (.tup (.cons (.var 3) .nil))) (.nm 4) (.seq (.var 1)) .none (.nm 3) (.rng (.cons (.bin .add (.ix (.var 4) (.con (.int 0))) (.con (.int 1))) (.cons (.var 0) .nil))) (.some (.cmp .nin (.var 3) (.var 4))) [4, 3] [3])) (.cons (.set 2 (.bin .add (.var 2) (.var 1))) .nil))) (.cons (.ret (.var 2)) .nil)))⟩
/-- chain_for -/
def F108 : Fd := ⟨2, 5, (.cons (.set 2 (.bin .add (.call 6 (.cons (.var 0) .nil)) (.var 1))) (.cons (.for_ (.nm 3) (.seq (.call 107 (.cons (.bin .add (.bf .len (.cons (.ix (.var 0) (.con (.int 1))) .nil)) (.con (.int 1))) .nil))) (.cons (.set 4 (.call 106 (.cons (.var 2) (.cons (.var 3) .nil)))) (.cons (.iff (.and (.notn (.var 4)) (.cmp .lt (.var 4) (.con (.int 0)))) (.cons (.ret (.var 3)) .nil) .nil) .nil))) (.cons (.ret (.con .non)) .nil)))⟩
/-- _law_sides -/
def F109 : Fd := ⟨1, 5, (.cons (.set 1 (.lst (.cons (.tup .nil) .nil))) (.cons (.for_ (.nm 2) (.rng (.cons (.var 0) .nil)) (.cons (.set 3 (.lst .nil)) (.cons (.for_ (.nm 4) (.seq (.var 1)) (.cons (.set 3 (.bin .add (.var 3) (.lst (.cons (.bin .add (.var 4) (.tup (.cons (.con (.str (Str.ofString "left"))) .nil))) (.cons (.bin .add (.var 4) (.tup (.cons (.con (.str (Str.ofString "right"))) .nil))) .nil))))) .nil)) (.cons (.set 1 (.var 3)) .nil)))) (.cons (.ret (.var 1)) .nil)))⟩
/-- _law_with_sides -/
def F110 : Fd := ⟨3, 8, (.cons (.par2 3 4 false false (.call 31 (.cons (.var 0) .nil)) (.con (.int 0))) (.cons (.for_ (.tp (.cons (.nm 5) (.cons (.nm 6) .nil))) (.seq (.var 1)) (.cons (.for_ (.nm 7) (.rng (.cons (.bf .len (.cons (.ix (.var 0) (.con (.int 1))) .nil)) .nil)) (.cons (.iff (.cmp .eq (.ix (.var 2) (.var 4)) (.con (.str (Str.ofString "left")))) (.cons (.set 3 (.bin .add (.var 3) (.lst (.cons (.tup (.cons (.bin .add (.var 7) (.con (.int 1))) (.cons (.con (.int 0)) (.cons (.bin .sub (.var 5) (.ix (.ix (.ix (.var 0) (.con (.int 1))) (.var 7)) (.con (.int 1)))) .nil)))) .nil)))) .nil) (.cons (.set 3 (.bin .add (.var 3) (.lst (.cons (.tup (.cons (.con (.int 0)) (.cons (.bin .add (.var 7) (.con (.int 1))) (.cons (.bin .sub (.con (.int 0)) (.var 6)) .nil)))) .nil)))) .nil)) (.cons (.set 4 (.bin .add (.var 4) (.con (.int 1)))) .nil))) .nil)) (.cons (.ret (.var 3)) .nil)))⟩
/-- _law_chain_sum -/
def F111 : Fd := ⟨2, 9, (.cons (.set 2 (.con (.int 0))) (.cons (.for_ (.tp (.cons (.nm 3) (.cons (.nm 4) .nil))) (.zip (.var 1) (.bin .add (.slice (.var 1) (.some (.con (.int 1))) .none) (.slice (.var 1) .none (.some (.con (.int 1)))))) (.cons (.set 5 (.lc (.var 8) (.tp (.cons (.nm 6) (.cons (.nm 7) (.cons (.nm 8) .nil)))) (.seq (.var 0)) (.some (.and (.cmp .eq (.var 6) (.var 3)) (.cmp .eq (.var 7) (.var 4)))) [6, 7, 8])) (.cons (.iff (.cmp .eq (.var 5) (.lst .nil)) (.cons (.ret (.con .non)) .nil) .nil) (.cons (.set 2 (.bin .add (.var 2) (.bf .min (.cons (.var 5) .nil)))) .nil)))) (.cons (.ret (.var 2)) .nil)))⟩
/-- lots_of -/
def F112 : Fd := ⟨1, 6, (.cons (.par2 1 2 false false (.lst (.cons (.tup .nil) .nil)) (.lst (.cons (.tup .nil) .nil))) (.cons (.for_ (.nm 3) (.rng (.cons (.var 0) .nil)) (.cons (.set 2 (.lc2 (.bin .add (.var 4) (.tup (.cons (.var 5) .nil))) (.nm 4) (.seq (.var 2)) .none (.nm 5) (.rng (.cons (.var 0) .nil)) (.some (.or (.cmp .eq (.var 4) (.tup .nil)) (.cmp .gt (.var 5) (.ix (.var 4) (.neg (.con (.int 1))))))) [4, 5] [5])) (.cons (.set 1 (.bin .add (.var 1) (.var 2))) .nil))) (.cons (.ret (.var 1)) .nil)))⟩
/-- _law_many_lips -/
def F113 : Fd := ⟨1, 4, (.cons (.for_ (.nm 1) (.rng (.cons (.con (.int 20)) .nil)) (.cons (.set 2 (.call 36 (.cons (.var 0) (.cons (.con (.int 4)) (.cons (.bin .add (.con (.int 2)) (.call 29 (.cons (.var 0) (.cons (.con (.int 2)) .nil)))) .nil))))) (.cons (.set 3 (.call 36 (.cons (.var 0) (.cons (.con (.int 4)) (.cons (.bf .len (.cons (.ix (.var 2) (.con (.int 1))) .nil)) .nil))))) (.cons (.set 2 (.bin .add (.slice (.var 2) .none (.some (.con (.int 2)))) (.tup (.cons (.slice (.bf .tuple (.cons (.sset (.bin .add (.ix (.var 2) (.con (.int 2))) (.ix (.var 3) (.con (.int 2))))) .nil)) .none (.some (.con (.int 4)))) .nil)))) (.cons (.iff (.and (.cmp .gt (.bf .len (.cons (.ix (.var 2) (.con (.int 2))) .nil)) (.con (.int 1))) (.notn (.call 33 (.cons (.var 2) (.cons (.con (.int 1)) .nil))))) (.cons (.ret (.var 2)) .nil) .nil) .nil))))) (.cons (.ret (.tup (.cons (.con (.int 4)) (.cons (.tup (.cons (.tup (.cons (.con (.int 0)) (.cons (.con (.int 2)) .nil))) (.cons (.tup (.cons (.con (.int 1)) (.cons (.con (.int 2)) .nil))) .nil))) (.cons (.tup (.cons (.tup (.cons (.con (.int 0)) (.cons (.con (.int 1)) (.cons (.con (.int 2)) .nil)))) (.cons (.tup (.cons (.con (.int 1)) (.cons (.con (.int 0)) (.cons (.neg (.con (.int 1))) .nil)))) .nil))) .nil))))) .nil))⟩
/-- need_pushes -/
def F114 : Fd := ⟨2, 2, (.cons (.iff (.or (.not (.call 19 (.cons (.var 0) (.cons (.var 1) (.cons (.glob (Str.ofString "MOST_PUSHES") 1) .nil))))) (.cmp .eq (.var 1) (.tup .nil))) (.cons (.raise 3) .nil) .nil) .nil)⟩
/-- wins -/
def F115 : Fd := ⟨2, 6, (.cons (.asg (.tp (.cons (.nm 2) (.cons (.nm 3) (.cons (.nm 4) .nil)))) (.var 0)) (.cons (.ret (.or (.var 3) (.bf .all (.cons (.lc (.cmp .inn (.var 5) (.var 1)) (.nm 5) (.seq (.var 4)) .none [5]) .nil)))) .nil))⟩
/-- number_of -/
def F116 : Fd := ⟨2, 4, (.cons (.set 2 (.lc (.var 3) (.nm 3) (.rng (.cons (.neg (.var 1)) (.cons (.bin .add (.var 1) (.con (.int 1))) .nil))) (.some (.cmp .eq (.var 0) (.bf .str (.cons (.var 3) .nil)))) [3])) (.cons (.ret (.ife (.cmp .ne (.var 2) (.lst .nil)) (.ix (.var 2) (.con (.int 0))) (.con .non))) .nil))⟩
/-- numbers_of -/
def F117 : Fd := ⟨2, 4, (.cons (.set 2 (.lc (.call 116 (.cons (.var 3) (.cons (.con (.int 5)) .nil))) (.nm 3) (.seq (.var 0)) .none [3])) (.cons (.ret (.ife (.and (.cmp .eq (.bf .len (.cons (.var 2) .nil)) (.var 1)) (.cmp .nin (.con .non) (.var 2))) (.bf .tuple (.cons (.var 2) .nil)) (.con .non))) .nil))⟩
/-- is_script_text -/
def F118 : Fd := ⟨1, 2, (.cons (.iff (.or (.not (.isi .tuple (.var 0))) (.cmp .gt (.bf .len (.cons (.var 0) .nil)) (.glob (Str.ofString "MOST_PUSHES") 1))) (.cons (.ret (.con (.bl false))) .nil) .nil) (.cons (.ret (.bf .all (.cons (.lc (.call 18 (.cons (.glob (Str.ofString "WIDE") 4) (.cons (.var 1) .nil))) (.nm 1) (.seq (.var 0)) .none [1]) .nil))) .nil))⟩
/-- _law_lines -/
def F119 : Fd := ⟨1, 10, (.cons (.asg (.tp (.cons (.nm 1) (.cons (.nm 2) (.cons (.nm 3) .nil)))) (.var 0)) (.cons (.seto 4 (.lst (.cons (.bin .add (.con (.str (Str.ofString "width "))) (.bf .str (.cons (.var 1) .nil))) .nil))) (.cons (.for_ (.tp (.cons (.nm 5) (.cons (.nm 6) .nil))) (.seq (.var 2)) (.cons (.app 4 (.bin .add (.bin .add (.bin .add (.con (.str (Str.ofString "door "))) (.bf .str (.cons (.var 5) .nil))) (.con (.str (Str.ofString " ")))) (.bf .str (.cons (.var 6) .nil)))) .nil)) (.cons (.for_ (.tp (.cons (.nm 7) (.cons (.nm 8) (.cons (.nm 9) .nil)))) (.seq (.var 3)) (.cons (.app 4 (.bin .add (.bin .add (.bin .add (.bin .add (.bin .add (.con (.str (Str.ofString "lip "))) (.bf .str (.cons (.var 7) .nil))) (.con (.str (Str.ofString " ")))) (.bf .str (.cons (.var 8) .nil))) (.con (.str (Str.ofString " ")))) (.bf .str (.cons (.var 9) .nil)))) .nil)) (.cons (.ret (.var 4)) .nil)))))⟩
/-- _law_push_line -/
def F120 : Fd := ⟨1, 1, (.cons (.ret (.bin .add (.bin .add (.bin .add (.bin .add (.ix (.var 0) (.con (.int 0))) (.con (.str (Str.ofString " ")))) (.bf .str (.cons (.ix (.var 0) (.con (.int 1))) .nil))) (.con (.str (Str.ofString " ")))) (.bf .str (.cons (.ix (.var 0) (.con (.int 2))) .nil)))) .nil)⟩
/-- _law_number -/
def F121 : Fd := ⟨2, 3, (.cons (.ret (.lc (.var 2) (.nm 2) (.rng (.cons (.bin .sub (.con (.int 0)) (.var 1)) (.cons (.bin .add (.var 1) (.con (.int 1))) .nil))) (.some (.cmp .eq (.bf .str (.cons (.var 2) .nil)) (.var 0))) [2])) .nil)⟩
/-- together -/
def F122 : Fd := ⟨2, 2, (.cons (.iff (.cmp .gt (.bin .add (.bf .len (.cons (.var 0) .nil)) (.bf .len (.cons (.var 1) .nil))) (.glob (Str.ofString "MOST_PUSHES") 1)) (.cons (.raise 2) .nil) .nil) (.cons (.ret (.bin .add (.var 0) (.var 1))) .nil))⟩
/-- longer -/
def F123 : Fd := ⟨3, 3, (.cons (.iff (.not (.call 18 (.cons (.var 0) (.cons (.var 2) .nil)))) (.cons (.raise 3) .nil) .nil) (.cons (.ret (.call 122 (.cons (.var 1) (.cons (.tup (.cons (.var 2) .nil)) .nil)))) .nil))⟩
/-- _law_grown -/
def F124 : Fd := ⟨2, 2, (.cons (.aug 0 false (.var 1)) (.cons (.ret (.var 0)) .nil))⟩
/-- _wall -/
def F125 : Fd := ⟨1, 1, (.cons (.while_ (.con (.bl true)) (.cons .skip .nil)) .nil)⟩
/-- _law_led_on -/
def F126 : Fd := ⟨2, 3, (.cons (.set 2 (.var 0)) (.cons (.aug 2 false (.var 1)) (.cons (.ret (.cmp .eq (.var 2) (.var 0))) .nil)))⟩
/-- _law_place_word -/
def F127 : Fd := ⟨1, 1, (.cons (.ret (.ife (.cmp .eq (.ix (.var 0) (.con (.int 1))) (.con (.int 1))) (.bf .str (.cons (.ix (.var 0) (.con (.int 0))) .nil)) (.bin .add (.bin .add (.bf .str (.cons (.ix (.var 0) (.con (.int 0))) .nil)) (.con (.str (Str.ofString "/")))) (.bf .str (.cons (.ix (.var 0) (.con (.int 1))) .nil))))) .nil)⟩
/-- _law_tried_on -/
def F128 : Fd := ⟨3, 3, (.cons (.ex (.call 126 (.cons (.var 0) (.cons (.var 1) .nil)))) (.cons (.ret (.ife (.notn (.var 2)) (.ix (.var 0) (.var 2)) (.bf .len (.cons (.var 0) .nil)))) .nil))⟩
def TT : Nat → Option Fd
  | 0 => some F0
  | 1 => some F1
  | 2 => some F2
  | 3 => some F3
  | 4 => some F4
  | 5 => some F5
  | 6 => some F6
  | 7 => some F7
  | 8 => some F8
  | 9 => some F9
  | 10 => some F10
  | 11 => some F11
  | 12 => some F12
  | 13 => some F13
  | 14 => some F14
  | 15 => some F15
  | 16 => some F16
  | 17 => some F17
  | 18 => some F18
  | 19 => some F19
  | 20 => some F20
  | 21 => some F21
  | 22 => some F22
  | 23 => some F23
  | 24 => some F24
  | 25 => some F25
  | 26 => some F26
  | 27 => some F27
  | 28 => some F28
  | 29 => some F29
  | 30 => some F30
  | 31 => some F31
  | 32 => some F32
  | 33 => some F33
  | 34 => some F34
  | 35 => some F35
  | 36 => some F36
  | 37 => some F37
  | 38 => some F38
  | 39 => some F39
  | 40 => some F40
  | 41 => some F41
  | 42 => some F42
  | 43 => some F43
  | 44 => some F44
  | 45 => some F45
  | 46 => some F46
  | 47 => some F47
  | 48 => some F48
  | 49 => some F49
  | 50 => some F50
  | 51 => some F51
  | 52 => some F52
  | 53 => some F53
  | 54 => some F54
  | 55 => some F55
  | 56 => some F56
  | 57 => some F57
  | 58 => some F58
  | 59 => some F59
  | 60 => some F60
  | 61 => some F61
  | 62 => some F62
  | 63 => some F63
  | 64 => some F64
  | 65 => some F65
  | 66 => some F66
  | 67 => some F67
  | 68 => some F68
  | 69 => some F69
  | 70 => some F70
  | 71 => some F71
  | 72 => some F72
  | 73 => some F73
  | 74 => some F74
  | 75 => some F75
  | 76 => some F76
  | 77 => some F77
  | 78 => some F78
  | 79 => some F79
  | 80 => some F80
  | 81 => some F81
  | 82 => some F82
  | 83 => some F83
  | 84 => some F84
  | 85 => some F85
  | 86 => some F86
  | 87 => some F87
  | 88 => some F88
  | 89 => some F89
  | 90 => some F90
  | 91 => some F91
  | 92 => some F92
  | 93 => some F93
  | 94 => some F94
  | 95 => some F95
  | 96 => some F96
  | 97 => some F97
  | 98 => some F98
  | 99 => some F99
  | 100 => some F100
  | 101 => some F101
  | 102 => some F102
  | 103 => some F103
  | 104 => some F104
  | 105 => some F105
  | 106 => some F106
  | 107 => some F107
  | 108 => some F108
  | 109 => some F109
  | 110 => some F110
  | 111 => some F111
  | 112 => some F112
  | 113 => some F113
  | 114 => some F114
  | 115 => some F115
  | 116 => some F116
  | 117 => some F117
  | 118 => some F118
  | 119 => some F119
  | 120 => some F120
  | 121 => some F121
  | 122 => some F122
  | 123 => some F123
  | 124 => some F124
  | 125 => some F125
  | 126 => some F126
  | 127 => some F127
  | 128 => some F128
  | _ => none
theorem T0 : TT 0 = some F0 := rfl
theorem T1 : TT 1 = some F1 := rfl
theorem T2 : TT 2 = some F2 := rfl
theorem T3 : TT 3 = some F3 := rfl
theorem T4 : TT 4 = some F4 := rfl
theorem T5 : TT 5 = some F5 := rfl
theorem T6 : TT 6 = some F6 := rfl
theorem T7 : TT 7 = some F7 := rfl
theorem T8 : TT 8 = some F8 := rfl
theorem T9 : TT 9 = some F9 := rfl
theorem T10 : TT 10 = some F10 := rfl
theorem T11 : TT 11 = some F11 := rfl
theorem T12 : TT 12 = some F12 := rfl
theorem T13 : TT 13 = some F13 := rfl
theorem T14 : TT 14 = some F14 := rfl
theorem T15 : TT 15 = some F15 := rfl
theorem T16 : TT 16 = some F16 := rfl
theorem T17 : TT 17 = some F17 := rfl
theorem T18 : TT 18 = some F18 := rfl
theorem T19 : TT 19 = some F19 := rfl
theorem T20 : TT 20 = some F20 := rfl
theorem T21 : TT 21 = some F21 := rfl
theorem T22 : TT 22 = some F22 := rfl
theorem T23 : TT 23 = some F23 := rfl
theorem T24 : TT 24 = some F24 := rfl
theorem T25 : TT 25 = some F25 := rfl
theorem T26 : TT 26 = some F26 := rfl
theorem T27 : TT 27 = some F27 := rfl
theorem T28 : TT 28 = some F28 := rfl
theorem T29 : TT 29 = some F29 := rfl
theorem T30 : TT 30 = some F30 := rfl
theorem T31 : TT 31 = some F31 := rfl
theorem T32 : TT 32 = some F32 := rfl
theorem T33 : TT 33 = some F33 := rfl
theorem T34 : TT 34 = some F34 := rfl
theorem T35 : TT 35 = some F35 := rfl
theorem T36 : TT 36 = some F36 := rfl
theorem T37 : TT 37 = some F37 := rfl
theorem T38 : TT 38 = some F38 := rfl
theorem T39 : TT 39 = some F39 := rfl
theorem T40 : TT 40 = some F40 := rfl
theorem T41 : TT 41 = some F41 := rfl
theorem T42 : TT 42 = some F42 := rfl
theorem T43 : TT 43 = some F43 := rfl
theorem T44 : TT 44 = some F44 := rfl
theorem T45 : TT 45 = some F45 := rfl
theorem T46 : TT 46 = some F46 := rfl
theorem T47 : TT 47 = some F47 := rfl
theorem T48 : TT 48 = some F48 := rfl
theorem T49 : TT 49 = some F49 := rfl
theorem T50 : TT 50 = some F50 := rfl
theorem T51 : TT 51 = some F51 := rfl
theorem T52 : TT 52 = some F52 := rfl
theorem T53 : TT 53 = some F53 := rfl
theorem T54 : TT 54 = some F54 := rfl
theorem T55 : TT 55 = some F55 := rfl
theorem T56 : TT 56 = some F56 := rfl
theorem T57 : TT 57 = some F57 := rfl
theorem T58 : TT 58 = some F58 := rfl
theorem T59 : TT 59 = some F59 := rfl
theorem T60 : TT 60 = some F60 := rfl
theorem T61 : TT 61 = some F61 := rfl
theorem T62 : TT 62 = some F62 := rfl
theorem T63 : TT 63 = some F63 := rfl
theorem T64 : TT 64 = some F64 := rfl
theorem T65 : TT 65 = some F65 := rfl
theorem T66 : TT 66 = some F66 := rfl
theorem T67 : TT 67 = some F67 := rfl
theorem T68 : TT 68 = some F68 := rfl
theorem T69 : TT 69 = some F69 := rfl
theorem T70 : TT 70 = some F70 := rfl
theorem T71 : TT 71 = some F71 := rfl
theorem T72 : TT 72 = some F72 := rfl
theorem T73 : TT 73 = some F73 := rfl
theorem T74 : TT 74 = some F74 := rfl
theorem T75 : TT 75 = some F75 := rfl
theorem T76 : TT 76 = some F76 := rfl
theorem T77 : TT 77 = some F77 := rfl
theorem T78 : TT 78 = some F78 := rfl
theorem T79 : TT 79 = some F79 := rfl
theorem T80 : TT 80 = some F80 := rfl
theorem T81 : TT 81 = some F81 := rfl
theorem T82 : TT 82 = some F82 := rfl
theorem T83 : TT 83 = some F83 := rfl
theorem T84 : TT 84 = some F84 := rfl
theorem T85 : TT 85 = some F85 := rfl
theorem T86 : TT 86 = some F86 := rfl
theorem T87 : TT 87 = some F87 := rfl
theorem T88 : TT 88 = some F88 := rfl
theorem T89 : TT 89 = some F89 := rfl
theorem T90 : TT 90 = some F90 := rfl
theorem T91 : TT 91 = some F91 := rfl
theorem T92 : TT 92 = some F92 := rfl
theorem T93 : TT 93 = some F93 := rfl
theorem T94 : TT 94 = some F94 := rfl
theorem T95 : TT 95 = some F95 := rfl
theorem T96 : TT 96 = some F96 := rfl
theorem T97 : TT 97 = some F97 := rfl
theorem T98 : TT 98 = some F98 := rfl
theorem T99 : TT 99 = some F99 := rfl
theorem T100 : TT 100 = some F100 := rfl
theorem T101 : TT 101 = some F101 := rfl
theorem T102 : TT 102 = some F102 := rfl
theorem T103 : TT 103 = some F103 := rfl
theorem T104 : TT 104 = some F104 := rfl
theorem T105 : TT 105 = some F105 := rfl
theorem T106 : TT 106 = some F106 := rfl
theorem T107 : TT 107 = some F107 := rfl
theorem T108 : TT 108 = some F108 := rfl
theorem T109 : TT 109 = some F109 := rfl
theorem T110 : TT 110 = some F110 := rfl
theorem T111 : TT 111 = some F111 := rfl
theorem T112 : TT 112 = some F112 := rfl
theorem T113 : TT 113 = some F113 := rfl
theorem T114 : TT 114 = some F114 := rfl
theorem T115 : TT 115 = some F115 := rfl
theorem T116 : TT 116 = some F116 := rfl
theorem T117 : TT 117 = some F117 := rfl
theorem T118 : TT 118 = some F118 := rfl
theorem T119 : TT 119 = some F119 := rfl
theorem T120 : TT 120 = some F120 := rfl
theorem T121 : TT 121 = some F121 := rfl
theorem T122 : TT 122 = some F122 := rfl
theorem T123 : TT 123 = some F123 := rfl
theorem T124 : TT 124 = some F124 := rfl
theorem T125 : TT 125 = some F125 := rfl
theorem T126 : TT 126 = some F126 := rfl
theorem T127 : TT 127 = some F127 := rfl
theorem T128 : TT 128 = some F128 := rfl
abbrev WF : Nat := 1000000000000000000000000000000
end Mi
end
section
set_option Elab.async false
set_option linter.all false
set_option maxRecDepth 100000
set_option maxHeartbeats 1000000
/-! PL: the evaluator, symbolically. -/
namespace Mi
open PySem L2
theorem bnd_pur {α β : Type} (a : α) (f : α → M β) : bnd (pur a) f = f a := rfl
theorem bnd_stk {α β : Type} (f : α → M β) : bnd stk f = stk := rfl
theorem lif_some {α : Type} (a : α) : lif (some a) = pur a := rfl
theorem thn_pur {α : Type} (a : α) (s : Sto) (f : α → Sto → SR) : thn (pur a s) f = f a s := rfl
theorem thn_ok {α : Type} (a : α) (s : Sto) (f : α → Sto → SR) : thn (.ok a s) f = f a s := rfl
theorem nox_pur {α : Type} (a : α) : nox (pur a) = pur a := rfl
theorem bnd_assoc {α β γ : Type} (m : M α) (f : α → M β) (g : β → M γ) : bnd (bnd m f) g = bnd m fun a => bnd (f a) g := by
  funext s
  unfold bnd
  cases m s <;> rfl
theorem bnd_ite {α β : Type} (c : Prop) [Decidable c] (a b : M α) (f : α → M β) : bnd (if c then a else b) f = if c then bnd a f else bnd b f := by
  by_cases h : c
  · rw [if_pos h, if_pos h]
  · rw [if_neg h, if_neg h]
/-- the simp set -/
theorem sx : (∀ {α β : Type} (a : α) (f : α → M β), bnd (pur a) f = f a) ∧ (∀ {α : Type} (a : α), lif (some a) = pur a) ∧ (∀ {α : Type} (a : α) (s : Sto) (f : α → Sto → SR), thn (pur a s) f = f a s) ∧ (∀ {α : Type} (a : α) (s : Sto) (f : α → Sto → SR), thn (.ok a s) f = f a s) ∧ (∀ {α : Type} (a : α), nox (pur a) = pur a) :=
  ⟨fun a f => rfl, fun a => rfl, fun a s f => rfl, fun a s f => rfl, fun a => rfl⟩
theorem callN_at {W n f : Nat} {fd : Fd} {ds : List D} {s : Sto} (h : TT f = some fd) (hl : ds.length = fd.np) : callN TT W (n + 1) f ds s = (match evB (callN TT W n) W fd.body (ds.map .val ++ List.replicate (fd.nl - fd.np) .no) s with
    | .nx _ s' => .ok .non s'
    | .rt d s' => .ok d s'
    | .exc c a s' => .exc c a s'
    | _ => .stuck) := by
  show (match TT f with | some fd => evF (callN TT W n) W fd ds | none => stk) s = _
  rw [h]
  show evF _ _ _ _ _ = _
  unfold evF
  have : (ds.length == fd.np) = true := by simp [hl]
  rw [this] <;> rfl
theorem callN_pur {W n f : Nat} {fd : Fd} {ds : List D} {d : D} (h : TT f = some fd) (hl : ds.length = fd.np) (e : ∀ s, evB (callN TT W n) W fd.body (ds.map .val ++ List.replicate (fd.nl - fd.np) .no) s = .rt d s) : callN TT W (n + 1) f ds = pur d := by
  funext s
  rw [callN_at h hl, e s] <;> rfl
theorem compL_pur {f : D → M (List D)} {g : D → List D} : ∀ {ds : List D}, (∀ d ∈ ds, f d = pur (g d)) → compL f ds = pur (ds.flatMap g)
  | [], _ => rfl
  | d :: ds, h => by
    unfold compL
    rw [h d List.mem_cons_self, bnd_pur, compL_pur fun x hx => h x (List.mem_cons_of_mem _ hx), bnd_pur, List.flatMap_cons]
/-- the values of a pair of bounds: is it an int in there -/
theorem w_F0 {W n : Nat} (v lo hi : Int) : callN TT W (n + 1) 0 [.int v, .int lo, .int hi] = pur (.bl (decide (lo ≤ v ∧ v ≤ hi))) := by
  refine callN_pur T0 rfl fun s => ?_
  by_cases h : lo ≤ v <;> simp [F0, evB, evS, ev, frzE, Sl.frz, sx, getV, isTy, isK, kd, asB, opc, h]
theorem w_F1 {W n : Nat} (xs : List D) (lo hi : Int) : callN TT W (n + 1) 1 [.tup xs, .int lo, .int hi] = pur (.bl (decide (lo ≤ xs.length ∧ (xs.length : Int) ≤ hi))) := by
  refine callN_pur T1 rfl fun s => ?_
  by_cases h : lo ≤ xs.length <;> simp [F1, evB, evS, ev, evL, frzE, Sl.frz, sx, getV, isTy, isK, kd, asB, opc, bfn, h]
theorem w_F2 {W n : Nat} (w t v : Int) : callN TT W (n + 2) 2 [.int w, .tup [.int t, .int v]] = pur (.bl (decide (0 ≤ t ∧ t ≤ 1) && decide (1 ≤ v ∧ v ≤ w))) := by
  refine callN_pur T2 rfl fun s => ?_
  by_cases h : 0 ≤ t ∧ t ≤ 1 <;> simp [F2, evB, evS, ev, evL, frzE, Sl.frz, sx, getV, isTy, isK, kd, asB, opc, bfn, w_F0, w_F1, ixD, atI, ixN, h]
end Mi
end
section
set_option Elab.async false
set_option linter.all false
set_option maxRecDepth 100000
set_option maxHeartbeats 1000000
/-! PE: == of plain values. -/
namespace Mi
open PySem L2

mutual
def plD : Nat → D → Bool
  | _, .int _ => true
  | _, .non => true
  | _, .str x => PyData.strOk x
  | 0, .tup _ => false
  | 0, .lst _ => false
  | n + 1, .tup xs => plL n xs
  | n + 1, .lst xs => plL n xs
  | _, .bl _ => false
  | _, .box _ => false
def plL : Nat → List D → Bool
  | _, [] => true
  | n, x :: xs => plD n x && plL n xs
end
theorem plL_all {n : Nat} : ∀ {xs : List D}, plL n xs = true ↔ ∀ x ∈ xs, plD n x = true
  | [] => by simp [plL]
  | x :: xs => by
    unfold plL
    simp [plL_all (xs := xs)]
mutual
theorem pl_lay : ∀ (n : Nat) (d : D), plD n d = true → (toPy d).canLay0 = true ∧ (toPy d).depth ≤ n
  | n, .int i, _ => by simp [toPy, PyData.canLay0, PyData.depth]
  | n, .non, _ => by simp [toPy, PyData.canLay0, PyData.depth]
  | n, .str x, h => by
    have h : PyData.strOk x = true := by cases n <;> simpa [plD] using h
    simp [toPy, PyData.canLay0, PyData.depth, h]
  | 0, .tup xs, h => by simp [plD] at h
  | 0, .lst xs, h => by simp [plD] at h
  | n + 1, .tup xs, h => by
    obtain ⟨h1, h2⟩ := pl_layL n xs (by simpa [plD] using h)
    simp only [toPy, PyData.canLay0, PyData.depth]
    exact ⟨h1, by omega⟩
  | n + 1, .lst xs, h => by
    obtain ⟨h1, h2⟩ := pl_layL n xs (by simpa [plD] using h)
    simp only [toPy, PyData.canLay0, PyData.depth]
    exact ⟨h1, by omega⟩
  | n, .bl b, h => by cases n <;> simp [plD] at h
  | n, .box b, h => by cases n <;> simp [plD] at h
theorem pl_layL : ∀ (n : Nat) (d : List D), plL n d = true → PyData.canLayAll0 (toPyL d) = true ∧ PyData.depthAll (toPyL d) ≤ n
  | n, [], _ => by simp [toPyL, PyData.canLayAll0, PyData.depthAll]
  | n, x :: xs, h => by
    unfold plL at h
    obtain ⟨h1, h2⟩ := Bool.and_eq_true_iff.mp h
    obtain ⟨a1, a2⟩ := pl_lay n x h1
    obtain ⟨b1, b2⟩ := pl_layL n xs h2
    simp only [toPyL, PyData.canLayAll0, PyData.depthAll, a1, b1, Bool.and_self, true_and]
    omega
end
theorem pl_shd {n : Nat} {d : D} (h : plD n d = true) (hn : n ≤ 60) : shd d = true := by
  obtain ⟨h1, h2⟩ := pl_lay n d h
  unfold shd SeqAt.shaped
  rw [h1]
  simp
  omega
mutual
theorem pl_eqv : ∀ (n m : Nat) (x y : D), plD n x = true → plD m y = true → (PyData.eqv (toPy x) (toPy y) = true ↔ x = y)
  | n, m, .int i, y, hx, hy => by
    cases y <;> simp [toPy, PyData.eqv] <;> (cases m <;> simp [plD] at hy)
  | n, m, .non, y, hx, hy => by
    cases y <;> simp [toPy, PyData.eqv] <;> (cases m <;> simp [plD] at hy)
  | n, m, .str x, y, hx, hy => by
    cases y <;> simp [toPy, PyData.eqv] <;> (cases m <;> simp [plD] at hy)
  | 0, m, .tup xs, y, hx, hy => by simp [plD] at hx
  | 0, m, .lst xs, y, hx, hy => by simp [plD] at hx
  | n + 1, m, .tup xs, y, hx, hy => by
    cases y with
    | tup ys =>
      cases m with
      | zero => simp [plD] at hy
      | succ m =>
        simp only [toPy, PyData.eqv, D.tup.injEq]
        exact pl_eqvL n m xs ys (by simpa [plD] using hx) (by simpa [plD] using hy)
    | _ => simp [toPy, PyData.eqv] <;> (cases m <;> simp [plD] at hy)
  | n + 1, m, .lst xs, y, hx, hy => by
    cases y with
    | lst ys =>
      cases m with
      | zero => simp [plD] at hy
      | succ m =>
        simp only [toPy, PyData.eqv, D.lst.injEq]
        exact pl_eqvL n m xs ys (by simpa [plD] using hx) (by simpa [plD] using hy)
    | _ => simp [toPy, PyData.eqv] <;> (cases m <;> simp [plD] at hy)
  | n, m, .bl b, y, hx, hy => by cases n <;> simp [plD] at hx
  | n, m, .box b, y, hx, hy => by cases n <;> simp [plD] at hx
theorem pl_eqvL : ∀ (n m : Nat) (x y : List D), plL n x = true → plL m y = true → (PyData.eqvAll (toPyL x) (toPyL y) = true ↔ x = y)
  | n, m, [], [], _, _ => by simp [toPyL, PyData.eqvAll]
  | n, m, [], y :: ys, _, _ => by simp [toPyL, PyData.eqvAll]
  | n, m, x :: xs, [], _, _ => by simp [toPyL, PyData.eqvAll]
  | n, m, x :: xs, y :: ys, hx, hy => by
    unfold plL at hx hy
    obtain ⟨h1, h2⟩ := Bool.and_eq_true_iff.mp hx
    obtain ⟨h3, h4⟩ := Bool.and_eq_true_iff.mp hy
    simp only [toPyL, PyData.eqvAll, Bool.and_eq_true, List.cons.injEq]
    rw [pl_eqv n m x y h1 h3, pl_eqvL n m xs ys h2 h4]
end
theorem eqD_pl {n m : Nat} {x y : D} (hx : plD n x = true) (hy : plD m y = true) (hn : n ≤ 60) (hm : m ≤ 60) : ∃ b, eqD x y = some b ∧ (b = true ↔ x = y) := by
  refine ⟨PyData.eqv (toPy x) (toPy y), ?_, pl_eqv n m x y hx hy⟩
  unfold eqD
  rw [if_pos ⟨pl_shd hx hn, pl_shd hy hm⟩]
theorem eqD_int (a b : Int) : eqD (.int a) (.int b) = some (decide (a = b)) := by
  obtain ⟨c, h1, h2⟩ := eqD_pl (n := 0) (m := 0) (x := .int a) (y := .int b) rfl rfl (by omega) (by omega)
  rw [h1]
  congr 1
  by_cases e : a = b
  · simp [e] at h2; simp [h2, e]
  · have : ¬ c = true := fun z => e (D.int.inj (h2.mp z))
    simp [e]
    simpa using this
theorem eqD_str (a b : Str) (ha : PyData.strOk a = true) (hb : PyData.strOk b = true) : eqD (.str a) (.str b) = some (decide (a = b)) := by
  obtain ⟨c, h1, h2⟩ := eqD_pl (n := 0) (m := 0) (x := .str a) (y := .str b) (by simpa [plD] using ha) (by simpa [plD] using hb) (by omega) (by omega)
  rw [h1]
  congr 1
  by_cases e : a = b
  · simp [e] at h2; simp [h2, e]
  · have : ¬ c = true := fun z => e (D.str.inj (h2.mp z))
    simp [e]
    simpa using this
theorem eqD_pair (a b c d : Int) : eqD (.tup [.int a, .int b]) (.tup [.int c, .int d]) = some (decide (a = c ∧ b = d)) := by
  obtain ⟨e, h1, h2⟩ := eqD_pl (n := 1) (m := 1) (x := .tup [.int a, .int b]) (y := .tup [.int c, .int d]) rfl rfl (by omega) (by omega)
  rw [h1]
  congr 1
  by_cases q : a = c ∧ b = d
  · simp [q] at h2; simp [h2, q]
  · have : ¬ e = true := fun z => q (by simpa using h2.mp z)
    simp only [q, decide_false]
    simpa using this
end Mi
end
section
set_option Elab.async false
set_option linter.all false
set_option maxRecDepth 100000
set_option maxHeartbeats 1000000
set_option autoImplicit true
/-! PX: the evaluator's equations, comprehensions and loops left alone. -/
namespace Mi
open PySem L2
theorem ev_var (Φ : Nat → List D → M D) (i) {ρ : Ev} : ev Φ (.var i) ρ = (lif (getV ρ i)) := by rw [ev] <;> rfl
theorem ev_own (Φ : Nat → List D → M D) (i) {ρ : Ev} : ev Φ (.own i) ρ = (lif ((getO ρ i).map .lst)) := by rw [ev] <;> rfl
theorem ev_con (Φ : Nat → List D → M D) (d) {ρ : Ev} : ev Φ (.con d) ρ = (pur d) := by rw [ev] <;> rfl
theorem ev_glob (Φ : Nat → List D → M D) (k u0) {ρ : Ev} : ev Φ (.glob u0 k) ρ = (pur (gV k)) := by rw [ev] <;> rfl
theorem ev_bin (Φ : Nat → List D → M D) (op : Op2) (a b : CE) {ρ : Ev} : ev Φ (.bin op a b) ρ = (bnd (ev Φ a ρ) fun x => bnd (ev Φ b ρ) fun y => lif (op2 op x y)) := by rw [ev] <;> rfl
theorem ev_rep (Φ : Nat → List D → M D) (a b) {ρ : Ev} : ev Φ (.rep a b) ρ = (bnd (ev Φ a ρ) fun x => bnd (ev Φ b ρ) fun y => lif (repL x y)) := by rw [ev] <;> rfl
theorem ev_neg (Φ : Nat → List D → M D) (a) {ρ : Ev} : ev Φ (.neg a) ρ = (bnd (ev Φ a ρ) fun x => lif ((asI x).map fun i => .int (-i))) := by rw [ev] <;> rfl
theorem ev_cmp (Φ : Nat → List D → M D) (op : OpC) (a b : CE) {ρ : Ev} : ev Φ (.cmp op a b) ρ = (bnd (ev Φ a ρ) fun x => bnd (ev Φ b ρ) fun y => lif ((opc op x y).map .bl)) := by rw [ev] <;> rfl
theorem ev_chain (Φ : Nat → List D → M D) (op op' : OpC) (a b c : CE) {ρ : Ev} : ev Φ (.chain op op' a b c) ρ = (bnd (ev Φ a ρ) fun x => bnd (ev Φ b ρ) fun y => bnd (lif (opc op x y)) fun k => match k with
      | true => bnd (ev Φ c ρ) fun z => lif ((opc op' y z).map .bl)
      | false => pur (.bl false)) := by rw [ev] <;> rfl
theorem ev_isn (Φ : Nat → List D → M D) (a) {ρ : Ev} : ev Φ (.isn a) ρ = (bnd (ev Φ a ρ) fun x => pur (.bl (isNon x))) := by rw [ev] <;> rfl
theorem ev_notn (Φ : Nat → List D → M D) (a) {ρ : Ev} : ev Φ (.notn a) ρ = (bnd (ev Φ a ρ) fun x => pur (.bl (!isNon x))) := by rw [ev] <;> rfl
theorem ev_and (Φ : Nat → List D → M D) (a b) {ρ : Ev} : ev Φ (.and a b) ρ = (bnd (ev Φ a ρ) fun x => bnd (lif (asB x)) fun c => match c with
      | true => bnd (ev Φ b ρ) fun y => lif ((asB y).map .bl)
      | false => pur (.bl false)) := by rw [ev] <;> rfl
theorem ev_or (Φ : Nat → List D → M D) (a b) {ρ : Ev} : ev Φ (.or a b) ρ = (bnd (ev Φ a ρ) fun x => bnd (lif (asB x)) fun c => match c with
      | true => pur (.bl true)
      | false => bnd (ev Φ b ρ) fun y => lif ((asB y).map .bl)) := by rw [ev] <;> rfl
theorem ev_not (Φ : Nat → List D → M D) (a) {ρ : Ev} : ev Φ (.not a) ρ = (bnd (ev Φ a ρ) fun x => lif ((asB x).map fun c => .bl (!c))) := by rw [ev] <;> rfl
theorem ev_ife (Φ : Nat → List D → M D) (c a b) {ρ : Ev} : ev Φ (.ife c a b) ρ = (bnd (ev Φ c ρ) fun x => bnd (lif (asB x)) fun k => match k with
      | true => ev Φ a ρ
      | false => ev Φ b ρ) := by rw [ev] <;> rfl
theorem ev_tup (Φ : Nat → List D → M D) (es) {ρ : Ev} : ev Φ (.tup es) ρ = (bnd (evL Φ es ρ) fun xs => pur (.tup xs)) := by rw [ev] <;> rfl
theorem ev_lst (Φ : Nat → List D → M D) (es) {ρ : Ev} : ev Φ (.lst es) ρ = (bnd (evL Φ es ρ) fun xs => pur (.lst xs)) := by rw [ev] <;> rfl
theorem ev_mkb (Φ : Nat → List D → M D) (es) {ρ : Ev} : ev Φ (.mkb es) ρ = (bnd (evL Φ es ρ) fun xs => fun s => .ok (.box s.length) (s ++ [xs])) := by rw [ev] <;> rfl
theorem ev_ix (Φ : Nat → List D → M D) (a b) {ρ : Ev} : ev Φ (.ix a b) ρ = (bnd (ev Φ a ρ) fun x => bnd (ev Φ b ρ) fun y => ixD x y) := by rw [ev] <;> rfl
theorem ev_slice (Φ : Nat → List D → M D) (a lo hi) {ρ : Ev} : ev Φ (.slice a lo hi) ρ = (bnd (ev Φ a ρ) fun x => bnd (evO Φ lo ρ) fun l => bnd (evO Φ hi ρ) fun h => lif (sliceD x l h)) := by rw [ev] <;> rfl
theorem ev_call (Φ : Nat → List D → M D) (f es) {ρ : Ev} : ev Φ (.call f es) ρ = (bnd (evL Φ es ρ) fun xs => Φ f xs) := by rw [ev] <;> rfl
theorem ev_bf (Φ : Nat → List D → M D) (b es) {ρ : Ev} : ev Φ (.bf b es) ρ = (bnd (evL Φ es ρ) fun xs => lif (bfn b xs)) := by rw [ev] <;> rfl
theorem ev_isi (Φ : Nat → List D → M D) (t a) {ρ : Ev} : ev Φ (.isi t a) ρ = (bnd (ev Φ a ρ) fun x => pur (.bl (isTy t x))) := by rw [ev] <;> rfl
theorem ev_isi2 (Φ : Nat → List D → M D) (t u a) {ρ : Ev} : ev Φ (.isi2 t u a) ρ = (bnd (ev Φ a ρ) fun x => pur (.bl (isTy t x || isTy u x))) := by rw [ev] <;> rfl
theorem ev_lrng (Φ : Nat → List D → M D) (es) {ρ : Ev} : ev Φ (.lrng es) ρ = (bnd (evL Φ es ρ) fun xs => match xs with
      | [.int n] => lif ((rngD 0 n).map .lst)
      | [.int a, .int b] => lif ((rngD a b).map .lst)
      | _ => stk) := by rw [ev] <;> rfl
theorem ev_lzip (Φ : Nat → List D → M D) (a b) {ρ : Ev} : ev Φ (.lzip a b) ρ = (bnd (ev Φ a ρ) fun x => bnd (ev Φ b ρ) fun y => match x, y with
      | .lst xs, .lst ys => pur (.lst (zipD xs ys))
      | .tup xs, .tup ys => pur (.lst (zipD xs ys))
      | _, _ => stk) := by rw [ev] <;> rfl
theorem ev_sset (Φ : Nat → List D → M D) (a) {ρ : Ev} : ev Φ (.sset a) ρ = (bnd (ev Φ a ρ) fun x => lif (ssetD x)) := by rw [ev] <;> rfl
theorem ev_lset (Φ : Nat → List D → M D) (a) {ρ : Ev} : ev Φ (.lset a) ρ = (bnd (ev Φ a ρ) fun x => match x with
      | .tup xs => match intsOf xs with
        | some is => if is.length < 64 then pur (.int (sortI is).length) else stk
        | none => stk
      | _ => stk) := by rw [ev] <;> rfl
theorem evL_nil (Φ : Nat → List D → M D) {ρ : Ev} : evL Φ (.nil) ρ = (pur []) := by rw [evL] <;> rfl
theorem evL_cons (Φ : Nat → List D → M D) (e r) {ρ : Ev} : evL Φ (.cons e r) ρ = (bnd (ev Φ e ρ) fun x => bnd (evL Φ r ρ) fun xs => pur (x :: xs)) := by rw [evL] <;> rfl
theorem evO_none (Φ : Nat → List D → M D) {ρ : Ev} : evO Φ (.none) ρ = (pur none) := by rw [evO] <;> rfl
theorem evO_some (Φ : Nat → List D → M D) (e) {ρ : Ev} : evO Φ (.some e) ρ = (bnd (ev Φ e ρ) fun x => bnd (lif (asI x)) fun i => pur (some i)) := by rw [evO] <;> rfl
theorem evC_none (Φ : Nat → List D → M D) {ρ : Ev} : evC Φ (.none) ρ = (pur true) := by rw [evC] <;> rfl
theorem evC_some (Φ : Nat → List D → M D) (e) {ρ : Ev} : evC Φ (.some e) ρ = (bnd (ev Φ e ρ) fun x => lif (asB x)) := by rw [evC] <;> rfl
theorem evI_seq (Φ : Nat → List D → M D) (e) {ρ : Ev} : evI Φ (.seq e) ρ = (bnd (ev Φ e ρ) fun x => lif (seqOf x)) := by rw [evI] <;> rfl
theorem evI_rng (Φ : Nat → List D → M D) (es) {ρ : Ev} : evI Φ (.rng es) ρ = (bnd (evL Φ es ρ) fun xs => match xs with
      | [.int n] => lif (rngD 0 n)
      | [.int a, .int b] => lif (rngD a b)
      | _ => stk) := by rw [evI] <;> rfl
theorem evI_zip (Φ : Nat → List D → M D) (a b) {ρ : Ev} : evI Φ (.zip a b) ρ = (bnd (ev Φ a ρ) fun x => bnd (ev Φ b ρ) fun y => match x, y with
      | .lst xs, .lst ys => pur (zipD xs ys)
      | .tup xs, .tup ys => pur (zipD xs ys)
      | _, _ => stk) := by rw [evI] <;> rfl
theorem evI_enum (Φ : Nat → List D → M D) (a) {ρ : Ev} : evI Φ (.enum a) ρ = (bnd (ev Φ a ρ) fun x => bnd (lif (lstOf x)) fun xs => pur (enumD 0 xs)) := by rw [evI] <;> rfl
end Mi
end
section
set_option Elab.async false
set_option linter.all false
set_option maxRecDepth 100000
set_option maxHeartbeats 1000000
/-! PC: comprehensions, loops. -/
namespace Mi
open PySem L2
theorem compL_gen {α : Type} (f : D → M (List D)) (c : α → D) (g : α → List D) : ∀ xs : List α, (∀ x ∈ xs, f (c x) = pur (g x)) → compL f (xs.map c) = pur (xs.flatMap g)
  | [], _ => rfl
  | x :: xs, q => by
    rw [List.map_cons]
    unfold compL
    rw [q x List.mem_cons_self, bnd_pur, compL_gen f c g xs fun y hy => q y (List.mem_cons_of_mem _ hy), bnd_pur, List.flatMap_cons]
theorem flat_filter {α β : Type} (p : α → Bool) (h : α → β) : ∀ xs : List α, (xs.flatMap fun x => if p x = true then [h x] else []) = (xs.filter p).map h
  | [] => rfl
  | x :: xs => by
    rw [List.flatMap_cons, flat_filter p h xs, List.filter_cons]
    cases p x <;> simp
section
variable {Φ : Nat → List D → M D} {e : CE} {t t1 : CT} {it it1 : CI} {c c1 : CO} {vs vs1 : List Nat} {ρ : Ev}
theorem lc_ok {α : Type} {xs : List α} {cv : α → D} {p : α → Bool} {h : α → D} (hi : evI Φ it ρ = pur (xs.map cv)) (hs : ∀ x ∈ xs, ∃ ρ1, tgt t (cv x) (wipeD ρ vs) = some ρ1 ∧ evC Φ c ρ1 = pur (p x) ∧ (p x = true → ev Φ e ρ1 = pur (h x))) :
    ev Φ (.lc e t it c vs) ρ = pur (.lst ((xs.filter p).map h)) := by
  rw [ev, hi, bnd_pur]
  rw [compL_gen _ cv (fun x => if p x = true then [h x] else []) xs fun x hx => ?_]
  · rw [bnd_pur, nox_pur, flat_filter]
  · obtain ⟨ρ1, h1, h2, h3⟩ := hs x hx
    rw [h1, lif_some, bnd_pur, h2, bnd_pur]
    cases q : p x with
    | true =>
      show bnd (ev Φ e ρ1) (fun x => pur [x]) = pur _
      rw [h3 q, bnd_pur] <;> rfl
    | false => rfl
theorem lc_map {α : Type} {xs : List α} {cv : α → D} {h : α → D} (hi : evI Φ it ρ = pur (xs.map cv)) (hs : ∀ x ∈ xs, ∃ ρ1, tgt t (cv x) (wipeD ρ vs) = some ρ1 ∧ ev Φ e ρ1 = pur (h x)) :
    ev Φ (.lc e t it .none vs) ρ = pur (.lst (xs.map h)) := by
  have := lc_ok (Φ := Φ) (e := e) (t := t) (it := it) (c := .none) (vs := vs) (ρ := ρ) (p := fun _ => true) hi fun x hx => by
    obtain ⟨ρ1, h1, h2⟩ := hs x hx
    exact ⟨ρ1, h1, evC_none Φ, fun _ => h2⟩
  rw [this, List.filter_eq_self.mpr fun _ _ => rfl]
theorem lc2_ok {α β : Type} {xs : List α} {cv : α → D} {p : α → Bool} {ys : α → List β} {dv : β → D} {q : α → β → Bool} {h : α → β → D} (hi : evI Φ it ρ = pur (xs.map cv))
    (hs : ∀ x ∈ xs, ∃ ρ1, tgt t (cv x) (wipeD (dropO ρ) vs) = some ρ1 ∧ evC Φ c ρ1 = pur (p x) ∧ (p x = true → evI Φ it1 ρ1 = pur ((ys x).map dv) ∧
      ∀ y ∈ ys x, ∃ ρ2, tgt t1 (dv y) (wipeD ρ1 vs1) = some ρ2 ∧ evC Φ c1 ρ2 = pur (q x y) ∧ (q x y = true → ev Φ e ρ2 = pur (h x y)))) (hl : ((xs.filter p).flatMap fun x => ((ys x).filter (q x)).map (h x)).length ≤ LIM) :
    ev Φ (.lc2 e t it c t1 it1 c1 vs vs1) ρ = pur (.lst ((xs.filter p).flatMap fun x => ((ys x).filter (q x)).map (h x))) := by
  rw [ev, hi, bnd_pur]
  rw [compL_gen _ cv (fun x => if p x = true then ((ys x).filter (q x)).map (h x) else []) xs fun x hx => ?_]
  · have e1 : (xs.flatMap fun x => if p x = true then ((ys x).filter (q x)).map (h x) else []) = (xs.filter p).flatMap fun x => ((ys x).filter (q x)).map (h x) := by
      clear hl hs hi
      induction xs with
      | nil => rfl
      | cons x xs ih =>
        rw [List.flatMap_cons, ih, List.filter_cons]
        cases p x <;> simp
    rw [bnd_pur, e1, if_pos hl, nox_pur]
  · obtain ⟨ρ1, h1, h2, h3⟩ := hs x hx
    rw [h1, lif_some, bnd_pur, h2, bnd_pur]
    cases r : p x with
    | true =>
      obtain ⟨h4, h5⟩ := h3 r
      show bnd (evI Φ it1 ρ1) _ = pur _
      rw [h4, bnd_pur]
      rw [compL_gen _ dv (fun y => if q x y = true then [h x y] else []) (ys x) fun y hy => ?_]
      · rw [flat_filter]
        rfl
      · obtain ⟨ρ2, k1, k2, k3⟩ := h5 y hy
        rw [k1, lif_some, bnd_pur, k2, bnd_pur]
        cases r2 : q x y with
        | true =>
          show bnd (ev Φ e ρ2) (fun x => pur [x]) = pur _
          rw [k3 r2, bnd_pur] <;> rfl
        | false => rfl
    | false => rfl
end
theorem ix0 (a : D) (r : List D) : ixD (.tup (a :: r)) (.int 0) = pur a := by
  simp [ixD, atI, ixN, lif_some]
theorem ix1 (a b : D) (r : List D) : ixD (.tup (a :: b :: r)) (.int 1) = pur b := by
  show lif (atI _ 1) = _
  unfold atI ixN
  rw [if_pos (by decide), if_pos (by simp only [List.length_cons]; omega)] <;> rfl
theorem ix2 (a b c : D) (r : List D) : ixD (.tup (a :: b :: c :: r)) (.int 2) = pur c := by
  show lif (atI _ 2) = _
  unfold atI ixN
  rw [if_pos (by decide), if_pos (by simp only [List.length_cons]; omega)] <;> rfl
theorem ix0l (a : D) (r : List D) : ixD (.lst (a :: r)) (.int 0) = pur a := by
  simp [ixD, atI, ixN, lif_some]
theorem ix1l (a b : D) (r : List D) : ixD (.lst (a :: b :: r)) (.int 1) = pur b := by
  show lif (atI _ 1) = _
  unfold atI ixN
  rw [if_pos (by decide), if_pos (by simp only [List.length_cons]; omega)] <;> rfl
theorem atI_map {α : Type} (c : α → D) (xs : List α) (k : Nat) (d : α) (h : k < xs.length) : atI (xs.map c) (k : Int) = some (c (xs.getD k d)) := by
  unfold atI ixN
  rw [if_pos (by omega), if_pos (by rw [List.length_map]; omega)]
  show (xs.map c)[(k : Int).toNat]? = _
  rw [Int.toNat_natCast, List.getElem?_map, List.getElem?_eq_getElem h, List.getD_eq_getElem?_getD, List.getElem?_eq_getElem h] <;> rfl
theorem ixK {α : Type} (c : α → D) (xs : List α) (k : Nat) (d : α) (h : k < xs.length) : ixD (.tup (xs.map c)) (.int (k : Int)) = pur (c (xs.getD k d)) := by
  show lif (atI (xs.map c) (k : Int)) = _
  rw [atI_map c xs k d h] <;> rfl
theorem ixKl {α : Type} (c : α → D) (xs : List α) (k : Nat) (d : α) (h : k < xs.length) : ixD (.lst (xs.map c)) (.int (k : Int)) = pur (c (xs.getD k d)) := by
  show lif (atI (xs.map c) (k : Int)) = _
  rw [atI_map c xs k d h] <;> rfl
theorem all_true {α : Type} : ∀ xs : List α, bfn .all [.lst (xs.map fun _ => .bl true)] = some (.bl true) := fun xs => by
  have : ∀ xs : List α, blsOf (xs.map fun _ => D.bl true) = some (xs.map fun _ => true) := by
    intro xs
    induction xs with
    | nil => rfl
    | cons x xs ih => simp [blsOf, ih]
  simp [bfn, this]
theorem blsOf_map {α : Type} (p : α → Bool) : ∀ xs : List α, blsOf (xs.map fun x => .bl (p x)) = some (xs.map p)
  | [] => rfl
  | x :: xs => by simp [blsOf, blsOf_map p xs]
theorem blsT {α : Type} (xs : List α) : blsOf (xs.map fun _ => D.bl true) = some (xs.map fun _ => true) := blsOf_map (fun _ => true) xs
theorem allT {α : Type} (xs : List α) : (xs.all fun _ => true) = true := by simp
theorem intsOf_map {α : Type} (p : α → Int) : ∀ xs : List α, intsOf (xs.map fun x => .int (p x)) = some (xs.map p)
  | [] => rfl
  | x :: xs => by simp [intsOf, intsOf_map p xs]
/-- a loop that only goes on -/
theorem forL_inv {f : D → Ev → Sto → SR} (I : Nat → Ev → Sto → Prop) : ∀ (ds : List D) (k : Nat) {ρ : Ev} {s : Sto}, I k ρ s → (∀ (i : Nat) d ρ s, ds[i]? = some d → I (k + i) ρ s → ∃ ρ' s', f d ρ s = .nx ρ' s' ∧ I (k + i + 1) ρ' s') → ∃ ρ' s', forL f ds ρ s = .nx ρ' s' ∧ I (k + ds.length) ρ' s'
  | [], k, ρ, s, h, _ => ⟨ρ, s, rfl, h⟩
  | d :: ds, k, ρ, s, h, st => by
    obtain ⟨ρ1, s1, e, h1⟩ := st 0 d ρ s rfl h
    obtain ⟨ρ2, s2, e2, h2⟩ := forL_inv I ds (k + 1) h1 fun i d ρ s hd hi => by
      have := st (i + 1) d ρ s (by simpa using hd) (by rwa [show k + (i + 1) = k + 1 + i by omega])
      rwa [show k + (i + 1) + 1 = k + 1 + i + 1 by omega] at this
    refine ⟨ρ2, s2, ?_, by rw [List.length_cons, show k + (ds.length + 1) = k + 1 + ds.length by omega]; exact h2⟩
    show (match f d ρ s with | .nx ρ' s' => forL f ds ρ' s' | .ct ρ' s' => forL f ds ρ' s' | .bk ρ' s' => .nx ρ' s' | r => r) = _
    rw [e]
    exact e2
end Mi
end
section
set_option Elab.async false
set_option linter.all false
set_option maxRecDepth 100000
set_option maxHeartbeats 1000000
/-! PS: statements, operations, step by step. -/
namespace Mi
open PySem L2
section
variable {Φ : Nat → List D → M D} {W : Nat} {st : CS} {r a b : CB} {ρ ρ' : Ev} {s s' : Sto} {e c : CE} {d : D} {i j : Nat} {t : CT}
theorem B_nx (h : evS Φ W st ρ s = .nx ρ' s') : evB Φ W (.cons st r) ρ s = evB Φ W r ρ' s' := by
  rw [evB, h]
theorem B_rt (h : evS Φ W st ρ s = .rt d s') : evB Φ W (.cons st r) ρ s = .rt d s' := by
  rw [evB, h]
theorem B_nil : evB Φ W .nil ρ s = .nx ρ s := by rw [evB]
theorem S_set (h : ev Φ e ρ = pur d) : evS Φ W (.set i e) ρ s = .nx (ρ.set i (.val d)) s := by
  rw [evS, h] <;> rfl
theorem S_ex (h : ev Φ e ρ = pur d) : evS Φ W (.ex e) ρ s = .nx ρ s := by
  rw [evS, h] <;> rfl
theorem S_ret (h : ev Φ e (frzE ρ) = pur d) : evS Φ W (.ret e) ρ s = .rt d s := by
  rw [evS, h] <;> rfl
theorem S_asg (h : ev Φ e ρ = pur d) (ht : tgt t d ρ = some ρ') : evS Φ W (.asg t e) ρ s = .nx ρ' s := by
  rw [evS, h]
  show sto1 t d ρ s = _
  unfold sto1
  rw [ht]
theorem S_if1 (h : ev Φ c ρ = pur (.bl true)) : evS Φ W (.iff c a b) ρ s = evB Φ W a ρ s := by
  rw [evS, h] <;> rfl
theorem S_if0 (h : ev Φ c ρ = pur (.bl false)) : evS Φ W (.iff c a b) ρ s = evB Φ W b ρ s := by
  rw [evS, h] <;> rfl
theorem S_par {e1 e2 : CE} {d1 d2 : D} (h1 : ev Φ e1 ρ = pur d1) (h2 : ev Φ e2 ρ = pur d2) : evS Φ W (.par2 i j false false e1 e2) ρ s = .nx ((ρ.set i (.val d1)).set j (.val d2)) s := by
  rw [evS, h1]
  show thn (ev Φ e2 ρ s) _ = _
  rw [h2] <;> rfl
theorem S_for {it : CI} {ds : List D} (h : evI Φ it ρ = pur ds) : evS Φ W (.for_ t it a) ρ s = forL (fun d ρ s => match tgt t d ρ with
    | some ρ' => evB Φ W a ρ' s
    | none => .stuck) ds ρ s := by
  rw [evS, h] <;> rfl
end
/-! operations on known values -/
theorem o_addI (a b : Int) : op2 .add (.int a) (.int b) = some (.int (a + b)) := rfl
theorem o_subI (a b : Int) : op2 .sub (.int a) (.int b) = some (.int (a - b)) := rfl
theorem o_mulI (a b : Int) (h : a.natAbs < 18446744073709551616 ∨ b.natAbs < 18446744073709551616) : op2 .mul (.int a) (.int b) = some (.int (a * b)) := if_pos h
theorem o_modI (a b : Int) (h : 0 < b) : op2 .mod (.int a) (.int b) = some (.int (a % b)) := if_pos h
theorem o_divI (a b : Int) (h : 0 < b ∧ b.natAbs.log2 < 9000) : op2 .fdiv (.int a) (.int b) = some (.int (a / b)) := if_pos h
theorem o_addL (a b : List D) (h : a.length + b.length ≤ LIM) : op2 .add (.lst a) (.lst b) = some (.lst (a ++ b)) := if_pos h
theorem o_addT (a b : List D) (h : a.length + b.length ≤ LIM) : op2 .add (.tup a) (.tup b) = some (.tup (a ++ b)) := if_pos h
theorem c_lt (a b : Int) : opc .lt (.int a) (.int b) = some (decide (a < b)) := rfl
theorem c_le (a b : Int) : opc .le (.int a) (.int b) = some (decide (a ≤ b)) := rfl
theorem c_gt (a b : Int) : opc .gt (.int a) (.int b) = some (decide (b < a)) := rfl
theorem c_ge (a b : Int) : opc .ge (.int a) (.int b) = some (decide (b ≤ a)) := rfl
theorem c_eq (a b : D) : opc .eq a b = eqD a b := rfl
theorem c_ne (a b : D) : opc .ne a b = (eqD a b).map (!·) := rfl
theorem b_lenL (xs : List D) : bfn .len [.lst xs] = some (.int xs.length) := rfl
theorem b_lenT (xs : List D) : bfn .len [.tup xs] = some (.int xs.length) := rfl
theorem b_tupL (xs : List D) : bfn .tuple [.lst xs] = some (.tup xs) := rfl
theorem b_min2 (a b : Int) : bfn .min [.int a, .int b] = some (.int (if b < a then b else a)) := rfl
theorem b_max2 (a b : Int) : bfn .max [.int a, .int b] = some (.int (if b > a then b else a)) := rfl
theorem b_abs (a : Int) : bfn .abs [.int a] = some (.int (if a < 0 then -a else a)) := rfl
theorem b_int (a : Int) : bfn .int [.int a] = some (.int a) := rfl
theorem b_intb (a : Bool) : bfn .int [.bl a] = some (.int (if a then 1 else 0)) := rfl
end Mi
end
section
set_option Elab.async false
set_option linter.all false
set_option maxRecDepth 100000
set_option maxHeartbeats 2000000
/-! P1: shapes of cupboards. -/
namespace Mi
open PySem L2
abbrev Door := Int × Int
abbrev Lip := Int × Int × Int
def doorD (d : Door) : D := .tup [.int d.1, .int d.2]
def lipD (l : Lip) : D := .tup [.int l.1, .int l.2.1, .int l.2.2]
def cupD (w : Int) (ds : List Door) (ls : List Lip) : D := .tup [.int w, .tup (ds.map doorD), .tup (ls.map lipD)]
def lipL (l : Lip) : List Int := [l.1, l.2.1, l.2.2]
structure DoorOk (w : Int) (d : Door) : Prop where
  t0 : 0 ≤ d.1
  t1 : d.1 ≤ 1
  w0 : 1 ≤ d.2
  w1 : d.2 ≤ w
structure LipOk (w m : Int) (l : Lip) : Prop where
  a0 : 0 ≤ l.1
  a1 : l.1 ≤ m - 1
  b0 : 0 ≤ l.2.1
  b1 : l.2.1 ≤ m - 1
  ne : l.1 ≠ l.2.1
  c0 : -w ≤ l.2.2
  c1 : l.2.2 ≤ w
structure Shape (w : Int) (ds : List Door) (ls : List Lip) : Prop where
  w0 : 2 ≤ w
  w1 : w ≤ 5
  d0 : 2 ≤ ds.length
  d1 : ds.length ≤ 3
  dok : ∀ d ∈ ds, DoorOk w d
  l1 : ls.length ≤ 4
  lok : ∀ l ∈ ls, LipOk w ds.length l
  srt : (ls.map lipL).Pairwise fun x y => HT.lexLt x y = true
theorem w_F3 {W n : Nat} {w m : Int} {l : Lip} (h : LipOk w m l) : callN TT W (n + 2) 3 [.int w, .int m, lipD l] = pur (.bl true) := by
  refine callN_pur T3 rfl fun s => ?_
  obtain ⟨a, b, c⟩ := l
  obtain ⟨h1, h2, h3, h4, h5, h6, h7⟩ := h
  simp only at h1 h2 h3 h4 h5 h6 h7
  simp [F3, lipD, evB, evS, ev, evL, evO, evI, evC, tgt, wipeD, frzE, Sl.frz, sx, getV, isTy, isK, kd, asB, asI, opc, op2, bfn, blsOf, w_F0, w_F1, ixD, atI, ixN, sliceD, cutD, HT.sIx, seqOf, compL, eqD_int, h1, h2, h3, h4, h5, h6, h7]
theorem cut_tail (xs : List D) : cutD xs (some 1) none = xs.drop 1 := by
  unfold cutD HT.sIx
  cases xs with
  | nil => simp
  | cons x xs => simp
/-- neighbours -/
def nbr {α : Type} : List α → List (α × α)
  | a :: b :: r => (a, b) :: nbr (b :: r)
  | _ => []
theorem zip_nbr {α : Type} (c : α → D) : ∀ xs : List α, zipD (xs.map c) ((xs.map c).drop 1) = (nbr xs).map fun p => .tup [c p.1, c p.2]
  | [] => rfl
  | [a] => rfl
  | a :: b :: r => by
    have := zip_nbr c (b :: r)
    show D.tup [c a, c b] :: zipD ((b :: r).map c) (((b :: r).map c).drop 1) = _
    rw [this] <;> rfl
theorem nbr_lt {α : Type} (k : α → List Int) : ∀ xs : List α, (xs.map k).Pairwise (fun x y => HT.lexLt x y = true) → ∀ p ∈ nbr xs, HT.lexLt (k p.1) (k p.2) = true
  | [], _, p, h => by cases h
  | [a], _, p, h => by cases h
  | a :: b :: r, h, p, hp => by
    obtain ⟨h1, h2⟩ := List.pairwise_cons.mp h
    rcases List.mem_cons.mp hp with rfl | hp
    · exact h1 _ (by simp)
    · exact nbr_lt k (b :: r) h2 p hp
theorem w_F4 {W n : Nat} {w : Int} {ds : List Door} {ls : List Lip} (h : Shape w ds ls) : callN TT W (n + 3) 4 [cupD w ds ls] = pur (.bl true) := by
  refine callN_pur T4 rfl fun s => ?_
  have q1 : (2 : Int) ≤ (ds.length : Int) ∧ (ds.length : Int) ≤ 3 := ⟨by have := h.d0; omega, by have := h.d1; omega⟩
  have q2 : (0 : Int) ≤ (ls.length : Int) ∧ (ls.length : Int) ≤ 4 := ⟨by omega, by have := h.l1; omega⟩
  have q3 := h.w0
  have q4 := h.w1
  have d1 : ∀ x ∈ ds, callN TT W (n + 2) 2 [.int w, doorD x] = pur (.bl true) := fun x hx => by
    have := h.dok x hx
    obtain ⟨a, b, c, d⟩ := this
    unfold doorD
    rw [w_F2]
    simp [a, b, c, d]
  have l1 : ∀ x ∈ ls, callN TT W (n + 2) 3 [.int w, .int ds.length, lipD x] = pur (.bl true) := fun x hx => w_F3 (h.lok x hx)
  have e1 : ev (callN TT W (n + 2)) (.lc (.call 2 (.cons (.var 1) (.cons (.var 4) .nil))) (.nm 4) (.seq (.var 2)) .none [4]) [.val (cupD w ds ls), .val (.int w), .val (.tup (ds.map doorD)), .val (.tup (ls.map lipD)), .no, .no] = pur (.lst (ds.map fun _ => .bl true)) := by
    refine lc_map (xs := ds) (cv := doorD) (by simp [ev_var, ev_own, ev_con, ev_glob, ev_bin, ev_rep, ev_neg, ev_cmp, ev_chain, ev_isn, ev_notn, ev_and, ev_or, ev_not, ev_ife, ev_tup, ev_lst, ev_mkb, ev_ix, ev_slice, ev_call, ev_bf, ev_isi, ev_isi2, ev_lrng, ev_lzip, ev_sset, ev_lset, evL_nil, evL_cons, evO_none, evO_some, evC_none, evC_some, evI_seq, evI_rng, evI_zip, evI_enum, sx, getV, frzE, Sl.frz, asB, asI, seqOf]) fun x hx => ⟨_, rfl, ?_⟩
    simp [ev_var, ev_own, ev_con, ev_glob, ev_bin, ev_rep, ev_neg, ev_cmp, ev_chain, ev_isn, ev_notn, ev_and, ev_or, ev_not, ev_ife, ev_tup, ev_lst, ev_mkb, ev_ix, ev_slice, ev_call, ev_bf, ev_isi, ev_isi2, ev_lrng, ev_lzip, ev_sset, ev_lset, evL_nil, evL_cons, evO_none, evO_some, evC_none, evC_some, evI_seq, evI_rng, evI_zip, evI_enum, sx, getV, frzE, Sl.frz, asB, asI, wipeD, d1 x hx]
  have e2 : ev (callN TT W (n + 2)) (.lc (.call 3 (.cons (.var 1) (.cons (.bf .len (.cons (.var 2) .nil)) (.cons (.var 4) .nil)))) (.nm 4) (.seq (.var 3)) .none [4]) [.val (cupD w ds ls), .val (.int w), .val (.tup (ds.map doorD)), .val (.tup (ls.map lipD)), .no, .no] = pur (.lst (ls.map fun _ => .bl true)) := by
    refine lc_map (xs := ls) (cv := lipD) (by simp [ev_var, ev_own, ev_con, ev_glob, ev_bin, ev_rep, ev_neg, ev_cmp, ev_chain, ev_isn, ev_notn, ev_and, ev_or, ev_not, ev_ife, ev_tup, ev_lst, ev_mkb, ev_ix, ev_slice, ev_call, ev_bf, ev_isi, ev_isi2, ev_lrng, ev_lzip, ev_sset, ev_lset, evL_nil, evL_cons, evO_none, evO_some, evC_none, evC_some, evI_seq, evI_rng, evI_zip, evI_enum, sx, getV, frzE, Sl.frz, asB, asI, seqOf]) fun x hx => ⟨_, rfl, ?_⟩
    simp [ev_var, ev_own, ev_con, ev_glob, ev_bin, ev_rep, ev_neg, ev_cmp, ev_chain, ev_isn, ev_notn, ev_and, ev_or, ev_not, ev_ife, ev_tup, ev_lst, ev_mkb, ev_ix, ev_slice, ev_call, ev_bf, ev_isi, ev_isi2, ev_lrng, ev_lzip, ev_sset, ev_lset, evL_nil, evL_cons, evO_none, evO_some, evC_none, evC_some, evI_seq, evI_rng, evI_zip, evI_enum, sx, getV, frzE, Sl.frz, asB, asI, wipeD, bfn, l1 x hx]
  have e3 : ev (callN TT W (n + 2)) (.lc (.cmp .lt (.var 4) (.var 5)) (.tp (.cons (.nm 4) (.cons (.nm 5) .nil))) (.zip (.var 3) (.slice (.var 3) (.some (.con (.int 1))) .none)) .none [4, 5]) [.val (cupD w ds ls), .val (.int w), .val (.tup (ds.map doorD)), .val (.tup (ls.map lipD)), .no, .no] = pur (.lst ((nbr ls).map fun _ => .bl true)) := by
    refine lc_map (xs := nbr ls) (cv := fun p => .tup [lipD p.1, lipD p.2]) (by simp [ev_var, ev_own, ev_con, ev_glob, ev_bin, ev_rep, ev_neg, ev_cmp, ev_chain, ev_isn, ev_notn, ev_and, ev_or, ev_not, ev_ife, ev_tup, ev_lst, ev_mkb, ev_ix, ev_slice, ev_call, ev_bf, ev_isi, ev_isi2, ev_lrng, ev_lzip, ev_sset, ev_lset, evL_nil, evL_cons, evO_none, evO_some, evC_none, evC_some, evI_seq, evI_rng, evI_zip, evI_enum, sx, getV, frzE, Sl.frz, asB, asI, sliceD, cut_tail, -List.drop_one, zip_nbr]) fun x hx => ⟨_, rfl, ?_⟩
    have := nbr_lt lipL ls h.srt x hx
    have t2 : ltT [.int x.1.1, .int x.1.2.1, .int x.1.2.2] [.int x.2.1, .int x.2.2.1, .int x.2.2.2] = some true := congrArg some this
    simp [ev_var, ev_own, ev_con, ev_glob, ev_bin, ev_rep, ev_neg, ev_cmp, ev_chain, ev_isn, ev_notn, ev_and, ev_or, ev_not, ev_ife, ev_tup, ev_lst, ev_mkb, ev_ix, ev_slice, ev_call, ev_bf, ev_isi, ev_isi2, ev_lrng, ev_lzip, ev_sset, ev_lset, evL_nil, evL_cons, evO_none, evO_some, evC_none, evC_some, evI_seq, evI_rng, evI_zip, evI_enum, sx, getV, frzE, Sl.frz, asB, asI, wipeD, opc, lipD, t2]
  simp only [F4, cupD] at e1 e2 e3 ⊢
  simp [evB, evS, ev_var, ev_own, ev_con, ev_glob, ev_bin, ev_rep, ev_neg, ev_cmp, ev_chain, ev_isn, ev_notn, ev_and, ev_or, ev_not, ev_ife, ev_tup, ev_lst, ev_mkb, ev_ix, ev_slice, ev_call, ev_bf, ev_isi, ev_isi2, ev_lrng, ev_lzip, ev_sset, ev_lset, evL_nil, evL_cons, evO_none, evO_some, evC_none, evC_some, evI_seq, evI_rng, evI_zip, evI_enum, sx, getV, frzE, Sl.frz, asB, asI, isTy, isK, kd, opc, op2, bfn, w_F0, w_F1, ixD, atI, ixN, q1, q2, q3, q4, sto1, tgt, tgts, e1, e2, e3, blsT, allT]
end Mi
end
section
set_option Elab.async false
set_option linter.all false
set_option maxRecDepth 100000
set_option maxHeartbeats 2000000
/-! P2: bounds. -/
namespace Mi
open PySem L2
def dr (ds : List Door) (k : Nat) : Door := ds.getD k (0, 0)
theorem rng0 {m : Nat} (h : m ≤ 1000) : rngD 0 (m : Int) = some ((List.range m).map fun (k : Nat) => D.int (k : Int)) := by
  unfold rngD
  rw [if_pos ⟨by omega, by omega, by omega, by omega, by show ((m : Int) - 0).toNat ≤ 16777216; omega⟩]
  simp
theorem w_F5 {W n : Nat} {ds : List Door} {i j : Nat} (hi : i < ds.length) (hj : j < ds.length) : callN TT W (n + 1) 5 [.tup (ds.map doorD), .int (i : Int), .int (j : Int)] = pur (.bl (decide (i < j ∧ (dr ds i).1 = (dr ds j).1))) := by
  refine callN_pur T5 rfl fun s => ?_
  have a1 : ixD (.tup (ds.map doorD)) (.int (i : Int)) = pur (.tup [.int (dr ds i).1, .int (dr ds i).2]) := ixK doorD ds i (0, 0) hi
  have a2 : ixD (.tup (ds.map doorD)) (.int (j : Int)) = pur (.tup [.int (dr ds j).1, .int (dr ds j).2]) := ixK doorD ds j (0, 0) hj
  by_cases h : i < j <;> simp [F5, evB, evS, ev_var, ev_own, ev_con, ev_glob, ev_bin, ev_rep, ev_neg, ev_cmp, ev_chain, ev_isn, ev_notn, ev_and, ev_or, ev_not, ev_ife, ev_tup, ev_lst, ev_mkb, ev_ix, ev_slice, ev_call, ev_bf, ev_isi, ev_isi2, ev_lrng, ev_lzip, ev_sset, ev_lset, evL_nil, evL_cons, evO_none, evO_some, evC_none, evC_some, evI_seq, evI_rng, evI_zip, evI_enum, sx, getV, frzE, Sl.frz, asB, asI, opc, a1, a2, h, ix0, eqD_int]
def trk (ds : List Door) : List (Nat × Nat) := (List.range ds.length).flatMap fun i => ((List.range ds.length).filter fun j => decide (i < j ∧ (dr ds i).1 = (dr ds j).1)).map fun j => (i, j)
def bndP (w : Int) (ds : List Door) (ls : List Lip) : List Lip :=
  (((List.range ds.length).map fun (k : Nat) => (((k : Int) + 1, 0, w - (dr ds k).2) : Lip)) ++ (List.range ds.length).map fun (k : Nat) => ((0, (k : Int) + 1, 0) : Lip)) ++ ((trk ds).map fun p => (((p.1 : Int) + 1, (p.2 : Int) + 1, -(dr ds p.1).2) : Lip)) ++ ls.map fun l => ((l.1 + 1, l.2.1 + 1, l.2.2) : Lip)
theorem trk_len (ds : List Door) (h : ds.length ≤ 3) : (trk ds).length ≤ 9 := by
  unfold trk
  have : ∀ (l : List Nat) (f : Nat → List (Nat × Nat)), (∀ i, (f i).length ≤ 3) → (l.flatMap f).length ≤ l.length * 3 := by
    intro l f hf
    induction l with
    | nil => simp
    | cons a l ih =>
      rw [List.flatMap_cons, List.length_append, List.length_cons]
      have := hf a
      omega
  have := this (List.range ds.length) (fun i => ((List.range ds.length).filter fun j => decide (i < j ∧ (dr ds i).1 = (dr ds j).1)).map fun j => (i, j)) fun i => by
    rw [List.length_map]
    have := List.length_filter_le (fun j => decide (i < j ∧ (dr ds i).1 = (dr ds j).1)) (List.range ds.length)
    rw [List.length_range] at this
    omega
  rw [List.length_range] at this
  omega
theorem trk_mem {ds : List Door} {p : Nat × Nat} (h : p ∈ trk ds) : p.1 < ds.length ∧ p.2 < ds.length ∧ p.1 < p.2 ∧ (dr ds p.1).1 = (dr ds p.2).1 := by
  unfold trk at h
  obtain ⟨i, hi, hp⟩ := List.mem_flatMap.mp h
  obtain ⟨j, hj, rfl⟩ := List.mem_map.mp hp
  obtain ⟨h1, h2⟩ := List.mem_filter.mp hj
  have h3 := of_decide_eq_true h2
  exact ⟨List.mem_range.mp hi, List.mem_range.mp h1, h3.1, h3.2⟩
theorem w_F6 {W n : Nat} {w : Int} {ds : List Door} {ls : List Lip} (h3 : ds.length ≤ 3) (h4 : ls.length ≤ 4) : callN TT W (n + 2) 6 [cupD w ds ls] = pur (.lst ((bndP w ds ls).map lipD)) := by
  refine callN_pur T6 rfl fun s => ?_
  have hr := rng0 (m := ds.length) (by omega)
  have tl := trk_len ds h3
  have a1 : ∀ k, k < ds.length → ixD (.tup (ds.map doorD)) (.int (k : Int)) = pur (.tup [.int (dr ds k).1, .int (dr ds k).2]) := fun k h => ixK doorD ds k (0, 0) h
  have lim : LIM = 16777216 := rfl
  show evB (callN TT W (n + 1)) W F6.body [.val (cupD w ds ls), .no, .no, .no, .no, .no, .no, .no, .no, .no, .no, .no] s = _
  let nums : D := .lst ((List.range ds.length).map fun (k : Nat) => D.int (k : Int))
  refine (B_nx (S_asg (d := cupD w ds ls) (by simp [ev_var, ev_own, ev_con, ev_glob, ev_bin, ev_rep, ev_neg, ev_cmp, ev_chain, ev_isn, ev_notn, ev_and, ev_or, ev_not, ev_ife, ev_tup, ev_lst, ev_mkb, ev_ix, ev_slice, ev_call, ev_bf, ev_isi, ev_isi2, ev_lrng, ev_lzip, ev_sset, ev_lset, evL_nil, evL_cons, evO_none, evO_some, evC_none, evC_some, evI_seq, evI_rng, evI_zip, evI_enum, sx, getV, frzE, Sl.frz, asB, asI]) (by rfl))).trans ?_
  refine (B_nx (S_set (d := nums) (by simp [ev_var, ev_own, ev_con, ev_glob, ev_bin, ev_rep, ev_neg, ev_cmp, ev_chain, ev_isn, ev_notn, ev_and, ev_or, ev_not, ev_ife, ev_tup, ev_lst, ev_mkb, ev_ix, ev_slice, ev_call, ev_bf, ev_isi, ev_isi2, ev_lrng, ev_lzip, ev_sset, ev_lset, evL_nil, evL_cons, evO_none, evO_some, evC_none, evC_some, evI_seq, evI_rng, evI_zip, evI_enum, sx, getV, frzE, Sl.frz, asB, asI, b_lenT, hr, nums]))).trans ?_
  let walls : List D := ((List.range ds.length).map fun (k : Nat) => lipD ((k : Int) + 1, 0, w - (dr ds k).2)) ++ (List.range ds.length).map fun (k : Nat) => lipD (0, (k : Int) + 1, 0)
  refine (B_nx (S_set (d := .lst walls) ?_)).trans ?_
  · rw [ev_bin]
    rw [lc_map (xs := List.range ds.length) (cv := fun (k : Nat) => D.int (k : Int)) (h := fun k => lipD ((k : Int) + 1, 0, w - (dr ds k).2)) (by simp [ev_var, ev_own, ev_con, ev_glob, ev_bin, ev_rep, ev_neg, ev_cmp, ev_chain, ev_isn, ev_notn, ev_and, ev_or, ev_not, ev_ife, ev_tup, ev_lst, ev_mkb, ev_ix, ev_slice, ev_call, ev_bf, ev_isi, ev_isi2, ev_lrng, ev_lzip, ev_sset, ev_lset, evL_nil, evL_cons, evO_none, evO_some, evC_none, evC_some, evI_seq, evI_rng, evI_zip, evI_enum, sx, getV, frzE, Sl.frz, asB, asI, seqOf, nums]) fun k hk => ⟨_, rfl, by simp [ev_var, ev_own, ev_con, ev_glob, ev_bin, ev_rep, ev_neg, ev_cmp, ev_chain, ev_isn, ev_notn, ev_and, ev_or, ev_not, ev_ife, ev_tup, ev_lst, ev_mkb, ev_ix, ev_slice, ev_call, ev_bf, ev_isi, ev_isi2, ev_lrng, ev_lzip, ev_sset, ev_lset, evL_nil, evL_cons, evO_none, evO_some, evC_none, evC_some, evI_seq, evI_rng, evI_zip, evI_enum, sx, getV, frzE, Sl.frz, asB, asI, wipeD, o_addI, o_subI, a1 k (List.mem_range.mp hk), ix1, lipD]⟩]
    rw [lc_map (xs := List.range ds.length) (cv := fun (k : Nat) => D.int (k : Int)) (h := fun k => lipD (0, (k : Int) + 1, 0)) (by simp [ev_var, ev_own, ev_con, ev_glob, ev_bin, ev_rep, ev_neg, ev_cmp, ev_chain, ev_isn, ev_notn, ev_and, ev_or, ev_not, ev_ife, ev_tup, ev_lst, ev_mkb, ev_ix, ev_slice, ev_call, ev_bf, ev_isi, ev_isi2, ev_lrng, ev_lzip, ev_sset, ev_lset, evL_nil, evL_cons, evO_none, evO_some, evC_none, evC_some, evI_seq, evI_rng, evI_zip, evI_enum, sx, getV, frzE, Sl.frz, asB, asI, seqOf, nums]) fun k hk => ⟨_, rfl, by simp [ev_var, ev_own, ev_con, ev_glob, ev_bin, ev_rep, ev_neg, ev_cmp, ev_chain, ev_isn, ev_notn, ev_and, ev_or, ev_not, ev_ife, ev_tup, ev_lst, ev_mkb, ev_ix, ev_slice, ev_call, ev_bf, ev_isi, ev_isi2, ev_lrng, ev_lzip, ev_sset, ev_lset, evL_nil, evL_cons, evO_none, evO_some, evC_none, evC_some, evI_seq, evI_rng, evI_zip, evI_enum, sx, getV, frzE, Sl.frz, asB, asI, wipeD, o_addI, lipD]⟩]
    rw [bnd_pur, bnd_pur, o_addL _ _ (by simp only [List.length_map, List.length_range]; omega), lif_some]
  refine (B_nx (S_set (d := .lst ((trk ds).map fun p => .tup [.int (p.1 : Int), .int (p.2 : Int)])) ?_)).trans ?_
  · have := lc2_ok (Φ := callN TT W (n + 1)) (e := .tup (.cons (.var 8) (.cons (.var 9) .nil))) (t := .nm 8) (it := .seq (.var 4)) (c := .none) (t1 := .nm 9) (it1 := .seq (.var 4)) (c1 := .some (.call 5 (.cons (.var 2) (.cons (.var 8) (.cons (.var 9) .nil))))) (vs := [8, 9]) (vs1 := [9])
      (ρ := [.val (cupD w ds ls), .val (.int w), .val (.tup (ds.map doorD)), .val (.tup (ls.map lipD)), .val nums, .val (.lst walls), .no, .no, .no, .no, .no, .no]) (xs := List.range ds.length) (cv := fun (k : Nat) => D.int (k : Int)) (p := fun _ => true) (ys := fun _ => List.range ds.length) (dv := fun (k : Nat) => D.int (k : Int))
      (q := fun i j => decide (i < j ∧ (dr ds i).1 = (dr ds j).1)) (h := fun (i j : Nat) => .tup [.int (i : Int), .int (j : Int)]) (by simp [ev_var, ev_own, ev_con, ev_glob, ev_bin, ev_rep, ev_neg, ev_cmp, ev_chain, ev_isn, ev_notn, ev_and, ev_or, ev_not, ev_ife, ev_tup, ev_lst, ev_mkb, ev_ix, ev_slice, ev_call, ev_bf, ev_isi, ev_isi2, ev_lrng, ev_lzip, ev_sset, ev_lset, evL_nil, evL_cons, evO_none, evO_some, evC_none, evC_some, evI_seq, evI_rng, evI_zip, evI_enum, sx, getV, frzE, Sl.frz, asB, asI, seqOf, nums]) (fun i hi => ⟨_, rfl, evC_none _, fun _ => ⟨by simp [ev_var, ev_own, ev_con, ev_glob, ev_bin, ev_rep, ev_neg, ev_cmp, ev_chain, ev_isn, ev_notn, ev_and, ev_or, ev_not, ev_ife, ev_tup, ev_lst, ev_mkb, ev_ix, ev_slice, ev_call, ev_bf, ev_isi, ev_isi2, ev_lrng, ev_lzip, ev_sset, ev_lset, evL_nil, evL_cons, evO_none, evO_some, evC_none, evC_some, evI_seq, evI_rng, evI_zip, evI_enum, sx, getV, frzE, Sl.frz, asB, asI, seqOf, nums, wipeD, dropO, Sl.dropO], fun j hj => ⟨_, rfl, ?_, fun _ => ?_⟩⟩⟩) ?_
    · have e0 : ((List.range ds.length).filter fun _ => true).flatMap (fun i => ((List.range ds.length).filter fun j => decide (i < j ∧ (dr ds i).1 = (dr ds j).1)).map fun (j : Nat) => D.tup [.int (i : Int), .int (j : Int)]) = (trk ds).map fun p => .tup [.int (p.1 : Int), .int (p.2 : Int)] := by
        rw [List.filter_eq_self.mpr fun _ _ => rfl]
        unfold trk
        rw [List.map_flatMap]
        refine congrArg (fun f => List.flatMap f (List.range ds.length)) (funext fun i => ?_)
        rw [List.map_map]
        rfl
      rw [e0] at this
      simp only [List.set_cons_zero, List.set_cons_succ]
      exact this
    · simp [ev_var, ev_own, ev_con, ev_glob, ev_bin, ev_rep, ev_neg, ev_cmp, ev_chain, ev_isn, ev_notn, ev_and, ev_or, ev_not, ev_ife, ev_tup, ev_lst, ev_mkb, ev_ix, ev_slice, ev_call, ev_bf, ev_isi, ev_isi2, ev_lrng, ev_lzip, ev_sset, ev_lset, evL_nil, evL_cons, evO_none, evO_some, evC_none, evC_some, evI_seq, evI_rng, evI_zip, evI_enum, sx, getV, frzE, Sl.frz, asB, asI, wipeD, dropO, Sl.dropO, w_F5 (List.mem_range.mp hi) (List.mem_range.mp hj)]
    · simp [ev_var, ev_own, ev_con, ev_glob, ev_bin, ev_rep, ev_neg, ev_cmp, ev_chain, ev_isn, ev_notn, ev_and, ev_or, ev_not, ev_ife, ev_tup, ev_lst, ev_mkb, ev_ix, ev_slice, ev_call, ev_bf, ev_isi, ev_isi2, ev_lrng, ev_lzip, ev_sset, ev_lset, evL_nil, evL_cons, evO_none, evO_some, evC_none, evC_some, evI_seq, evI_rng, evI_zip, evI_enum, sx, getV, frzE, Sl.frz, asB, asI, wipeD, dropO, Sl.dropO]
    · have e0 : (((List.range ds.length).filter fun _ => true).flatMap (fun i => ((List.range ds.length).filter fun j => decide (i < j ∧ (dr ds i).1 = (dr ds j).1)).map fun (j : Nat) => D.tup [.int (i : Int), .int (j : Int)])).length = (trk ds).length := by
        rw [List.filter_eq_self.mpr fun _ _ => rfl]
        unfold trk
        rw [List.length_flatMap, List.length_flatMap]
        simp
      rw [e0]
      omega
  refine (B_nx (S_set (d := .lst ((trk ds).map fun p => lipD ((p.1 : Int) + 1, (p.2 : Int) + 1, -(dr ds p.1).2))) ?_)).trans ?_
  · refine lc_map (xs := trk ds) (cv := fun p => .tup [.int (p.1 : Int), .int (p.2 : Int)]) (by simp [ev_var, ev_own, ev_con, ev_glob, ev_bin, ev_rep, ev_neg, ev_cmp, ev_chain, ev_isn, ev_notn, ev_and, ev_or, ev_not, ev_ife, ev_tup, ev_lst, ev_mkb, ev_ix, ev_slice, ev_call, ev_bf, ev_isi, ev_isi2, ev_lrng, ev_lzip, ev_sset, ev_lset, evL_nil, evL_cons, evO_none, evO_some, evC_none, evC_some, evI_seq, evI_rng, evI_zip, evI_enum, sx, getV, frzE, Sl.frz, asB, asI, seqOf]) fun p hp => ⟨_, rfl, ?_⟩
    simp [ev_var, ev_own, ev_con, ev_glob, ev_bin, ev_rep, ev_neg, ev_cmp, ev_chain, ev_isn, ev_notn, ev_and, ev_or, ev_not, ev_ife, ev_tup, ev_lst, ev_mkb, ev_ix, ev_slice, ev_call, ev_bf, ev_isi, ev_isi2, ev_lrng, ev_lzip, ev_sset, ev_lset, evL_nil, evL_cons, evO_none, evO_some, evC_none, evC_some, evI_seq, evI_rng, evI_zip, evI_enum, sx, getV, frzE, Sl.frz, asB, asI, wipeD, o_addI, a1 p.1 (trk_mem hp).1, ix1, lipD]
  refine B_rt (S_ret ?_)
  rw [ev_bin, ev_bin]
  rw [lc_map (xs := ls) (cv := lipD) (h := fun l => lipD (l.1 + 1, l.2.1 + 1, l.2.2)) (by simp [ev_var, ev_own, ev_con, ev_glob, ev_bin, ev_rep, ev_neg, ev_cmp, ev_chain, ev_isn, ev_notn, ev_and, ev_or, ev_not, ev_ife, ev_tup, ev_lst, ev_mkb, ev_ix, ev_slice, ev_call, ev_bf, ev_isi, ev_isi2, ev_lrng, ev_lzip, ev_sset, ev_lset, evL_nil, evL_cons, evO_none, evO_some, evC_none, evC_some, evI_seq, evI_rng, evI_zip, evI_enum, sx, getV, frzE, Sl.frz, asB, asI, seqOf]) fun l hl => ⟨_, rfl, by simp [ev_var, ev_own, ev_con, ev_glob, ev_bin, ev_rep, ev_neg, ev_cmp, ev_chain, ev_isn, ev_notn, ev_and, ev_or, ev_not, ev_ife, ev_tup, ev_lst, ev_mkb, ev_ix, ev_slice, ev_call, ev_bf, ev_isi, ev_isi2, ev_lrng, ev_lzip, ev_sset, ev_lset, evL_nil, evL_cons, evO_none, evO_some, evC_none, evC_some, evI_seq, evI_rng, evI_zip, evI_enum, sx, getV, frzE, Sl.frz, asB, asI, wipeD, o_addI, lipD]⟩]
  have g5 : ev (callN TT W (n + 1)) (.var 5) (frzE [.val (cupD w ds ls), .val (.int w), .val (.tup (ds.map doorD)), .val (.tup (ls.map lipD)), .val nums, .val (.lst walls), .no, .val (.lst ((trk ds).map fun p => .tup [.int (p.1 : Int), .int (p.2 : Int)])), .no, .no, .val (.lst ((trk ds).map fun p => lipD ((p.1 : Int) + 1, (p.2 : Int) + 1, -(dr ds p.1).2))), .no]) = pur (.lst walls) := by simp [ev_var, ev_own, ev_con, ev_glob, ev_bin, ev_rep, ev_neg, ev_cmp, ev_chain, ev_isn, ev_notn, ev_and, ev_or, ev_not, ev_ife, ev_tup, ev_lst, ev_mkb, ev_ix, ev_slice, ev_call, ev_bf, ev_isi, ev_isi2, ev_lrng, ev_lzip, ev_sset, ev_lset, evL_nil, evL_cons, evO_none, evO_some, evC_none, evC_some, evI_seq, evI_rng, evI_zip, evI_enum, sx, getV, frzE, Sl.frz, asB, asI]
  have g10 : ev (callN TT W (n + 1)) (.var 10) (frzE [.val (cupD w ds ls), .val (.int w), .val (.tup (ds.map doorD)), .val (.tup (ls.map lipD)), .val nums, .val (.lst walls), .no, .val (.lst ((trk ds).map fun p => .tup [.int (p.1 : Int), .int (p.2 : Int)])), .no, .no, .val (.lst ((trk ds).map fun p => lipD ((p.1 : Int) + 1, (p.2 : Int) + 1, -(dr ds p.1).2))), .no]) = pur (.lst ((trk ds).map fun p => lipD ((p.1 : Int) + 1, (p.2 : Int) + 1, -(dr ds p.1).2))) := by simp [ev_var, ev_own, ev_con, ev_glob, ev_bin, ev_rep, ev_neg, ev_cmp, ev_chain, ev_isn, ev_notn, ev_and, ev_or, ev_not, ev_ife, ev_tup, ev_lst, ev_mkb, ev_ix, ev_slice, ev_call, ev_bf, ev_isi, ev_isi2, ev_lrng, ev_lzip, ev_sset, ev_lset, evL_nil, evL_cons, evO_none, evO_some, evC_none, evC_some, evI_seq, evI_rng, evI_zip, evI_enum, sx, getV, frzE, Sl.frz, asB, asI]
  have wl : walls.length = ds.length + ds.length := by simp [walls]
  refine (congrArg (fun z => bnd (bnd z _) _) g5).trans ?_
  rw [bnd_pur]
  refine (congrArg (fun z => bnd (bnd z _) _) g10).trans ?_
  rw [bnd_pur, o_addL _ _ (by rw [wl, List.length_map]; omega), lif_some, bnd_pur, bnd_pur, o_addL _ _ (by rw [List.length_append, wl, List.length_map, List.length_map]; omega), lif_some]
  refine congrArg (fun l => pur (D.lst l)) ?_
  simp [bndP, walls, List.map_append, List.map_map, Function.comp_def]
end Mi
end
section
set_option Elab.async false
set_option linter.all false
set_option maxRecDepth 100000
set_option maxHeartbeats 2000000
/-! P3: the table of a cupboard. -/
namespace Mi
open PySem L2
def told (bs : List Lip) (i j : Int) : Int := minOf (if i = j then 0 else 1000000) ((bs.filter fun l => decide (l.1 = i ∧ l.2.1 = j)).map fun l => l.2.2)
theorem w_F7 {W n : Nat} {bs : List Lip} {i j : Int} (h : bs.length ≤ 1000) : callN TT W (n + 1) 7 [.lst (bs.map lipD), .int i, .int j] = pur (.int (told bs i j)) := by
  refine callN_pur T7 rfl fun s => ?_
  show evB (callN TT W n) W F7.body [.val (.lst (bs.map lipD)), .val (.int i), .val (.int j), .no, .no, .no, .no] s = _
  have fl : (bs.filter fun l => decide (l.1 = i ∧ l.2.1 = j)).length ≤ bs.length := List.length_filter_le _ _
  refine (B_nx (S_set (d := .lst ((bs.filter fun l => decide (l.1 = i ∧ l.2.1 = j)).map fun l => .int l.2.2)) ?_)).trans ?_
  · refine lc_ok (xs := bs) (cv := lipD) (p := fun l => decide (l.1 = i ∧ l.2.1 = j)) (h := fun l => .int l.2.2) (by simp [ev_var, ev_own, ev_con, ev_glob, ev_bin, ev_rep, ev_neg, ev_cmp, ev_chain, ev_isn, ev_notn, ev_and, ev_or, ev_not, ev_ife, ev_tup, ev_lst, ev_mkb, ev_ix, ev_slice, ev_call, ev_bf, ev_isi, ev_isi2, ev_lrng, ev_lzip, ev_sset, ev_lset, evL_nil, evL_cons, evO_none, evO_some, evC_none, evC_some, evI_seq, evI_rng, evI_zip, evI_enum, sx, getV, frzE, Sl.frz, asB, asI, seqOf]) fun l hl => ⟨_, rfl, ?_, fun _ => ?_⟩
    · simp [ev_var, ev_own, ev_con, ev_glob, ev_bin, ev_rep, ev_neg, ev_cmp, ev_chain, ev_isn, ev_notn, ev_and, ev_or, ev_not, ev_ife, ev_tup, ev_lst, ev_mkb, ev_ix, ev_slice, ev_call, ev_bf, ev_isi, ev_isi2, ev_lrng, ev_lzip, ev_sset, ev_lset, evL_nil, evL_cons, evO_none, evO_some, evC_none, evC_some, evI_seq, evI_rng, evI_zip, evI_enum, sx, getV, frzE, Sl.frz, asB, asI, wipeD, c_eq, eqD_pair]
    · simp [ev_var, ev_own, ev_con, ev_glob, ev_bin, ev_rep, ev_neg, ev_cmp, ev_chain, ev_isn, ev_notn, ev_and, ev_or, ev_not, ev_ife, ev_tup, ev_lst, ev_mkb, ev_ix, ev_slice, ev_call, ev_bf, ev_isi, ev_isi2, ev_lrng, ev_lzip, ev_sset, ev_lset, evL_nil, evL_cons, evO_none, evO_some, evC_none, evC_some, evI_seq, evI_rng, evI_zip, evI_enum, sx, getV, frzE, Sl.frz, asB, asI, wipeD]
  refine B_rt (S_ret ?_)
  unfold told
  generalize (bs.filter fun l => decide (l.1 = i ∧ l.2.1 = j)) = F at fl ⊢
  have e3 : ∀ x : Int, bfn .min [.lst (.int x :: F.map fun l => D.int l.2.2)] = some (.int (minOf x (F.map fun l => l.2.2))) := fun x => by
    show (match intsOf (.int x :: _) with | some (i :: r) => some (D.int (minOf i r)) | _ => none) = _
    have e1 : intsOf (.int x :: F.map fun l => D.int l.2.2) = some (x :: F.map fun l => l.2.2) := by
      show (intsOf _).map _ = _
      rw [intsOf_map] <;> rfl
    rw [e1]
  have e2 : ∀ x : Int, op2 .add (.lst [.int x]) (.lst (F.map fun l => D.int l.2.2)) = some (.lst (.int x :: F.map fun l => D.int l.2.2)) := fun x => o_addL _ _ (by
    rw [List.length_map]
    show 1 + _ ≤ 16777216
    omega)
  by_cases q : i = j
  · subst q
    simp [ev_var, ev_own, ev_con, ev_glob, ev_bin, ev_rep, ev_neg, ev_cmp, ev_chain, ev_isn, ev_notn, ev_and, ev_or, ev_not, ev_ife, ev_tup, ev_lst, ev_mkb, ev_ix, ev_slice, ev_call, ev_bf, ev_isi, ev_isi2, ev_lrng, ev_lzip, ev_sset, ev_lset, evL_nil, evL_cons, evO_none, evO_some, evC_none, evC_some, evI_seq, evI_rng, evI_zip, evI_enum, sx, getV, frzE, Sl.frz, asB, asI, c_eq, eqD_int, e2, e3]
  · simp [ev_var, ev_own, ev_con, ev_glob, ev_bin, ev_rep, ev_neg, ev_cmp, ev_chain, ev_isn, ev_notn, ev_and, ev_or, ev_not, ev_ife, ev_tup, ev_lst, ev_mkb, ev_ix, ev_slice, ev_call, ev_bf, ev_isi, ev_isi2, ev_lrng, ev_lzip, ev_sset, ev_lset, evL_nil, evL_cons, evO_none, evO_some, evC_none, evC_some, evI_seq, evI_rng, evI_zip, evI_enum, sx, getV, frzE, Sl.frz, asB, asI, c_eq, eqD_int, q, gV, e2, e3]
/-! ### the closing -/
abbrev Tab := Nat → Nat → Int
def rowD (m : Nat) (r : Nat → Int) : D := .lst ((List.range m).map fun j => .int (r j))
def tabD (m : Nat) (t : Tab) : D := .lst ((List.range m).map fun i => rowD m (t i))
def fwStep (k : Nat) (t : Tab) : Tab := fun i j => if t i k + t k j < t i j then t i k + t k j else t i j
def fwN : Nat → Tab → Tab
  | 0, t => t
  | k + 1, t => fwStep k (fwN k t)
theorem row_ix {m : Nat} (r : Nat → Int) {j : Nat} (h : j < m) : ixD (rowD m r) (.int (j : Int)) = pur (.int (r j)) := by
  have := ixKl (fun j => D.int (r j)) (List.range m) j 0 (by rw [List.length_range]; exact h)
  rw [List.getD_eq_getElem?_getD, List.getElem?_range h] at this
  exact this
theorem tab_ix {m : Nat} (t : Tab) {i : Nat} (h : i < m) : ixD (tabD m t) (.int (i : Int)) = pur (rowD m (t i)) := by
  have := ixKl (fun i => rowD m (t i)) (List.range m) i 0 (by rw [List.length_range]; exact h)
  rw [List.getD_eq_getElem?_getD, List.getElem?_range h] at this
  exact this
theorem w_F8 {W n m : Nat} {bs : List Lip} (h : bs.length ≤ 1000) (hm : m ≤ 1000) (hd : ∀ i, i < m → 0 ≤ fwN m (fun i j => told bs i j) i i) : callN TT W (n + 2) 8 [.int (m : Int), .lst (bs.map lipD)] = pur (tabD m (fwN m fun i j => told bs i j)) := by
  refine callN_pur T8 rfl fun s => ?_
  show evB (callN TT W (n + 1)) W F8.body [.val (.int (m : Int)), .val (.lst (bs.map lipD)), .no, .no, .no, .no, .no, .no, .no, .no] s = _
  have hr := rng0 hm
  let nodes : List D := (List.range m).map fun (k : Nat) => D.int (k : Int)
  refine (B_nx (S_set (d := .lst nodes) (by simp [ev_var, ev_own, ev_con, ev_glob, ev_bin, ev_rep, ev_neg, ev_cmp, ev_chain, ev_isn, ev_notn, ev_and, ev_or, ev_not, ev_ife, ev_tup, ev_lst, ev_mkb, ev_ix, ev_slice, ev_call, ev_bf, ev_isi, ev_isi2, ev_lrng, ev_lzip, ev_sset, ev_lset, evL_nil, evL_cons, evO_none, evO_some, evC_none, evC_some, evI_seq, evI_rng, evI_zip, evI_enum, sx, getV, frzE, Sl.frz, asB, asI, hr, nodes]))).trans ?_
  refine (B_nx (S_set (d := tabD m fun i j => told bs i j) ?_)).trans ?_
  · refine lc_map (xs := List.range m) (cv := fun (k : Nat) => D.int (k : Int)) (by simp [ev_var, ev_own, ev_con, ev_glob, ev_bin, ev_rep, ev_neg, ev_cmp, ev_chain, ev_isn, ev_notn, ev_and, ev_or, ev_not, ev_ife, ev_tup, ev_lst, ev_mkb, ev_ix, ev_slice, ev_call, ev_bf, ev_isi, ev_isi2, ev_lrng, ev_lzip, ev_sset, ev_lset, evL_nil, evL_cons, evO_none, evO_some, evC_none, evC_some, evI_seq, evI_rng, evI_zip, evI_enum, sx, getV, frzE, Sl.frz, asB, asI, seqOf, nodes]) fun i hi => ⟨_, rfl, ?_⟩
    refine lc_map (xs := List.range m) (cv := fun (k : Nat) => D.int (k : Int)) (by simp [ev_var, ev_own, ev_con, ev_glob, ev_bin, ev_rep, ev_neg, ev_cmp, ev_chain, ev_isn, ev_notn, ev_and, ev_or, ev_not, ev_ife, ev_tup, ev_lst, ev_mkb, ev_ix, ev_slice, ev_call, ev_bf, ev_isi, ev_isi2, ev_lrng, ev_lzip, ev_sset, ev_lset, evL_nil, evL_cons, evO_none, evO_some, evC_none, evC_some, evI_seq, evI_rng, evI_zip, evI_enum, sx, getV, frzE, Sl.frz, asB, asI, seqOf, nodes, wipeD]) fun j hj => ⟨_, rfl, ?_⟩
    simp [ev_var, ev_own, ev_con, ev_glob, ev_bin, ev_rep, ev_neg, ev_cmp, ev_chain, ev_isn, ev_notn, ev_and, ev_or, ev_not, ev_ife, ev_tup, ev_lst, ev_mkb, ev_ix, ev_slice, ev_call, ev_bf, ev_isi, ev_isi2, ev_lrng, ev_lzip, ev_sset, ev_lset, evL_nil, evL_cons, evO_none, evO_some, evC_none, evC_some, evI_seq, evI_rng, evI_zip, evI_enum, sx, getV, frzE, Sl.frz, asB, asI, wipeD, w_F7 h]
  simp only [List.set_cons_zero, List.set_cons_succ]
  have lp := forL_inv (f := fun d ρ s => match tgt (.nm 6) d ρ with
    | some ρ' => evB (callN TT W (n + 1)) W (.cons (.set 7 (.ix (.var 3) (.var 6))) (.cons (.set 3 (.lc (.lc (.bf .min (.cons (.ix (.var 8) (.var 4)) (.cons (.bin .add (.ix (.var 8) (.var 6)) (.ix (.var 7) (.var 4))) .nil))) (.nm 4) (.seq (.var 2)) .none [4]) (.nm 8) (.seq (.var 3)) .none [8])) .nil)) ρ' s
    | none => .stuck) (fun k ρ s' => s' = s ∧ ∃ x6 x7, ρ = [.val (.int (m : Int)), .val (.lst (bs.map lipD)), .val (.lst nodes), .val (tabD m (fwN k fun i j => told bs i j)), .no, .no, x6, x7, .no, .no]) nodes 0 (ρ := [.val (.int (m : Int)), .val (.lst (bs.map lipD)), .val (.lst nodes), .val (tabD m fun i j => told bs i j), .no, .no, .no, .no, .no, .no]) (s := s) ⟨rfl, .no, .no, rfl⟩ ?_
  · obtain ⟨ρ', s', e, rfl, x6, x7, rfl⟩ := lp
    refine (B_nx ((S_for (ds := nodes) (by simp [ev_var, ev_own, ev_con, ev_glob, ev_bin, ev_rep, ev_neg, ev_cmp, ev_chain, ev_isn, ev_notn, ev_and, ev_or, ev_not, ev_ife, ev_tup, ev_lst, ev_mkb, ev_ix, ev_slice, ev_call, ev_bf, ev_isi, ev_isi2, ev_lrng, ev_lzip, ev_sset, ev_lset, evL_nil, evL_cons, evO_none, evO_some, evC_none, evC_some, evI_seq, evI_rng, evI_zip, evI_enum, sx, getV, frzE, Sl.frz, asB, asI, seqOf])).trans e)).trans ?_
    refine B_rt (S_ret ?_)
    have nl : nodes.length = m := by simp [nodes]
    rw [nl, Nat.zero_add]
    rw [ev_ife, ev_bf, evL_cons]
    rw [lc_map (xs := List.range m) (cv := fun (k : Nat) => D.int (k : Int)) (h := fun _ => .bl true) (by simp [ev_var, ev_own, ev_con, ev_glob, ev_bin, ev_rep, ev_neg, ev_cmp, ev_chain, ev_isn, ev_notn, ev_and, ev_or, ev_not, ev_ife, ev_tup, ev_lst, ev_mkb, ev_ix, ev_slice, ev_call, ev_bf, ev_isi, ev_isi2, ev_lrng, ev_lzip, ev_sset, ev_lset, evL_nil, evL_cons, evO_none, evO_some, evC_none, evC_some, evI_seq, evI_rng, evI_zip, evI_enum, sx, getV, frzE, Sl.frz, asB, asI, seqOf, nodes]) fun i hi => ⟨_, rfl, ?_⟩]
    · simp [ev_var, ev_own, ev_con, ev_glob, ev_bin, ev_rep, ev_neg, ev_cmp, ev_chain, ev_isn, ev_notn, ev_and, ev_or, ev_not, ev_ife, ev_tup, ev_lst, ev_mkb, ev_ix, ev_slice, ev_call, ev_bf, ev_isi, ev_isi2, ev_lrng, ev_lzip, ev_sset, ev_lset, evL_nil, evL_cons, evO_none, evO_some, evC_none, evC_some, evI_seq, evI_rng, evI_zip, evI_enum, sx, getV, frzE, Sl.frz, asB, asI, bfn, blsT, allT]
    · have hi' := List.mem_range.mp hi
      simp [ev_var, ev_own, ev_con, ev_glob, ev_bin, ev_rep, ev_neg, ev_cmp, ev_chain, ev_isn, ev_notn, ev_and, ev_or, ev_not, ev_ife, ev_tup, ev_lst, ev_mkb, ev_ix, ev_slice, ev_call, ev_bf, ev_isi, ev_isi2, ev_lrng, ev_lzip, ev_sset, ev_lset, evL_nil, evL_cons, evO_none, evO_some, evC_none, evC_some, evI_seq, evI_rng, evI_zip, evI_enum, sx, getV, frzE, Sl.frz, asB, asI, wipeD, tab_ix _ hi', row_ix _ hi', c_ge, hd i hi']
  · rintro i d ρ s' hd' ⟨rfl, x6, x7, rfl⟩
    have hi : i < m := by
      have := (List.getElem?_eq_some_iff.mp hd').1
      simpa [nodes] using this
    have ed : d = .int (i : Int) := by
      simp only [nodes, List.getElem?_map, List.getElem?_range hi] at hd'
      exact (Option.some.inj hd').symm
    subst ed
    rw [Nat.zero_add]
    refine ⟨_, s', ?_, rfl, .val (.int (i : Int)), .val (rowD m (fwN i (fun i j => told bs i j) i)), rfl⟩
    show evB _ _ _ [.val (.int (m : Int)), .val (.lst (bs.map lipD)), .val (.lst nodes), .val (tabD m (fwN i fun i j => told bs i j)), .no, .no, .val (.int (i : Int)), x7, .no, .no] _ = _
    refine (B_nx (S_set (d := rowD m (fwN i (fun i j => told bs i j) i)) (by simp [ev_var, ev_own, ev_con, ev_glob, ev_bin, ev_rep, ev_neg, ev_cmp, ev_chain, ev_isn, ev_notn, ev_and, ev_or, ev_not, ev_ife, ev_tup, ev_lst, ev_mkb, ev_ix, ev_slice, ev_call, ev_bf, ev_isi, ev_isi2, ev_lrng, ev_lzip, ev_sset, ev_lset, evL_nil, evL_cons, evO_none, evO_some, evC_none, evC_some, evI_seq, evI_rng, evI_zip, evI_enum, sx, getV, frzE, Sl.frz, asB, asI, tab_ix _ hi]))).trans ?_
    refine (B_nx (S_set (d := tabD m (fwN (i + 1) fun i j => told bs i j)) ?_)).trans B_nil
    refine lc_map (xs := List.range m) (cv := fun k => rowD m (fwN i (fun i j => told bs i j) k)) (by simp [ev_var, ev_own, ev_con, ev_glob, ev_bin, ev_rep, ev_neg, ev_cmp, ev_chain, ev_isn, ev_notn, ev_and, ev_or, ev_not, ev_ife, ev_tup, ev_lst, ev_mkb, ev_ix, ev_slice, ev_call, ev_bf, ev_isi, ev_isi2, ev_lrng, ev_lzip, ev_sset, ev_lset, evL_nil, evL_cons, evO_none, evO_some, evC_none, evC_some, evI_seq, evI_rng, evI_zip, evI_enum, sx, getV, frzE, Sl.frz, asB, asI, seqOf, tabD]) fun a ha => ⟨_, rfl, ?_⟩
    refine lc_map (xs := List.range m) (cv := fun (k : Nat) => D.int (k : Int)) (by simp [ev_var, ev_own, ev_con, ev_glob, ev_bin, ev_rep, ev_neg, ev_cmp, ev_chain, ev_isn, ev_notn, ev_and, ev_or, ev_not, ev_ife, ev_tup, ev_lst, ev_mkb, ev_ix, ev_slice, ev_call, ev_bf, ev_isi, ev_isi2, ev_lrng, ev_lzip, ev_sset, ev_lset, evL_nil, evL_cons, evO_none, evO_some, evC_none, evC_some, evI_seq, evI_rng, evI_zip, evI_enum, sx, getV, frzE, Sl.frz, asB, asI, seqOf, nodes, wipeD]) fun j hj => ⟨_, rfl, ?_⟩
    have ha' := List.mem_range.mp ha
    have hj' := List.mem_range.mp hj
    simp [ev_var, ev_own, ev_con, ev_glob, ev_bin, ev_rep, ev_neg, ev_cmp, ev_chain, ev_isn, ev_notn, ev_and, ev_or, ev_not, ev_ife, ev_tup, ev_lst, ev_mkb, ev_ix, ev_slice, ev_call, ev_bf, ev_isi, ev_isi2, ev_lrng, ev_lzip, ev_sset, ev_lset, evL_nil, evL_cons, evO_none, evO_some, evC_none, evC_some, evI_seq, evI_rng, evI_zip, evI_enum, sx, getV, frzE, Sl.frz, asB, asI, wipeD, row_ix _ hj', row_ix _ hi, o_addI, b_min2, fwN, fwStep]
end Mi
end
section
set_option Elab.async false
set_option linter.all false
set_option maxRecDepth 100000
set_option maxHeartbeats 2000000
/-! P4: shortest ways. -/
namespace Mi
open PySem L2
theorem fw_le (t : Tab) (k i j : Nat) : fwN (k + 1) t i j ≤ fwN k t i j := by
  show fwStep k (fwN k t) i j ≤ _
  unfold fwStep
  split <;> omega
theorem fw_via (t : Tab) (k i j : Nat) : fwN (k + 1) t i j ≤ fwN k t i k + fwN k t k j := by
  show fwStep k (fwN k t) i j ≤ _
  unfold fwStep
  split <;> omega
theorem fw_or (t : Tab) (k i j : Nat) : fwN (k + 1) t i j = fwN k t i j ∨ fwN (k + 1) t i j = fwN k t i k + fwN k t k j := by
  show fwStep k (fwN k t) i j = _ ∨ fwStep k (fwN k t) i j = _
  unfold fwStep
  split
  · exact .inr rfl
  · exact .inl rfl
theorem fw_mono (t : Tab) (i j : Nat) : ∀ {k l : Nat}, k ≤ l → fwN l t i j ≤ fwN k t i j
  | k, l, h => by
    induction l with
    | zero =>
      have : k = 0 := by omega
      subst this
      exact Int.le_refl _
    | succ l ih =>
      by_cases e : k = l + 1
      · subst e
        exact Int.le_refl _
      · have := ih (by omega)
        have := fw_le t l i j
        omega
/-- what a potential keeps, the closing keeps -/
theorem fw_sound {m : Nat} {t : Tab} {p : Nat → Int} (h : ∀ i j, i < m → j < m → p i - p j ≤ t i j) : ∀ k, k ≤ m → ∀ i j, i < m → j < m → p i - p j ≤ fwN k t i j
  | 0, _, i, j, hi, hj => h i j hi hj
  | k + 1, hk, i, j, hi, hj => by
    have ih := fw_sound h k (by omega)
    rcases fw_or t k i j with e | e
    · rw [e]; exact ih i j hi hj
    · rw [e]
      have h1 := ih i k hi (by omega)
      have h2 := ih k j (by omega) hj
      omega
theorem fw_tri {m : Nat} {t : Tab} (hd : ∀ i, i < m → 0 ≤ fwN m t i i) : ∀ k, k ≤ m → ∀ a, a < k → ∀ i j, i < m → j < m → fwN k t i j ≤ fwN k t i a + fwN k t a j
  | 0, _, a, ha, _, _, _, _ => absurd ha (by omega)
  | k + 1, hk, a, ha, i, j, hi, hj => by
    have ih := fw_tri hd k (by omega)
    have dk : 0 ≤ fwN k t k k := by
      have := hd k (by omega)
      have := fw_mono t k k (k := k) (l := m) (by omega)
      omega
    have lij := fw_le t k i j
    have vij := fw_via t k i j
    by_cases e : a = k
    · subst e
      rcases fw_or t a i a with e1 | e1 <;> rcases fw_or t a a j with e2 | e2 <;> rw [e1, e2] <;> omega
    · have ha' : a < k := by omega
      rcases fw_or t k i a with e1 | e1 <;> rcases fw_or t k a j with e2 | e2
      · rw [e1, e2]
        have := ih a ha' i j hi hj
        omega
      · rw [e1, e2]
        have := ih a ha' i k hi (by omega)
        omega
      · rw [e1, e2]
        have := ih a ha' k j (by omega) hj
        omega
      · rw [e1, e2]
        have := ih a ha' k k (by omega) (by omega)
        omega
/-- a closed table -/
structure Closed (m : Nat) (t : Tab) : Prop where
  z : ∀ i, i < m → t i i = 0
  tri : ∀ i j a, i < m → j < m → a < m → t i j ≤ t i a + t a j
theorem fw_closed {m : Nat} {t : Tab} (h0 : ∀ i, i < m → t i i ≤ 0) (hd : ∀ i, i < m → 0 ≤ fwN m t i i) : Closed m (fwN m t) := by
  refine ⟨fun i hi => ?_, fun i j a hi hj ha => fw_tri hd m (Nat.le_refl m) a ha i j hi hj⟩
  have h1 := hd i hi
  have h2 := fw_mono t i i (k := 0) (l := m) (by omega)
  have h3 := h0 i hi
  have h4 : fwN 0 t i i = t i i := rfl
  omega
/-! the told bounds -/
theorem minOf_le : ∀ (r : List Int) (i : Int), minOf i r ≤ i ∧ ∀ x ∈ r, minOf i r ≤ x
  | [], i => ⟨Int.le_refl _, fun x h => by cases h⟩
  | y :: r, i => by
    have ih := minOf_le r (if y < i then y else i)
    have e : minOf i (y :: r) = minOf (if y < i then y else i) r := rfl
    rw [e]
    refine ⟨?_, fun x hx => ?_⟩
    · have := ih.1
      split at this <;> omega
    · rcases List.mem_cons.mp hx with rfl | hx
      · have := ih.1
        split at this <;> omega
      · exact ih.2 x hx
theorem minOf_in : ∀ (r : List Int) (i : Int), minOf i r = i ∨ minOf i r ∈ r
  | [], i => .inl rfl
  | y :: r, i => by
    have e : minOf i (y :: r) = minOf (if y < i then y else i) r := rfl
    rw [e]
    rcases minOf_in r (if y < i then y else i) with h | h
    · rw [h]
      split
      · exact .inr List.mem_cons_self
      · exact .inl rfl
    · exact .inr (List.mem_cons_of_mem _ h)
theorem told_le {bs : List Lip} {l : Lip} (h : l ∈ bs) : told bs l.1 l.2.1 ≤ l.2.2 := by
  unfold told
  refine (minOf_le _ _).2 _ (List.mem_map.mpr ⟨l, List.mem_filter.mpr ⟨h, by simp⟩, rfl⟩)
theorem told_diag (bs : List Lip) (i : Int) : told bs i i ≤ 0 := by
  unfold told
  rw [if_pos rfl]
  exact (minOf_le _ _).1
/-- spots keep all bounds -/
def Keeps (bs : List Lip) (u : Int) (p : Int → Int) : Prop := ∀ l ∈ bs, p l.1 - p l.2.1 ≤ l.2.2 * u
theorem told_sound {bs : List Lip} {p : Int → Int} (h : Keeps bs 1 p) (hw : ∀ i j, p i - p j ≤ 1000000) (i j : Int) : p i - p j ≤ told bs i j := by
  unfold told
  rcases minOf_in ((bs.filter fun l => decide (l.1 = i ∧ l.2.1 = j)).map fun l => l.2.2) (if i = j then 0 else 1000000) with e | e
  · rw [e]
    split
    · rename_i q
      subst q
      omega
    · exact hw i j
  · obtain ⟨l, hl, e2⟩ := List.mem_map.mp e
    obtain ⟨h1, h2⟩ := List.mem_filter.mp hl
    obtain ⟨rfl, rfl⟩ := of_decide_eq_true h2
    rw [← e2]
    have := h l h1
    omega
end Mi
end
section
set_option Elab.async false
set_option linter.all false
set_option maxRecDepth 100000
set_option maxHeartbeats 2000000
/-! P5: fractions. -/
namespace Mi
open PySem L2
abbrev Fq := Int × Int
def fqD (f : Fq) : D := .tup [.int f.1, .int f.2]
theorem gcd_loop {Φ : Nat → List D → M D} {W : Nat} : ∀ (n a b : Nat) (s : Sto), b < n → whileL (fun ρ => bnd (ev Φ (.cmp .gt (.var 1) (.con (.int 0))) ρ) fun x => lif (asB x)) (evB Φ W (.cons (.par2 0 1 false false (.var 1) (.bin .mod (.var 0) (.var 1))) .nil)) n [.val (.int (a : Int)), .val (.int (b : Int))] s =
    .nx [.val (.int (Nat.gcd a b : Nat)), .val (.int 0)] s
  | 0, a, b, s, h => absurd h (by omega)
  | n + 1, a, b, s, h => by
    by_cases hb : b = 0
    · subst hb
      have c : (bnd (ev Φ (.cmp .gt (.var 1) (.con (.int 0))) [.val (.int (a : Int)), .val (.int ((0 : Nat) : Int))]) fun x => lif (asB x)) = pur false := by simp [ev_var, ev_own, ev_con, ev_glob, ev_bin, ev_rep, ev_neg, ev_cmp, ev_chain, ev_isn, ev_notn, ev_and, ev_or, ev_not, ev_ife, ev_tup, ev_lst, ev_mkb, ev_ix, ev_slice, ev_call, ev_bf, ev_isi, ev_isi2, ev_lrng, ev_lzip, ev_sset, ev_lset, evL_nil, evL_cons, evO_none, evO_some, evC_none, evC_some, evI_seq, evI_rng, evI_zip, evI_enum, sx, getV, frzE, Sl.frz, asB, asI, c_gt]
      unfold whileL
      simp only [c, pur]
      rw [Nat.gcd_zero_right] <;> rfl
    · have hb0 : (0 : Int) < (b : Int) := by omega
      have c : (bnd (ev Φ (.cmp .gt (.var 1) (.con (.int 0))) [.val (.int (a : Int)), .val (.int (b : Int))]) fun x => lif (asB x)) = pur true := by
        have : 0 < b := by omega
        simp [ev_var, ev_own, ev_con, ev_glob, ev_bin, ev_rep, ev_neg, ev_cmp, ev_chain, ev_isn, ev_notn, ev_and, ev_or, ev_not, ev_ife, ev_tup, ev_lst, ev_mkb, ev_ix, ev_slice, ev_call, ev_bf, ev_isi, ev_isi2, ev_lrng, ev_lzip, ev_sset, ev_lset, evL_nil, evL_cons, evO_none, evO_some, evC_none, evC_some, evI_seq, evI_rng, evI_zip, evI_enum, sx, getV, frzE, Sl.frz, asB, asI, c_gt, this]
      have st : evB Φ W (.cons (.par2 0 1 false false (.var 1) (.bin .mod (.var 0) (.var 1))) .nil) [.val (.int (a : Int)), .val (.int (b : Int))] s = .nx [.val (.int (b : Int)), .val (.int ((a % b : Nat) : Int))] s := by
        refine (B_nx (S_par (d1 := .int (b : Int)) (d2 := .int ((a % b : Nat) : Int)) (by simp [ev_var, ev_own, ev_con, ev_glob, ev_bin, ev_rep, ev_neg, ev_cmp, ev_chain, ev_isn, ev_notn, ev_and, ev_or, ev_not, ev_ife, ev_tup, ev_lst, ev_mkb, ev_ix, ev_slice, ev_call, ev_bf, ev_isi, ev_isi2, ev_lrng, ev_lzip, ev_sset, ev_lset, evL_nil, evL_cons, evO_none, evO_some, evC_none, evC_some, evI_seq, evI_rng, evI_zip, evI_enum, sx, getV, frzE, Sl.frz, asB, asI]) ?_)).trans B_nil
        simp [ev_var, ev_own, ev_con, ev_glob, ev_bin, ev_rep, ev_neg, ev_cmp, ev_chain, ev_isn, ev_notn, ev_and, ev_or, ev_not, ev_ife, ev_tup, ev_lst, ev_mkb, ev_ix, ev_slice, ev_call, ev_bf, ev_isi, ev_isi2, ev_lrng, ev_lzip, ev_sset, ev_lset, evL_nil, evL_cons, evO_none, evO_some, evC_none, evC_some, evI_seq, evI_rng, evI_zip, evI_enum, sx, getV, frzE, Sl.frz, asB, asI, o_modI _ _ hb0]
      unfold whileL
      simp only [c, pur, st]
      have ih := gcd_loop (Φ := Φ) (W := W) n b (a % b) s (by have := Nat.mod_lt a (show b > 0 by omega); omega)
      rw [ih]
      have e : Nat.gcd b (a % b) = Nat.gcd a b := by
        rw [Nat.gcd_comm a b, Nat.gcd_rec b a, Nat.gcd_comm]
      rw [e]
theorem w_F11 {W n : Nat} (a b : Nat) (h : b < W) : callN TT W (n + 1) 11 [.int (a : Int), .int (b : Int)] = pur (.int (Nat.gcd a b : Nat)) := by
  refine callN_pur T11 rfl fun s => ?_
  show evB (callN TT W n) W F11.body [.val (.int (a : Int)), .val (.int (b : Int))] s = _
  refine (B_nx (st := .while_ _ _) (s' := s) (ρ' := [.val (.int (Nat.gcd a b : Nat)), .val (.int 0)]) ?_).trans ?_
  · rw [evS]
    exact gcd_loop W a b s h
  · exact B_rt (S_ret (by simp [ev_var, ev_own, ev_con, ev_glob, ev_bin, ev_rep, ev_neg, ev_cmp, ev_chain, ev_isn, ev_notn, ev_and, ev_or, ev_not, ev_ife, ev_tup, ev_lst, ev_mkb, ev_ix, ev_slice, ev_call, ev_bf, ev_isi, ev_isi2, ev_lrng, ev_lzip, ev_sset, ev_lset, evL_nil, evL_cons, evO_none, evO_some, evC_none, evC_some, evI_seq, evI_rng, evI_zip, evI_enum, sx, getV, frzE, Sl.frz, asB, asI]))
/-- the reduced fraction -/
def redF (a b : Int) : Fq := (a / (Nat.gcd a.natAbs b.toNat : Nat), b / (Nat.gcd a.natAbs b.toNat : Nat))
theorem w_F12 {W n : Nat} (a b : Int) (hb : 0 < b) (hs : b < 10 ^ 40) (h : b.toNat < W) : callN TT W (n + 2) 12 [.int a, .int b] = pur (fqD (redF a b)) := by
  refine callN_pur T12 rfl fun s => ?_
  show evB (callN TT W (n + 1)) W F12.body [.val (.int a), .val (.int b), .no] s = _
  have e1 : ((b.toNat : Nat) : Int) = b := Int.toNat_of_nonneg (by omega)
  have e2 : (if a < 0 then -a else a) = (a.natAbs : Int) := by split <;> omega
  have hg : 0 < Nat.gcd a.natAbs b.toNat := Nat.gcd_pos_of_pos_right _ (by omega)
  have hl : Nat.gcd a.natAbs b.toNat ≤ b.toNat := Nat.le_of_dvd (by omega) (Nat.gcd_dvd_right _ _)
  have c1 := w_F11 (W := W) (n := n) a.natAbs b.toNat h
  rw [e1] at c1
  have lg : (0 : Int) < ((Nat.gcd a.natAbs b.toNat : Nat) : Int) ∧ ((Nat.gcd a.natAbs b.toNat : Nat) : Int).natAbs.log2 < 9000 := by
    refine ⟨by omega, ?_⟩
    rw [Int.natAbs_natCast]
    rw [Nat.log2_lt (by omega)]
    have : b.toNat < 10 ^ 40 := by omega
    have p : (10 : Nat) ^ 40 ≤ 2 ^ 9000 := by
      calc (10 : Nat) ^ 40 ≤ 2 ^ 133 := by decide
        _ ≤ 2 ^ 9000 := Nat.pow_le_pow_right (by decide) (by decide)
    omega
  refine (B_nx (S_set (d := .int (Nat.gcd a.natAbs b.toNat : Nat)) ?_)).trans ?_
  · simp [ev_var, ev_own, ev_con, ev_glob, ev_bin, ev_rep, ev_neg, ev_cmp, ev_chain, ev_isn, ev_notn, ev_and, ev_or, ev_not, ev_ife, ev_tup, ev_lst, ev_mkb, ev_ix, ev_slice, ev_call, ev_bf, ev_isi, ev_isi2, ev_lrng, ev_lzip, ev_sset, ev_lset, evL_nil, evL_cons, evO_none, evO_some, evC_none, evC_some, evI_seq, evI_rng, evI_zip, evI_enum, sx, getV, frzE, Sl.frz, asB, asI, b_abs, e2, c1]
  · refine B_rt (S_ret ?_)
    simp [ev_var, ev_own, ev_con, ev_glob, ev_bin, ev_rep, ev_neg, ev_cmp, ev_chain, ev_isn, ev_notn, ev_and, ev_or, ev_not, ev_ife, ev_tup, ev_lst, ev_mkb, ev_ix, ev_slice, ev_call, ev_bf, ev_isi, ev_isi2, ev_lrng, ev_lzip, ev_sset, ev_lset, evL_nil, evL_cons, evO_none, evO_some, evC_none, evC_some, evI_seq, evI_rng, evI_zip, evI_enum, sx, getV, frzE, Sl.frz, asB, asI, o_divI _ _ lg, fqD, redF]
end Mi
end
section
set_option Elab.async false
set_option linter.all false
set_option maxRecDepth 100000
set_option maxHeartbeats 2000000
/-! P6: cupboards and places are taken. -/
namespace Mi
open PySem L2
theorem callN_pn {W n f : Nat} {fd : Fd} {ds : List D} (h : TT f = some fd) (hl : ds.length = fd.np) (e : ∀ s, ∃ ρ', evB (callN TT W n) W fd.body (ds.map .val ++ List.replicate (fd.nl - fd.np) .no) s = .nx ρ' s) : callN TT W (n + 1) f ds = pur .non := by
  funext s
  obtain ⟨ρ', e1⟩ := e s
  rw [callN_at h hl, e1] <;> rfl
theorem bndP_len {w : Int} {ds : List Door} {ls : List Lip} (h3 : ds.length ≤ 3) (h4 : ls.length ≤ 4) : (bndP w ds ls).length ≤ 19 := by
  have := trk_len ds h3
  unfold bndP
  simp only [List.length_append, List.length_map, List.length_range]
  omega
/-- the closed table of a cupboard -/
def tblP (w : Int) (ds : List Door) (ls : List Lip) : Tab := fwN (ds.length + 1) fun i j => told (bndP w ds ls) i j
structure CupOk (w : Int) (ds : List Door) (ls : List Lip) : Prop where
  sh : Shape w ds ls
  ex : ∃ p : Int → Int, Keeps (bndP w ds ls) 1 p ∧ ∀ i, 0 ≤ p i ∧ p i ≤ 100
theorem CupOk.diag {w : Int} {ds : List Door} {ls : List Lip} (h : CupOk w ds ls) : ∀ i, i < ds.length + 1 → 0 ≤ tblP w ds ls i i := by
  obtain ⟨p, h1, h2⟩ := h.ex
  intro i hi
  have := fw_sound (m := ds.length + 1) (t := fun i j => told (bndP w ds ls) i j) (p := fun i => p i) (fun i j _ _ => told_sound h1 (fun a b => by have := h2 a; have := h2 b; omega) i j) (ds.length + 1) (Nat.le_refl _) i i hi hi
  show 0 ≤ fwN (ds.length + 1) _ i i
  simp only [Int.sub_self] at this
  exact this
theorem CupOk.closed {w : Int} {ds : List Door} {ls : List Lip} (h : CupOk w ds ls) : Closed (ds.length + 1) (tblP w ds ls) := fw_closed (fun i _ => told_diag _ _) h.diag
theorem w_F9 {W n : Nat} {w : Int} {ds : List Door} {ls : List Lip} (h : CupOk w ds ls) : callN TT W (n + 3) 9 [cupD w ds ls] = pur (tabD (ds.length + 1) (tblP w ds ls)) := by
  refine callN_pur T9 rfl fun s => ?_
  have h3 := h.sh.d1
  have h4 := h.sh.l1
  have c6 := w_F6 (W := W) (n := n) (w := w) h3 h4
  have c8 := w_F8 (W := W) (n := n) (m := ds.length + 1) (bs := bndP w ds ls) (by have := bndP_len (w := w) h3 h4; omega) (by omega) h.diag
  have e : ((ds.length + 1 : Nat) : Int) = (ds.length : Int) + 1 := by omega
  rw [e] at c8
  refine B_rt (S_ret ?_)
  show ev (callN TT W (n + 2)) _ [.val (cupD w ds ls)] = _
  have i1 : ixD (cupD w ds ls) (.int 1) = pur (.tup (ds.map doorD)) := ix1 _ _ _
  simp [ev_var, ev_own, ev_con, ev_glob, ev_bin, ev_rep, ev_neg, ev_cmp, ev_chain, ev_isn, ev_notn, ev_and, ev_or, ev_not, ev_ife, ev_tup, ev_lst, ev_mkb, ev_ix, ev_slice, ev_call, ev_bf, ev_isi, ev_isi2, ev_lrng, ev_lzip, ev_sset, ev_lset, evL_nil, evL_cons, evO_none, evO_some, evC_none, evC_some, evI_seq, evI_rng, evI_zip, evI_enum, sx, getV, frzE, Sl.frz, asB, asI, i1, b_lenT, o_addI, c6, c8]
  rfl
theorem w_F10 {W n : Nat} {w : Int} {ds : List Door} {ls : List Lip} (h : CupOk w ds ls) : callN TT W (n + 4) 10 [cupD w ds ls] = pur (.bl true) := by
  refine callN_pur T10 rfl fun s => ?_
  refine B_rt (S_ret ?_)
  show ev (callN TT W (n + 3)) _ [.val (cupD w ds ls)] = _
  simp [ev_var, ev_own, ev_con, ev_glob, ev_bin, ev_rep, ev_neg, ev_cmp, ev_chain, ev_isn, ev_notn, ev_and, ev_or, ev_not, ev_ife, ev_tup, ev_lst, ev_mkb, ev_ix, ev_slice, ev_call, ev_bf, ev_isi, ev_isi2, ev_lrng, ev_lzip, ev_sset, ev_lset, evL_nil, evL_cons, evO_none, evO_some, evC_none, evC_some, evI_seq, evI_rng, evI_zip, evI_enum, sx, getV, frzE, Sl.frz, asB, asI, w_F4 h.sh, w_F9 h, isNon, tabD]
theorem w_F16 {W n : Nat} {w : Int} {ds : List Door} {ls : List Lip} (h : CupOk w ds ls) : callN TT W (n + 5) 16 [cupD w ds ls] = pur .non := by
  refine callN_pn T16 rfl fun s => ⟨[.val (cupD w ds ls)], ?_⟩
  show evB (callN TT W (n + 4)) W F16.body [.val (cupD w ds ls)] s = _
  refine (B_nx ((S_if0 (by simp [ev_var, ev_own, ev_con, ev_glob, ev_bin, ev_rep, ev_neg, ev_cmp, ev_chain, ev_isn, ev_notn, ev_and, ev_or, ev_not, ev_ife, ev_tup, ev_lst, ev_mkb, ev_ix, ev_slice, ev_call, ev_bf, ev_isi, ev_isi2, ev_lrng, ev_lzip, ev_sset, ev_lset, evL_nil, evL_cons, evO_none, evO_some, evC_none, evC_some, evI_seq, evI_rng, evI_zip, evI_enum, sx, getV, frzE, Sl.frz, asB, asI, w_F10 h])).trans B_nil)).trans B_nil
/-! places -/
theorem o_pow (a b : Int) (h : 0 ≤ b ∧ b ≤ 1000000 ∧ a.natAbs < 18446744073709551616) : op2 .pow (.int a) (.int b) = some (.int (a ^ b.toNat)) := if_pos h
theorem w_F13 {W n : Nat} (f g : Fq) (h1 : f.1.natAbs < 18446744073709551616) (h2 : f.2.natAbs < 18446744073709551616) (h3 : g.1.natAbs < 18446744073709551616) (h : 0 < f.2 * g.2) (h4 : f.2 * g.2 < 10 ^ 40) (hW : (f.2 * g.2).toNat < W) :
    callN TT W (n + 3) 13 [fqD f, fqD g] = pur (fqD (redF (f.1 * g.2 - g.1 * f.2) (f.2 * g.2))) := by
  refine callN_pur T13 rfl fun s => ?_
  refine B_rt (S_ret ?_)
  show ev (callN TT W (n + 2)) _ [.val (fqD f), .val (fqD g)] = _
  simp [ev_var, ev_own, ev_con, ev_glob, ev_bin, ev_rep, ev_neg, ev_cmp, ev_chain, ev_isn, ev_notn, ev_and, ev_or, ev_not, ev_ife, ev_tup, ev_lst, ev_mkb, ev_ix, ev_slice, ev_call, ev_bf, ev_isi, ev_isi2, ev_lrng, ev_lzip, ev_sset, ev_lset, evL_nil, evL_cons, evO_none, evO_some, evC_none, evC_some, evI_seq, evI_rng, evI_zip, evI_enum, sx, getV, frzE, Sl.frz, asB, asI, fqD, ix0, ix1, o_subI, o_mulI _ _ (.inl h1), o_mulI _ _ (.inl h2), o_mulI _ _ (.inl h3)]
  exact w_F12 _ _ h h4 hW
structure FqOk (f : Fq) : Prop where
  a0 : 0 ≤ f.1
  a1 : f.1 ≤ 1000000000
  b0 : 1 ≤ f.2
  b1 : f.2 ≤ 1000000000
  g : Nat.gcd f.1.toNat f.2.toNat = 1
theorem w_F14 {W n : Nat} {f : Fq} (h : FqOk f) (hW : 1000000000 < W) : callN TT W (n + 2) 14 [fqD f] = pur (.bl true) := by
  refine callN_pur T14 rfl fun s => ?_
  show evB (callN TT W (n + 1)) W F14.body [.val (fqD f)] s = _
  obtain ⟨a0, a1, b0, b1, g⟩ := h
  have p : op2 .pow (.int 10) (.int 9) = some (.int 1000000000) := o_pow 10 9 (by decide)
  have c1 := w_F1 (W := W) (n := n) [.int f.1, .int f.2] 2 2
  have c11 := w_F11 (W := W) (n := n) f.1.toNat f.2.toNat (by omega)
  rw [g, Int.toNat_of_nonneg a0, Int.toNat_of_nonneg (by omega)] at c11
  refine (B_nx ((S_if0 ?_).trans B_nil)).trans (B_rt (S_ret ?_))
  · simp [ev_var, ev_own, ev_con, ev_glob, ev_bin, ev_rep, ev_neg, ev_cmp, ev_chain, ev_isn, ev_notn, ev_and, ev_or, ev_not, ev_ife, ev_tup, ev_lst, ev_mkb, ev_ix, ev_slice, ev_call, ev_bf, ev_isi, ev_isi2, ev_lrng, ev_lzip, ev_sset, ev_lset, evL_nil, evL_cons, evO_none, evO_some, evC_none, evC_some, evI_seq, evI_rng, evI_zip, evI_enum, sx, getV, frzE, Sl.frz, asB, asI, fqD, c1, ix0, ix1, p, w_F0, a0, a1, b0, b1]
  · simp [ev_var, ev_own, ev_con, ev_glob, ev_bin, ev_rep, ev_neg, ev_cmp, ev_chain, ev_isn, ev_notn, ev_and, ev_or, ev_not, ev_ife, ev_tup, ev_lst, ev_mkb, ev_ix, ev_slice, ev_call, ev_bf, ev_isi, ev_isi2, ev_lrng, ev_lzip, ev_sset, ev_lset, evL_nil, evL_cons, evO_none, evO_some, evC_none, evC_some, evI_seq, evI_rng, evI_zip, evI_enum, sx, getV, frzE, Sl.frz, asB, asI, fqD, ix0, ix1, c11, c_eq, eqD_int]
end Mi
end
section
set_option Elab.async false
set_option linter.all false
set_option maxRecDepth 100000
set_option maxHeartbeats 2000000
/-! P7: places are taken. -/
namespace Mi
open PySem L2
/-- the fraction f stands for q parts of M -/
structure Q (M q : Int) (f : Fq) : Prop where
  pos : 0 < f.2
  eq : q * f.2 = f.1 * M
theorem Q.diff {M q1 q2 : Int} {f g : Fq} (h1 : Q M q1 f) (h2 : Q M q2 g) : M * (f.1 * g.2 - g.1 * f.2) = (q1 - q2) * (f.2 * g.2) := by
  have e1 := h1.eq
  have e2 := h2.eq
  grind
theorem Q.lt {M q1 q2 : Int} {f g : Fq} (hM : 0 < M) (h1 : Q M q1 f) (h2 : Q M q2 g) : f.1 * g.2 < g.1 * f.2 ↔ q1 < q2 := by
  have d := h1.diff h2
  have p : 0 < f.2 * g.2 := Int.mul_pos h1.pos h2.pos
  constructor
  · intro h
    have n1 : M * (f.1 * g.2 - g.1 * f.2) < 0 := Int.mul_neg_of_pos_of_neg hM (by omega)
    rcases Int.lt_or_le q1 q2 with c | c
    · exact c
    · have := Int.mul_nonneg (show 0 ≤ q1 - q2 by omega) (Int.le_of_lt p)
      omega
  · intro h
    have n1 : (q1 - q2) * (f.2 * g.2) < 0 := Int.mul_neg_of_neg_of_pos (by omega) p
    rcases Int.lt_or_le (f.1 * g.2) (g.1 * f.2) with c | c
    · exact c
    · have := Int.mul_nonneg (Int.le_of_lt hM) (show 0 ≤ f.1 * g.2 - g.1 * f.2 by omega)
      omega
theorem red_spec (a b : Int) (hb : 0 < b) : ∃ g : Int, 0 < g ∧ a = (redF a b).1 * g ∧ b = (redF a b).2 * g := by
  have e1 : ((b.toNat : Nat) : Int) = b := Int.toNat_of_nonneg (by omega)
  have hg : 0 < Nat.gcd a.natAbs b.toNat := Nat.gcd_pos_of_pos_right _ (by omega)
  refine ⟨(Nat.gcd a.natAbs b.toNat : Nat), by omega, ?_, ?_⟩
  · exact (Int.ediv_mul_cancel (Int.dvd_natAbs.mp (Int.natCast_dvd_natCast.mpr (Nat.gcd_dvd_left _ _)))).symm
  · refine (Int.ediv_mul_cancel ?_).symm
    have : ((Nat.gcd a.natAbs b.toNat : Nat) : Int) ∣ ((b.toNat : Nat) : Int) := Int.natCast_dvd_natCast.mpr (Nat.gcd_dvd_right _ _)
    rwa [e1] at this
theorem Q.red {M q1 q2 : Int} {f g : Fq} (hM : 0 < M) (h1 : Q M q1 f) (h2 : Q M q2 g) : Q M (q1 - q2) (redF (f.1 * g.2 - g.1 * f.2) (f.2 * g.2)) := by
  have d := h1.diff h2
  have p : 0 < f.2 * g.2 := Int.mul_pos h1.pos h2.pos
  obtain ⟨k, hk, e1, e2⟩ := red_spec (f.1 * g.2 - g.1 * f.2) (f.2 * g.2) p
  generalize redF (f.1 * g.2 - g.1 * f.2) (f.2 * g.2) = r at e1 e2 ⊢
  refine ⟨?_, ?_⟩
  · rw [e2] at p
    exact Int.pos_of_mul_pos_left p hk
  · rw [e1, e2] at d
    have : ((q1 - q2) * r.2) * k = (r.1 * M) * k := by grind
    exact Int.eq_of_mul_eq_mul_right (by omega) this
theorem bndP_ix {w : Int} {ds : List Door} {ls : List Lip} (h : Shape w ds ls) {l : Lip} (hl : l ∈ bndP w ds ls) : 0 ≤ l.1 ∧ l.1 ≤ ds.length ∧ 0 ≤ l.2.1 ∧ l.2.1 ≤ ds.length ∧ -100 ≤ l.2.2 ∧ l.2.2 ≤ 100 := by
  have dk : ∀ k, k < ds.length → DoorOk w (dr ds k) := fun k hk => by
    have : dr ds k ∈ ds := by
      unfold dr
      rw [List.getD_eq_getElem?_getD, List.getElem?_eq_getElem hk]
      exact List.getElem_mem hk
    exact h.dok _ this
  have h0 := h.w0
  have h1 := h.w1
  unfold bndP at hl
  rcases List.mem_append.mp hl with hl | hl
  · rcases List.mem_append.mp hl with hl | hl
    · rcases List.mem_append.mp hl with hl | hl
      · obtain ⟨k, hk, rfl⟩ := List.mem_map.mp hl
        have hk := List.mem_range.mp hk
        have q := dk k hk
        have := q.w0
        have := q.w1
        exact ⟨by simp only; omega, by simp only; omega, by simp, by simp, by simp only; omega, by simp only; omega⟩
      · obtain ⟨k, hk, rfl⟩ := List.mem_map.mp hl
        have hk := List.mem_range.mp hk
        exact ⟨by simp, by simp, by simp only; omega, by simp only; omega, by simp, by simp⟩
    · obtain ⟨p, hp, rfl⟩ := List.mem_map.mp hl
      obtain ⟨a, b, c, d⟩ := trk_mem hp
      have q := dk p.1 a
      have := q.w0
      have := q.w1
      exact ⟨by simp only; omega, by simp only; omega, by simp only; omega, by simp only; omega, by simp only; omega, by simp only; omega⟩
  · obtain ⟨l', hl', rfl⟩ := List.mem_map.mp hl
    obtain ⟨q1, q2, q3, q4, q5, q6, q7⟩ := h.lok l' hl'
    exact ⟨by simp only; omega, by simp only; omega, by simp only; omega, by simp only; omega, by simp only; omega, by simp only; omega⟩
/-- places, as parts of M -/
structure Pl (m : Nat) (M : Int) (fs : List Fq) (p : Int → Int) : Prop where
  len : fs.length = m
  M0 : 0 < M
  z : p 0 = 0
  q : ∀ k, k < m → Q M (p ((k : Int) + 1)) (fs.getD k (0, 1))
theorem Pl.sp {m : Nat} {M : Int} {fs : List Fq} {p : Int → Int} (h : Pl m M fs p) {i : Int} (h0 : 0 ≤ i) (h1 : i ≤ m) : ixD (.tup (((0, 1) :: fs).map fqD)) (.int i) = pur (fqD (((0, 1) :: fs).getD i.toNat (0, 1))) ∧ Q M (p i) (((0, 1) :: fs).getD i.toNat (0, 1)) := by
  have hl := h.len
  have e : ((i.toNat : Nat) : Int) = i := Int.toNat_of_nonneg h0
  constructor
  · have := ixK fqD ((0, 1) :: fs) i.toNat (0, 1) (by rw [List.length_cons]; omega)
    rwa [e] at this
  · cases hk : i.toNat with
    | zero =>
      have : i = 0 := by omega
      subst this
      rw [h.z]
      exact ⟨by show (0 : Int) < 1; decide, by show (0 : Int) * 1 = 0 * M; simp⟩
    | succ k =>
      have : i = (k : Int) + 1 := by omega
      subst this
      exact h.q k (by omega)
end Mi
end
section
set_option Elab.async false
set_option linter.all false
set_option maxRecDepth 100000
set_option maxHeartbeats 2000000
/-! P8: places are taken. -/
namespace Mi
open PySem L2
/-- small fractions -/
def Sm (f : Fq) : Prop := 0 ≤ f.1 ∧ f.1 ≤ 1000000000 ∧ 1 ≤ f.2 ∧ f.2 ≤ 1000000000
theorem sm_sp {fs : List Fq} (h : ∀ f ∈ fs, FqOk f) (k : Nat) : Sm (((0, 1) :: fs).getD k (0, 1)) := by
  by_cases hk : k < ((0, 1) :: fs).length
  · have : ((0, 1) :: fs).getD k (0, 1) ∈ ((0, 1) :: fs) := by
      rw [List.getD_eq_getElem?_getD, List.getElem?_eq_getElem hk]
      exact List.getElem_mem hk
    rcases List.mem_cons.mp this with e | e
    · rw [e]; exact ⟨by decide, by decide, by decide, by decide⟩
    · have := h _ e
      exact ⟨this.a0, this.a1, this.b0, this.b1⟩
  · rw [List.getD_eq_getElem?_getD, List.getElem?_eq_none (by omega)]
    exact ⟨by decide, by decide, by decide, by decide⟩
theorem Sm.ok {f g : Fq} (h1 : Sm f) (h2 : Sm g) : f.1.natAbs < 18446744073709551616 ∧ f.2.natAbs < 18446744073709551616 ∧ 0 < f.2 * g.2 ∧ f.2 * g.2 ≤ 1000000000000000000 := by
  obtain ⟨a, b, c, d⟩ := h1
  obtain ⟨a', b', c', d'⟩ := h2
  refine ⟨by omega, by omega, Int.mul_pos (by omega) (by omega), ?_⟩
  have := Int.mul_le_mul d d' (by omega) (by omega : (0 : Int) ≤ 1000000000)
  omega
theorem w_F15 {n m : Nat} {w M : Int} {ds : List Door} {ls : List Lip} {fs : List Fq} {p : Int → Int} (h : Shape w ds ls) (hp : Pl ds.length M fs p) (hf : ∀ f ∈ fs, FqOk f) (hk : Keeps (bndP w ds ls) M p) : callN TT WF (n + 4) 15 [cupD w ds ls, .tup (fs.map fqD)] = pur (.bl true) := by
  refine callN_pur T15 rfl fun s => ?_
  show evB (callN TT WF (n + 3)) WF F15.body [.val (cupD w ds ls), .val (.tup (fs.map fqD)), .no, .no, .no, .no, .no, .no] s = _
  have i1 : ixD (cupD w ds ls) (.int 1) = pur (.tup (ds.map doorD)) := ix1 _ _ _
  have c1 := w_F1 (W := WF) (n := n + 2) (fs.map fqD) ds.length ds.length
  have c14 : ∀ f ∈ fs, callN TT WF (n + 3) 14 [fqD f] = pur (.bl true) := fun f hf' => w_F14 (hf f hf') (by decide)
  have len := hp.len
  refine (B_nx ((S_if0 ?_).trans B_nil)).trans ?_
  · rw [ev_or, ev_not, ev_not, ev_bf, evL_cons]
    rw [lc_map (xs := fs) (cv := fqD) (h := fun _ => .bl true) (by simp [ev_var, ev_own, ev_con, ev_glob, ev_bin, ev_rep, ev_neg, ev_cmp, ev_chain, ev_isn, ev_notn, ev_and, ev_or, ev_not, ev_ife, ev_tup, ev_lst, ev_mkb, ev_ix, ev_slice, ev_call, ev_bf, ev_isi, ev_isi2, ev_lrng, ev_lzip, ev_sset, ev_lset, evL_nil, evL_cons, evO_none, evO_some, evC_none, evC_some, evI_seq, evI_rng, evI_zip, evI_enum, sx, getV, frzE, Sl.frz, asB, asI, seqOf]) fun f hf' => ⟨_, rfl, by simp [ev_var, ev_own, ev_con, ev_glob, ev_bin, ev_rep, ev_neg, ev_cmp, ev_chain, ev_isn, ev_notn, ev_and, ev_or, ev_not, ev_ife, ev_tup, ev_lst, ev_mkb, ev_ix, ev_slice, ev_call, ev_bf, ev_isi, ev_isi2, ev_lrng, ev_lzip, ev_sset, ev_lset, evL_nil, evL_cons, evO_none, evO_some, evC_none, evC_some, evI_seq, evI_rng, evI_zip, evI_enum, sx, getV, frzE, Sl.frz, asB, asI, wipeD, c14 f hf']⟩]
    simp [ev_var, ev_own, ev_con, ev_glob, ev_bin, ev_rep, ev_neg, ev_cmp, ev_chain, ev_isn, ev_notn, ev_and, ev_or, ev_not, ev_ife, ev_tup, ev_lst, ev_mkb, ev_ix, ev_slice, ev_call, ev_bf, ev_isi, ev_isi2, ev_lrng, ev_lzip, ev_sset, ev_lset, evL_nil, evL_cons, evO_none, evO_some, evC_none, evC_some, evI_seq, evI_rng, evI_zip, evI_enum, sx, getV, frzE, Sl.frz, asB, asI, i1, b_lenT, c1, len, bfn, blsT, allT]
  have sl := o_addT [fqD (0, 1)] (fs.map fqD) (by
    rw [List.length_map, len]
    have := h.d1
    show 1 + _ ≤ 16777216
    omega)
  refine (B_nx (S_set (d := .tup (((0, 1) :: fs).map fqD)) ?_)).trans ?_
  · simp only [ev_var, ev_own, ev_con, ev_glob, ev_bin, ev_rep, ev_neg, ev_cmp, ev_chain, ev_isn, ev_notn, ev_and, ev_or, ev_not, ev_ife, ev_tup, ev_lst, ev_mkb, ev_ix, ev_slice, ev_call, ev_bf, ev_isi, ev_isi2, ev_lrng, ev_lzip, ev_sset, ev_lset, evL_nil, evL_cons, evO_none, evO_some, evC_none, evC_some, evI_seq, evI_rng, evI_zip, evI_enum, sx, getV, frzE, Sl.frz, asB, asI, List.set_cons_zero, List.set_cons_succ]
    have : fqD (0, 1) = .tup [.int 0, .int 1] := rfl
    rw [this] at sl
    simp [ev_var, ev_own, ev_con, ev_glob, ev_bin, ev_rep, ev_neg, ev_cmp, ev_chain, ev_isn, ev_notn, ev_and, ev_or, ev_not, ev_ife, ev_tup, ev_lst, ev_mkb, ev_ix, ev_slice, ev_call, ev_bf, ev_isi, ev_isi2, ev_lrng, ev_lzip, ev_sset, ev_lset, evL_nil, evL_cons, evO_none, evO_some, evC_none, evC_some, evI_seq, evI_rng, evI_zip, evI_enum, sx, getV, frzE, Sl.frz, asB, asI, sl, this]
  simp only [List.set_cons_zero, List.set_cons_succ]
  have c6 := w_F6 (W := WF) (n := n + 1) (w := w) h.d1 h.l1
  have lp := forL_inv (f := fun d ρ s => match tgt (.tp (.cons (.nm 2) (.cons (.nm 4) (.cons (.nm 5) .nil)))) d ρ with
    | some ρ' => evB (callN TT WF (n + 3)) WF (.cons (.asg (.tp (.cons (.nm 6) (.cons (.nm 7) .nil))) (.call 13 (.cons (.ix (.var 3) (.var 2)) (.cons (.ix (.var 3) (.var 4)) .nil)))) (.cons (.iff (.cmp .gt (.var 6) (.bin .mul (.var 5) (.var 7))) (.cons (.ret (.con (.bl false))) .nil) .nil) .nil)) ρ' s
    | none => .stuck) (fun k ρ s' => s' = s ∧ ∃ x2 x4 x5 x6 x7, ρ = [.val (cupD w ds ls), .val (.tup (fs.map fqD)), x2, .val (.tup (((0, 1) :: fs).map fqD)), x4, x5, x6, x7]) ((bndP w ds ls).map lipD) 0 (ρ := [.val (cupD w ds ls), .val (.tup (fs.map fqD)), .no, .val (.tup (((0, 1) :: fs).map fqD)), .no, .no, .no, .no]) (s := s) ⟨rfl, .no, .no, .no, .no, .no, rfl⟩ ?_
  · obtain ⟨ρ', s', e, rfl, x2, x4, x5, x6, x7, rfl⟩ := lp
    refine (B_nx ((S_for (ds := (bndP w ds ls).map lipD) (by simp [ev_var, ev_own, ev_con, ev_glob, ev_bin, ev_rep, ev_neg, ev_cmp, ev_chain, ev_isn, ev_notn, ev_and, ev_or, ev_not, ev_ife, ev_tup, ev_lst, ev_mkb, ev_ix, ev_slice, ev_call, ev_bf, ev_isi, ev_isi2, ev_lrng, ev_lzip, ev_sset, ev_lset, evL_nil, evL_cons, evO_none, evO_some, evC_none, evC_some, evI_seq, evI_rng, evI_zip, evI_enum, sx, getV, frzE, Sl.frz, asB, asI, seqOf, c6])).trans e)).trans ?_
    exact B_rt (S_ret (by simp [ev_var, ev_own, ev_con, ev_glob, ev_bin, ev_rep, ev_neg, ev_cmp, ev_chain, ev_isn, ev_notn, ev_and, ev_or, ev_not, ev_ife, ev_tup, ev_lst, ev_mkb, ev_ix, ev_slice, ev_call, ev_bf, ev_isi, ev_isi2, ev_lrng, ev_lzip, ev_sset, ev_lset, evL_nil, evL_cons, evO_none, evO_some, evC_none, evC_some, evI_seq, evI_rng, evI_zip, evI_enum, sx, getV, frzE, Sl.frz, asB, asI]))
  · rintro i d ρ s' hd' ⟨rfl, x2, x4, x5, x6, x7, rfl⟩
    obtain ⟨l, hl, rfl⟩ : ∃ l, l ∈ bndP w ds ls ∧ d = lipD l := by
      rw [List.getElem?_map] at hd'
      cases q : (bndP w ds ls)[i]? with
      | none => rw [q] at hd'; cases hd'
      | some l => rw [q] at hd'; cases hd'; exact ⟨l, List.mem_of_getElem? q, rfl⟩
    obtain ⟨k1, k2, k3, k4, k5, k6⟩ := bndP_ix h hl
    obtain ⟨p1, q1⟩ := hp.sp k1 k2
    obtain ⟨p2, q2⟩ := hp.sp k3 k4
    have s1 := sm_sp hf l.1.toNat
    have s2 := sm_sp hf l.2.1.toNat
    generalize ((0, 1) :: fs).getD l.1.toNat (0, 1) = f at p1 q1 s1
    generalize ((0, 1) :: fs).getD l.2.1.toNat (0, 1) = g at p2 q2 s2
    obtain ⟨m1, m2, m3, m4⟩ := s1.ok s2
    obtain ⟨m5, _⟩ := s2.ok s1
    have c13 := w_F13 (W := WF) (n := n) f g m1 m2 m5 m3 (by omega) (by show _ < 1000000000000000000000000000000; omega)
    have qr := q1.red hp.M0 q2
    have kk := hk l hl
    generalize redF (f.1 * g.2 - g.1 * f.2) (f.2 * g.2) = r at c13 qr
    have no : ¬ (l.2.2 * r.2 < r.1) := fun c => by
      have z := qr.eq
      have z1 : (p l.1 - p l.2.1) * r.2 ≤ (l.2.2 * M) * r.2 := Int.mul_le_mul_of_nonneg_right kk (Int.le_of_lt qr.pos)
      have z2 : (l.2.2 * r.2) * M < r.1 * M := Int.mul_lt_mul_of_pos_right c hp.M0
      have z3 : (l.2.2 * M) * r.2 = (l.2.2 * r.2) * M := by grind
      omega
    refine ⟨_, s', ?_, rfl, .val (.int l.1), .val (.int l.2.1), .val (.int l.2.2), .val (.int r.1), .val (.int r.2), rfl⟩
    show evB _ _ _ [.val (cupD w ds ls), .val (.tup (fs.map fqD)), .val (.int l.1), .val (.tup (((0, 1) :: fs).map fqD)), .val (.int l.2.1), .val (.int l.2.2), x6, x7] _ = _
    refine (B_nx (S_asg (d := fqD r) (ρ' := [.val (cupD w ds ls), .val (.tup (fs.map fqD)), .val (.int l.1), .val (.tup (((0, 1) :: fs).map fqD)), .val (.int l.2.1), .val (.int l.2.2), .val (.int r.1), .val (.int r.2)]) ?_ rfl)).trans ?_
    · simp only [ev_var, ev_own, ev_con, ev_glob, ev_bin, ev_rep, ev_neg, ev_cmp, ev_chain, ev_isn, ev_notn, ev_and, ev_or, ev_not, ev_ife, ev_tup, ev_lst, ev_mkb, ev_ix, ev_slice, ev_call, ev_bf, ev_isi, ev_isi2, ev_lrng, ev_lzip, ev_sset, ev_lset, evL_nil, evL_cons, evO_none, evO_some, evC_none, evC_some, evI_seq, evI_rng, evI_zip, evI_enum, sx, getV, frzE, Sl.frz, asB, asI, List.getElem?_cons_zero, List.getElem?_cons_succ, p1, p2, bnd_pur, lif_some]
      exact c13
    · refine (B_nx ((S_if0 ?_).trans B_nil)).trans B_nil
      simp [ev_var, ev_own, ev_con, ev_glob, ev_bin, ev_rep, ev_neg, ev_cmp, ev_chain, ev_isn, ev_notn, ev_and, ev_or, ev_not, ev_ife, ev_tup, ev_lst, ev_mkb, ev_ix, ev_slice, ev_call, ev_bf, ev_isi, ev_isi2, ev_lrng, ev_lzip, ev_sset, ev_lset, evL_nil, evL_cons, evO_none, evO_some, evC_none, evC_some, evI_seq, evI_rng, evI_zip, evI_enum, sx, getV, frzE, Sl.frz, asB, asI, o_mulI _ _ (.inl (show l.2.2.natAbs < 18446744073709551616 by omega)), c_gt]
      rw [decide_eq_false no]
theorem w_F17 {n m : Nat} {w M : Int} {ds : List Door} {ls : List Lip} {fs : List Fq} {p : Int → Int} (h : Shape w ds ls) (hp : Pl ds.length M fs p) (hf : ∀ f ∈ fs, FqOk f) (hk : Keeps (bndP w ds ls) M p) : callN TT WF (n + 5) 17 [cupD w ds ls, .tup (fs.map fqD)] = pur .non := by
  refine callN_pn T17 rfl fun s => ⟨[.val (cupD w ds ls), .val (.tup (fs.map fqD))], ?_⟩
  show evB (callN TT WF (n + 4)) WF F17.body [.val (cupD w ds ls), .val (.tup (fs.map fqD))] s = _
  refine (B_nx ((S_if0 (by simp [ev_var, ev_own, ev_con, ev_glob, ev_bin, ev_rep, ev_neg, ev_cmp, ev_chain, ev_isn, ev_notn, ev_and, ev_or, ev_not, ev_ife, ev_tup, ev_lst, ev_mkb, ev_ix, ev_slice, ev_call, ev_bf, ev_isi, ev_isi2, ev_lrng, ev_lzip, ev_sset, ev_lset, evL_nil, evL_cons, evO_none, evO_some, evC_none, evC_some, evI_seq, evI_rng, evI_zip, evI_enum, sx, getV, frzE, Sl.frz, asB, asI, w_F15 (m := m) h hp hf hk])).trans B_nil)).trans B_nil
end Mi
end
section
set_option Elab.async false
set_option linter.all false
set_option maxRecDepth 100000
set_option maxHeartbeats 2000000
/-! P9: pushes. -/
namespace Mi
open PySem L2
inductive Push where
  | to (d : Nat) (x : Int)
  | by_ (d : Nat) (x : Int)
  | end_ (d : Nat) (r : Bool)
abbrev sTo : D := .str (Str.ofString "to")
abbrev sBy : D := .str (Str.ofString "by")
abbrev sEnd : D := .str (Str.ofString "end")
abbrev sSide (r : Bool) : D := .str (if r = true then Str.ofString "right" else Str.ofString "left")
def pushD : Push → D
  | .to d x => .tup [sTo, .int (d : Int), .int x]
  | .by_ d x => .tup [sBy, .int (d : Int), .int x]
  | .end_ d r => .tup [sEnd, .int (d : Int), sSide r]
def PushOk (w : Int) (m : Nat) : Push → Prop
  | .to d x => d < m ∧ 0 ≤ x ∧ x ≤ w
  | .by_ d x => d < m ∧ -w ≤ x ∧ x ≤ w ∧ x ≠ 0
  | .end_ d _ => d < m
theorem e_to_to : eqD sTo sTo = some true := by decide +kernel
theorem e_by_to : eqD sBy sTo = some false := by decide +kernel
theorem e_by_by : eqD sBy sBy = some true := by decide +kernel
theorem e_end_to : eqD sEnd sTo = some false := by decide +kernel
theorem e_end_by : eqD sEnd sBy = some false := by decide +kernel
theorem e_end_end : eqD sEnd sEnd = some true := by decide +kernel
theorem e_to_end : eqD sTo sEnd = some false := by decide +kernel
theorem e_by_end : eqD sBy sEnd = some false := by decide +kernel
theorem e_side (r : Bool) : eqD (sSide r) (.str (Str.ofString "left")) = some (!r) := by
  cases r <;> decide +kernel
theorem in_side (r : Bool) : inD (sSide r) (gV 2) = some true := by
  cases r <;> decide +kernel
theorem c_in (a b : D) : opc .inn a b = inD a b := rfl
theorem w_F18 {W n : Nat} {w : Int} {ds : List Door} {ls : List Lip} {p : Push} (h : PushOk w ds.length p) : callN TT W (n + 2) 18 [cupD w ds ls, pushD p] = pur (.bl true) := by
  refine callN_pur T18 rfl fun s => ?_
  show evB (callN TT W (n + 1)) W F18.body [.val (cupD w ds ls), .val (pushD p), .no, .no, .no] s = _
  refine (B_nx (S_asg (d := cupD w ds ls) (ρ' := [.val (cupD w ds ls), .val (pushD p), .val (.int w), .val (.tup (ds.map doorD)), .val (.tup (ls.map lipD))]) (by simp [ev_var, ev_own, ev_con, ev_glob, ev_bin, ev_rep, ev_neg, ev_cmp, ev_chain, ev_isn, ev_notn, ev_and, ev_or, ev_not, ev_ife, ev_tup, ev_lst, ev_mkb, ev_ix, ev_slice, ev_call, ev_bf, ev_isi, ev_isi2, ev_lrng, ev_lzip, ev_sset, ev_lset, evL_nil, evL_cons, evO_none, evO_some, evC_none, evC_some, evI_seq, evI_rng, evI_zip, evI_enum, sx, getV, frzE, Sl.frz, asB, asI]) rfl)).trans ?_
  have c1 : ∀ a b c : D, callN TT W (n + 1) 1 [.tup [a, b, c], .int 3, .int 3] = pur (.bl true) := fun a b c => by
    have := w_F1 (W := W) (n := n) [a, b, c] 3 3
    simpa using this
  cases p with
  | to d x =>
    obtain ⟨h1, h2, h3⟩ := h
    refine (B_nx ((S_if0 ?_).trans B_nil)).trans (B_rt ((S_if1 ?_).trans (B_rt (S_ret ?_))))
    · simp [ev_var, ev_own, ev_con, ev_glob, ev_bin, ev_rep, ev_neg, ev_cmp, ev_chain, ev_isn, ev_notn, ev_and, ev_or, ev_not, ev_ife, ev_tup, ev_lst, ev_mkb, ev_ix, ev_slice, ev_call, ev_bf, ev_isi, ev_isi2, ev_lrng, ev_lzip, ev_sset, ev_lset, evL_nil, evL_cons, evO_none, evO_some, evC_none, evC_some, evI_seq, evI_rng, evI_zip, evI_enum, sx, getV, frzE, Sl.frz, asB, asI, pushD, c1, ix0, ix1, isTy, isK, kd, b_lenT, o_subI, w_F0, (show (d : Int) ≤ (ds.length : Int) - 1 by omega)]
    · simp [ev_var, ev_own, ev_con, ev_glob, ev_bin, ev_rep, ev_neg, ev_cmp, ev_chain, ev_isn, ev_notn, ev_and, ev_or, ev_not, ev_ife, ev_tup, ev_lst, ev_mkb, ev_ix, ev_slice, ev_call, ev_bf, ev_isi, ev_isi2, ev_lrng, ev_lzip, ev_sset, ev_lset, evL_nil, evL_cons, evO_none, evO_some, evC_none, evC_some, evI_seq, evI_rng, evI_zip, evI_enum, sx, getV, frzE, Sl.frz, asB, asI, pushD, ix0, c_eq, e_to_to]
    · simp [ev_var, ev_own, ev_con, ev_glob, ev_bin, ev_rep, ev_neg, ev_cmp, ev_chain, ev_isn, ev_notn, ev_and, ev_or, ev_not, ev_ife, ev_tup, ev_lst, ev_mkb, ev_ix, ev_slice, ev_call, ev_bf, ev_isi, ev_isi2, ev_lrng, ev_lzip, ev_sset, ev_lset, evL_nil, evL_cons, evO_none, evO_some, evC_none, evC_some, evI_seq, evI_rng, evI_zip, evI_enum, sx, getV, frzE, Sl.frz, asB, asI, pushD, ix2, w_F0, h2, h3]
  | by_ d x =>
    obtain ⟨h1, h2, h3, h4⟩ := h
    refine (B_nx ((S_if0 ?_).trans B_nil)).trans ((B_nx ((S_if0 ?_).trans B_nil)).trans (B_rt ((S_if1 ?_).trans (B_rt (S_ret ?_)))))
    · simp [ev_var, ev_own, ev_con, ev_glob, ev_bin, ev_rep, ev_neg, ev_cmp, ev_chain, ev_isn, ev_notn, ev_and, ev_or, ev_not, ev_ife, ev_tup, ev_lst, ev_mkb, ev_ix, ev_slice, ev_call, ev_bf, ev_isi, ev_isi2, ev_lrng, ev_lzip, ev_sset, ev_lset, evL_nil, evL_cons, evO_none, evO_some, evC_none, evC_some, evI_seq, evI_rng, evI_zip, evI_enum, sx, getV, frzE, Sl.frz, asB, asI, pushD, c1, ix0, ix1, isTy, isK, kd, b_lenT, o_subI, w_F0, (show (d : Int) ≤ (ds.length : Int) - 1 by omega)]
    · simp [ev_var, ev_own, ev_con, ev_glob, ev_bin, ev_rep, ev_neg, ev_cmp, ev_chain, ev_isn, ev_notn, ev_and, ev_or, ev_not, ev_ife, ev_tup, ev_lst, ev_mkb, ev_ix, ev_slice, ev_call, ev_bf, ev_isi, ev_isi2, ev_lrng, ev_lzip, ev_sset, ev_lset, evL_nil, evL_cons, evO_none, evO_some, evC_none, evC_some, evI_seq, evI_rng, evI_zip, evI_enum, sx, getV, frzE, Sl.frz, asB, asI, pushD, ix0, c_eq, e_by_to]
    · simp [ev_var, ev_own, ev_con, ev_glob, ev_bin, ev_rep, ev_neg, ev_cmp, ev_chain, ev_isn, ev_notn, ev_and, ev_or, ev_not, ev_ife, ev_tup, ev_lst, ev_mkb, ev_ix, ev_slice, ev_call, ev_bf, ev_isi, ev_isi2, ev_lrng, ev_lzip, ev_sset, ev_lset, evL_nil, evL_cons, evO_none, evO_some, evC_none, evC_some, evI_seq, evI_rng, evI_zip, evI_enum, sx, getV, frzE, Sl.frz, asB, asI, pushD, ix0, c_eq, e_by_by]
    · simp [ev_var, ev_own, ev_con, ev_glob, ev_bin, ev_rep, ev_neg, ev_cmp, ev_chain, ev_isn, ev_notn, ev_and, ev_or, ev_not, ev_ife, ev_tup, ev_lst, ev_mkb, ev_ix, ev_slice, ev_call, ev_bf, ev_isi, ev_isi2, ev_lrng, ev_lzip, ev_sset, ev_lset, evL_nil, evL_cons, evO_none, evO_some, evC_none, evC_some, evI_seq, evI_rng, evI_zip, evI_enum, sx, getV, frzE, Sl.frz, asB, asI, pushD, ix2, w_F0, h2, h3, c_ne, eqD_int, h4]
  | end_ d r =>
    have h1 : d < ds.length := h
    refine (B_nx ((S_if0 ?_).trans B_nil)).trans ((B_nx ((S_if0 ?_).trans B_nil)).trans ((B_nx ((S_if0 ?_).trans B_nil)).trans (B_rt (S_ret ?_))))
    · simp [ev_var, ev_own, ev_con, ev_glob, ev_bin, ev_rep, ev_neg, ev_cmp, ev_chain, ev_isn, ev_notn, ev_and, ev_or, ev_not, ev_ife, ev_tup, ev_lst, ev_mkb, ev_ix, ev_slice, ev_call, ev_bf, ev_isi, ev_isi2, ev_lrng, ev_lzip, ev_sset, ev_lset, evL_nil, evL_cons, evO_none, evO_some, evC_none, evC_some, evI_seq, evI_rng, evI_zip, evI_enum, sx, getV, frzE, Sl.frz, asB, asI, pushD, c1, ix0, ix1, isTy, isK, kd, b_lenT, o_subI, w_F0, (show (d : Int) ≤ (ds.length : Int) - 1 by omega)]
    · simp [ev_var, ev_own, ev_con, ev_glob, ev_bin, ev_rep, ev_neg, ev_cmp, ev_chain, ev_isn, ev_notn, ev_and, ev_or, ev_not, ev_ife, ev_tup, ev_lst, ev_mkb, ev_ix, ev_slice, ev_call, ev_bf, ev_isi, ev_isi2, ev_lrng, ev_lzip, ev_sset, ev_lset, evL_nil, evL_cons, evO_none, evO_some, evC_none, evC_some, evI_seq, evI_rng, evI_zip, evI_enum, sx, getV, frzE, Sl.frz, asB, asI, pushD, ix0, c_eq, e_end_to]
    · simp [ev_var, ev_own, ev_con, ev_glob, ev_bin, ev_rep, ev_neg, ev_cmp, ev_chain, ev_isn, ev_notn, ev_and, ev_or, ev_not, ev_ife, ev_tup, ev_lst, ev_mkb, ev_ix, ev_slice, ev_call, ev_bf, ev_isi, ev_isi2, ev_lrng, ev_lzip, ev_sset, ev_lset, evL_nil, evL_cons, evO_none, evO_some, evC_none, evC_some, evI_seq, evI_rng, evI_zip, evI_enum, sx, getV, frzE, Sl.frz, asB, asI, pushD, ix0, c_eq, e_end_by]
    · simp [ev_var, ev_own, ev_con, ev_glob, ev_bin, ev_rep, ev_neg, ev_cmp, ev_chain, ev_isn, ev_notn, ev_and, ev_or, ev_not, ev_ife, ev_tup, ev_lst, ev_mkb, ev_ix, ev_slice, ev_call, ev_bf, ev_isi, ev_isi2, ev_lrng, ev_lzip, ev_sset, ev_lset, evL_nil, evL_cons, evO_none, evO_some, evC_none, evC_some, evI_seq, evI_rng, evI_zip, evI_enum, sx, getV, frzE, Sl.frz, asB, asI, pushD, ix0, ix2, c_eq, e_end_end, isTy, isK, kd, c_in, in_side]
theorem w_F20 {W n : Nat} {w : Int} {ds : List Door} {ls : List Lip} {ps : List Push} (h : ∀ p ∈ ps, PushOk w ds.length p) (hl : ps.length ≤ 6) : callN TT W (n + 4) 20 [cupD w ds ls, .tup (ps.map pushD)] = pur (.bl true) := by
  have c19 : callN TT W (n + 3) 19 [cupD w ds ls, .tup (ps.map pushD), .int 6] = pur (.bl true) := by
    refine callN_pur T19 rfl fun s => ?_
    refine B_rt (S_ret ?_)
    show ev (callN TT W (n + 2)) _ [.val (cupD w ds ls), .val (.tup (ps.map pushD)), .val (.int 6), .no] = _
    have c1 := w_F1 (W := W) (n := n + 1) (ps.map pushD) 0 6
    rw [ev_and, ev_bf, evL_cons]
    rw [lc_map (xs := ps) (cv := pushD) (h := fun _ => .bl true) (by simp [ev_var, ev_own, ev_con, ev_glob, ev_bin, ev_rep, ev_neg, ev_cmp, ev_chain, ev_isn, ev_notn, ev_and, ev_or, ev_not, ev_ife, ev_tup, ev_lst, ev_mkb, ev_ix, ev_slice, ev_call, ev_bf, ev_isi, ev_isi2, ev_lrng, ev_lzip, ev_sset, ev_lset, evL_nil, evL_cons, evO_none, evO_some, evC_none, evC_some, evI_seq, evI_rng, evI_zip, evI_enum, sx, getV, frzE, Sl.frz, asB, asI, seqOf]) fun p hp => ⟨_, rfl, by simp [ev_var, ev_own, ev_con, ev_glob, ev_bin, ev_rep, ev_neg, ev_cmp, ev_chain, ev_isn, ev_notn, ev_and, ev_or, ev_not, ev_ife, ev_tup, ev_lst, ev_mkb, ev_ix, ev_slice, ev_call, ev_bf, ev_isi, ev_isi2, ev_lrng, ev_lzip, ev_sset, ev_lset, evL_nil, evL_cons, evO_none, evO_some, evC_none, evC_some, evI_seq, evI_rng, evI_zip, evI_enum, sx, getV, frzE, Sl.frz, asB, asI, wipeD, w_F18 (h p hp)]⟩]
    have h0 : (ps.length : Int) ≤ 6 := by omega
    simp [ev_var, ev_own, ev_con, ev_glob, ev_bin, ev_rep, ev_neg, ev_cmp, ev_chain, ev_isn, ev_notn, ev_and, ev_or, ev_not, ev_ife, ev_tup, ev_lst, ev_mkb, ev_ix, ev_slice, ev_call, ev_bf, ev_isi, ev_isi2, ev_lrng, ev_lzip, ev_sset, ev_lset, evL_nil, evL_cons, evO_none, evO_some, evC_none, evC_some, evI_seq, evI_rng, evI_zip, evI_enum, sx, getV, frzE, Sl.frz, asB, asI, c1, h0, bfn, blsT, allT]
  refine callN_pur T20 rfl fun s => B_rt (S_ret ?_)
  show ev (callN TT W (n + 3)) _ [.val (cupD w ds ls), .val (.tup (ps.map pushD))] = _
  simp [ev_var, ev_own, ev_con, ev_glob, ev_bin, ev_rep, ev_neg, ev_cmp, ev_chain, ev_isn, ev_notn, ev_and, ev_or, ev_not, ev_ife, ev_tup, ev_lst, ev_mkb, ev_ix, ev_slice, ev_call, ev_bf, ev_isi, ev_isi2, ev_lrng, ev_lzip, ev_sset, ev_lset, evL_nil, evL_cons, evO_none, evO_some, evC_none, evC_some, evI_seq, evI_rng, evI_zip, evI_enum, sx, getV, frzE, Sl.frz, asB, asI, gV, c19]
theorem w_F26 {W n : Nat} {w : Int} {ds : List Door} {ls : List Lip} {ps : List Push} (h : ∀ p ∈ ps, PushOk w ds.length p) (hl : ps.length ≤ 6) : callN TT W (n + 5) 26 [cupD w ds ls, .tup (ps.map pushD)] = pur .non := by
  refine callN_pn T26 rfl fun s => ⟨[.val (cupD w ds ls), .val (.tup (ps.map pushD))], ?_⟩
  show evB (callN TT W (n + 4)) W F26.body [.val (cupD w ds ls), .val (.tup (ps.map pushD))] s = _
  refine (B_nx ((S_if0 (by simp [ev_var, ev_own, ev_con, ev_glob, ev_bin, ev_rep, ev_neg, ev_cmp, ev_chain, ev_isn, ev_notn, ev_and, ev_or, ev_not, ev_ife, ev_tup, ev_lst, ev_mkb, ev_ix, ev_slice, ev_call, ev_bf, ev_isi, ev_isi2, ev_lrng, ev_lzip, ev_sset, ev_lset, evL_nil, evL_cons, evO_none, evO_some, evC_none, evC_some, evI_seq, evI_rng, evI_zip, evI_enum, sx, getV, frzE, Sl.frz, asB, asI, w_F20 h hl])).trans B_nil)).trans B_nil
end Mi
end
section
set_option Elab.async false
set_option linter.all false
set_option maxRecDepth 100000
set_option maxHeartbeats 2000000
/-! P10: a push. -/
namespace Mi
open PySem L2
/-- the lower part is small; lowest terms -/
def Dn (f : Fq) : Prop := 1 ≤ f.2 ∧ f.2 ≤ 1000000000 ∧ Int.gcd f.1 f.2 = 1
theorem FqOk.dn {f : Fq} (h : FqOk f) : Dn f := by
  refine ⟨h.b0, h.b1, ?_⟩
  have a := h.a0
  have b := h.b0
  have g := h.g
  unfold Int.gcd
  rw [show f.1.natAbs = f.1.toNat by omega, show f.2.natAbs = f.2.toNat by omega]
  exact g
theorem Dn.abs {f : Fq} (h : Dn f) : f.2.natAbs < 18446744073709551616 := by
  obtain ⟨a, b, _⟩ := h
  omega
def plusF (f : Fq) (k : Int) : Fq := (f.1 + k * f.2, f.2)
theorem Dn.plus {f : Fq} (h : Dn f) (k : Int) : Dn (plusF f k) := by
  obtain ⟨a, b, c⟩ := h
  refine ⟨a, b, ?_⟩
  show Int.gcd (f.1 + k * f.2) f.2 = 1
  rw [Int.gcd_add_mul_right_left]
  exact c
theorem Q.plus {M q : Int} {f : Fq} (h : Q M q f) (k : Int) : Q M (q + k * M) (plusF f k) := by
  refine ⟨h.pos, ?_⟩
  have := h.eq
  show (q + k * M) * f.2 = (f.1 + k * f.2) * M
  grind
theorem w_F21 {W n : Nat} (f : Fq) (k : Int) (h : Dn f) : callN TT W (n + 1) 21 [fqD f, .int k] = pur (fqD (plusF f k)) := by
  refine callN_pur T21 rfl fun s => B_rt (S_ret ?_)
  show ev (callN TT W n) _ [.val (fqD f), .val (.int k)] = _
  simp [ev_var, ev_own, ev_con, ev_glob, ev_bin, ev_rep, ev_neg, ev_cmp, ev_chain, ev_isn, ev_notn, ev_and, ev_or, ev_not, ev_ife, ev_tup, ev_lst, ev_mkb, ev_ix, ev_slice, ev_call, ev_bf, ev_isi, ev_isi2, ev_lrng, ev_lzip, ev_sset, ev_lset, evL_nil, evL_cons, evO_none, evO_some, evC_none, evC_some, evI_seq, evI_rng, evI_zip, evI_enum, sx, getV, frzE, Sl.frz, asB, asI, fqD, ix0, ix1, o_mulI _ _ (.inr h.abs), o_addI, plusF]
theorem w_F22 {W n : Nat} (f g : Fq) (h1 : Dn f) (h2 : Dn g) : callN TT W (n + 1) 22 [fqD f, fqD g] = pur (.bl (decide (f.1 * g.2 < g.1 * f.2))) := by
  refine callN_pur T22 rfl fun s => B_rt (S_ret ?_)
  show ev (callN TT W n) _ [.val (fqD f), .val (fqD g)] = _
  simp [ev_var, ev_own, ev_con, ev_glob, ev_bin, ev_rep, ev_neg, ev_cmp, ev_chain, ev_isn, ev_notn, ev_and, ev_or, ev_not, ev_ife, ev_tup, ev_lst, ev_mkb, ev_ix, ev_slice, ev_call, ev_bf, ev_isi, ev_isi2, ev_lrng, ev_lzip, ev_sset, ev_lset, evL_nil, evL_cons, evO_none, evO_some, evC_none, evC_some, evI_seq, evI_rng, evI_zip, evI_enum, sx, getV, frzE, Sl.frz, asB, asI, fqD, ix0, ix1, o_mulI _ _ (.inr h1.abs), o_mulI _ _ (.inr h2.abs), c_lt]
theorem w_F22q {W n : Nat} {M q1 q2 : Int} {f g : Fq} (hM : 0 < M) (h1 : Dn f) (h2 : Dn g) (k1 : Q M q1 f) (k2 : Q M q2 g) : callN TT W (n + 1) 22 [fqD f, fqD g] = pur (.bl (decide (q1 < q2))) := by
  rw [w_F22 f g h1 h2]
  have := k1.lt hM k2
  rw [decide_eq_decide.mpr this]
theorem q_int (M x : Int) : Q M (x * M) (x, 1) := ⟨by show (0 : Int) < 1; decide, by show x * M * 1 = x * M; rw [Int.mul_one]⟩
theorem dn_int (x : Int) : Dn (x, 1) := ⟨by show (1 : Int) ≤ 1; decide, by show (1 : Int) ≤ 1000000000; decide, by show Int.gcd x 1 = 1; simp⟩
/-! a push, in parts of M -/
def Push.door : Push → Nat
  | .to d _ => d
  | .by_ d _ => d
  | .end_ d _ => d
def goal0 (t : Tab) (M : Int) (p : Int → Int) : Push → Int
  | .to _ x => x * M
  | .by_ d x => p ((d : Int) + 1) + x * M
  | .end_ d r => if r = true then t (d + 1) 0 * M else -t 0 (d + 1) * M
def clampI (lo hi g : Int) : Int := if g < lo then lo else if hi < g then hi else g
def goalI (t : Tab) (M : Int) (p : Int → Int) (q : Push) : Int := match q with
  | .end_ d r => if r = true then t (d + 1) 0 * M else -t 0 (d + 1) * M
  | q => clampI (-t 0 (q.door + 1) * M) (t (q.door + 1) 0 * M) (goal0 t M p q)
def pushI (t : Tab) (M : Int) (q : Push) (p : Int → Int) : Int → Int := fun i =>
  if p ((q.door : Int) + 1) < goalI t M p q then
    (if p i < goalI t M p q - t (q.door + 1) i.toNat * M then goalI t M p q - t (q.door + 1) i.toNat * M else p i)
  else (if goalI t M p q + t i.toNat (q.door + 1) * M < p i then goalI t M p q + t i.toNat (q.door + 1) * M else p i)
theorem w_F23 {W n : Nat} {c : D} {m : Nat} {t : Tab} {M w : Int} {fs : List Fq} {p : Int → Int} {q : Push} (hp : Pl m M fs p) (hd : ∀ f ∈ fs, Dn f) (hq : PushOk w m q) : ∃ g, callN TT W (n + 2) 23 [c, tabD (m + 1) t, .tup (fs.map fqD), pushD q] = pur (fqD g) ∧ Dn g ∧ Q M (goalI t M p q) g := by
  have hM := hp.M0
  have dm : q.door < m := by
    cases q with
    | to d x => exact hq.1
    | by_ d x => exact hq.1
    | end_ d r => exact hq
  have pl : ixD (.tup (fs.map fqD)) (.int (q.door : Int)) = pur (fqD (fs.getD q.door (0, 1))) := ixK fqD fs q.door (0, 1) (by rw [hp.len]; exact dm)
  have fm : fs.getD q.door (0, 1) ∈ fs := by
    rw [List.getD_eq_getElem?_getD, List.getElem?_eq_getElem (by rw [hp.len]; exact dm)]
    exact List.getElem_mem _
  have fq := hp.q q.door dm
  have fd := hd _ fm
  generalize fs.getD q.door (0, 1) = f at pl fm fq fd
  have r0 : ixD (tabD (m + 1) t) (.int 0) = pur (rowD (m + 1) (t 0)) := tab_ix t (i := 0) (by omega)
  have r1 : ixD (tabD (m + 1) t) (.int ((q.door : Int) + 1)) = pur (rowD (m + 1) (t (q.door + 1))) := tab_ix t (i := q.door + 1) (by omega)
  have x0 : ixD (rowD (m + 1) (t 0)) (.int ((q.door : Int) + 1)) = pur (.int (t 0 (q.door + 1))) := row_ix (t 0) (j := q.door + 1) (by omega)
  have x1 : ixD (rowD (m + 1) (t (q.door + 1))) (.int 0) = pur (.int (t (q.door + 1) 0)) := row_ix (t (q.door + 1)) (j := 0) (by omega)
  have lowq := q_int M (-t 0 (q.door + 1))
  have highq := q_int M (t (q.door + 1) 0)
  have lowd := dn_int (-t 0 (q.door + 1))
  have highd := dn_int (t (q.door + 1) 0)
  let lo : D := fqD (-t 0 (q.door + 1), 1)
  let hi : D := fqD (t (q.door + 1) 0, 1)
  -- from the goal on
  have tail : ∀ (wd md : D) (g : Fq) (G : Int), eqD wd sEnd = some false → Dn g → Q M G g →
      ev (callN TT W (n + 1)) (.ife (.cmp .eq (.var 4) (.con (.str (Str.ofString "to")))) (.tup (.cons (.var 6) (.cons (.con (.int 1)) .nil))) (.call 21 (.cons (.ix (.var 2) (.var 5)) (.cons (.var 6) .nil)))) [.val c, .val (tabD (m + 1) t), .val (.tup (fs.map fqD)), .val (pushD q), .val wd, .val (.int (q.door : Int)), .val md, .val lo, .val hi, .no] = pur (fqD g) →
      ∃ g', (∀ s, evB (callN TT W (n + 1)) W (.cons (.iff (.cmp .eq (.var 4) (.con (.str (Str.ofString "end")))) (.cons (.ret (.ife (.cmp .eq (.var 6) (.con (.str (Str.ofString "left")))) (.var 7) (.var 8))) .nil) .nil) (.cons (.set 9 (.ife (.cmp .eq (.var 4) (.con (.str (Str.ofString "to")))) (.tup (.cons (.var 6) (.cons (.con (.int 1)) .nil))) (.call 21 (.cons (.ix (.var 2) (.var 5)) (.cons (.var 6) .nil))))) (.cons (.iff (.call 22 (.cons (.var 9) (.cons (.var 7) .nil))) (.cons (.ret (.var 7)) .nil) .nil) (.cons (.ret (.ife (.call 22 (.cons (.var 8) (.cons (.var 9) .nil))) (.var 8) (.var 9))) .nil))))
        [.val c, .val (tabD (m + 1) t), .val (.tup (fs.map fqD)), .val (pushD q), .val wd, .val (.int (q.door : Int)), .val md, .val lo, .val hi, .no] s = .rt (fqD g') s) ∧ Dn g' ∧ Q M (clampI (-t 0 (q.door + 1) * M) (t (q.door + 1) 0 * M) G) g' := by
    intro wd md g G he hg kg e
    have cl := w_F22q (W := W) (n := n) hM hg lowd kg lowq
    have ch := w_F22q (W := W) (n := n) hM highd hg highq kg
    unfold clampI
    by_cases q1 : G < -t 0 (q.door + 1) * M
    · refine ⟨_, fun s => (B_nx ((S_if0 ?_).trans B_nil)).trans ((B_nx (S_set e)).trans (B_rt ((S_if1 ?_).trans (B_rt (S_ret (d := lo) ?_))))), lowd, by rw [if_pos q1]; exact lowq⟩
      · simp [ev_var, ev_own, ev_con, ev_glob, ev_bin, ev_rep, ev_neg, ev_cmp, ev_chain, ev_isn, ev_notn, ev_and, ev_or, ev_not, ev_ife, ev_tup, ev_lst, ev_mkb, ev_ix, ev_slice, ev_call, ev_bf, ev_isi, ev_isi2, ev_lrng, ev_lzip, ev_sset, ev_lset, evL_nil, evL_cons, evO_none, evO_some, evC_none, evC_some, evI_seq, evI_rng, evI_zip, evI_enum, sx, getV, frzE, Sl.frz, asB, asI, c_eq, he]
      · simp [ev_var, ev_own, ev_con, ev_glob, ev_bin, ev_rep, ev_neg, ev_cmp, ev_chain, ev_isn, ev_notn, ev_and, ev_or, ev_not, ev_ife, ev_tup, ev_lst, ev_mkb, ev_ix, ev_slice, ev_call, ev_bf, ev_isi, ev_isi2, ev_lrng, ev_lzip, ev_sset, ev_lset, evL_nil, evL_cons, evO_none, evO_some, evC_none, evC_some, evI_seq, evI_rng, evI_zip, evI_enum, sx, getV, frzE, Sl.frz, asB, asI, lo, cl, q1]
      · simp [ev_var, ev_own, ev_con, ev_glob, ev_bin, ev_rep, ev_neg, ev_cmp, ev_chain, ev_isn, ev_notn, ev_and, ev_or, ev_not, ev_ife, ev_tup, ev_lst, ev_mkb, ev_ix, ev_slice, ev_call, ev_bf, ev_isi, ev_isi2, ev_lrng, ev_lzip, ev_sset, ev_lset, evL_nil, evL_cons, evO_none, evO_some, evC_none, evC_some, evI_seq, evI_rng, evI_zip, evI_enum, sx, getV, frzE, Sl.frz, asB, asI]
    · by_cases q2 : t (q.door + 1) 0 * M < G
      · refine ⟨_, fun s => (B_nx ((S_if0 ?_).trans B_nil)).trans ((B_nx (S_set e)).trans ((B_nx ((S_if0 ?_).trans B_nil)).trans (B_rt (S_ret (d := hi) ?_)))), highd, by rw [if_neg q1, if_pos q2]; exact highq⟩
        · simp [ev_var, ev_own, ev_con, ev_glob, ev_bin, ev_rep, ev_neg, ev_cmp, ev_chain, ev_isn, ev_notn, ev_and, ev_or, ev_not, ev_ife, ev_tup, ev_lst, ev_mkb, ev_ix, ev_slice, ev_call, ev_bf, ev_isi, ev_isi2, ev_lrng, ev_lzip, ev_sset, ev_lset, evL_nil, evL_cons, evO_none, evO_some, evC_none, evC_some, evI_seq, evI_rng, evI_zip, evI_enum, sx, getV, frzE, Sl.frz, asB, asI, c_eq, he]
        · simp [ev_var, ev_own, ev_con, ev_glob, ev_bin, ev_rep, ev_neg, ev_cmp, ev_chain, ev_isn, ev_notn, ev_and, ev_or, ev_not, ev_ife, ev_tup, ev_lst, ev_mkb, ev_ix, ev_slice, ev_call, ev_bf, ev_isi, ev_isi2, ev_lrng, ev_lzip, ev_sset, ev_lset, evL_nil, evL_cons, evO_none, evO_some, evC_none, evC_some, evI_seq, evI_rng, evI_zip, evI_enum, sx, getV, frzE, Sl.frz, asB, asI, lo, cl, q1]
        · simp [ev_var, ev_own, ev_con, ev_glob, ev_bin, ev_rep, ev_neg, ev_cmp, ev_chain, ev_isn, ev_notn, ev_and, ev_or, ev_not, ev_ife, ev_tup, ev_lst, ev_mkb, ev_ix, ev_slice, ev_call, ev_bf, ev_isi, ev_isi2, ev_lrng, ev_lzip, ev_sset, ev_lset, evL_nil, evL_cons, evO_none, evO_some, evC_none, evC_some, evI_seq, evI_rng, evI_zip, evI_enum, sx, getV, frzE, Sl.frz, asB, asI, hi, ch, q2]
      · refine ⟨_, fun s => (B_nx ((S_if0 ?_).trans B_nil)).trans ((B_nx (S_set e)).trans ((B_nx ((S_if0 ?_).trans B_nil)).trans (B_rt (S_ret (d := fqD g) ?_)))), hg, by rw [if_neg q1, if_neg q2]; exact kg⟩
        · simp [ev_var, ev_own, ev_con, ev_glob, ev_bin, ev_rep, ev_neg, ev_cmp, ev_chain, ev_isn, ev_notn, ev_and, ev_or, ev_not, ev_ife, ev_tup, ev_lst, ev_mkb, ev_ix, ev_slice, ev_call, ev_bf, ev_isi, ev_isi2, ev_lrng, ev_lzip, ev_sset, ev_lset, evL_nil, evL_cons, evO_none, evO_some, evC_none, evC_some, evI_seq, evI_rng, evI_zip, evI_enum, sx, getV, frzE, Sl.frz, asB, asI, c_eq, he]
        · simp [ev_var, ev_own, ev_con, ev_glob, ev_bin, ev_rep, ev_neg, ev_cmp, ev_chain, ev_isn, ev_notn, ev_and, ev_or, ev_not, ev_ife, ev_tup, ev_lst, ev_mkb, ev_ix, ev_slice, ev_call, ev_bf, ev_isi, ev_isi2, ev_lrng, ev_lzip, ev_sset, ev_lset, evL_nil, evL_cons, evO_none, evO_some, evC_none, evC_some, evI_seq, evI_rng, evI_zip, evI_enum, sx, getV, frzE, Sl.frz, asB, asI, lo, cl, q1]
        · simp [ev_var, ev_own, ev_con, ev_glob, ev_bin, ev_rep, ev_neg, ev_cmp, ev_chain, ev_isn, ev_notn, ev_and, ev_or, ev_not, ev_ife, ev_tup, ev_lst, ev_mkb, ev_ix, ev_slice, ev_call, ev_bf, ev_isi, ev_isi2, ev_lrng, ev_lzip, ev_sset, ev_lset, evL_nil, evL_cons, evO_none, evO_some, evC_none, evC_some, evI_seq, evI_rng, evI_zip, evI_enum, sx, getV, frzE, Sl.frz, asB, asI, hi, ch, q2]
  have front : ∀ (wd md : D) (d : D), pushD q = .tup [wd, .int (q.door : Int), md] → (∀ s, evB (callN TT W (n + 1)) W (.cons (.iff (.cmp .eq (.var 4) (.con (.str (Str.ofString "end")))) (.cons (.ret (.ife (.cmp .eq (.var 6) (.con (.str (Str.ofString "left")))) (.var 7) (.var 8))) .nil) .nil) (.cons (.set 9 (.ife (.cmp .eq (.var 4) (.con (.str (Str.ofString "to")))) (.tup (.cons (.var 6) (.cons (.con (.int 1)) .nil))) (.call 21 (.cons (.ix (.var 2) (.var 5)) (.cons (.var 6) .nil))))) (.cons (.iff (.call 22 (.cons (.var 9) (.cons (.var 7) .nil))) (.cons (.ret (.var 7)) .nil) .nil) (.cons (.ret (.ife (.call 22 (.cons (.var 8) (.cons (.var 9) .nil))) (.var 8) (.var 9))) .nil))))
        [.val c, .val (tabD (m + 1) t), .val (.tup (fs.map fqD)), .val (pushD q), .val wd, .val (.int (q.door : Int)), .val md, .val lo, .val hi, .no] s = .rt d s) → callN TT W (n + 2) 23 [c, tabD (m + 1) t, .tup (fs.map fqD), pushD q] = pur d := by
    intro wd md d ep hs
    refine callN_pur T23 rfl fun s => ?_
    show evB (callN TT W (n + 1)) W F23.body [.val c, .val (tabD (m + 1) t), .val (.tup (fs.map fqD)), .val (pushD q), .no, .no, .no, .no, .no, .no] s = _
    refine (B_nx (S_asg (d := pushD q) (ρ' := [.val c, .val (tabD (m + 1) t), .val (.tup (fs.map fqD)), .val (pushD q), .val wd, .val (.int (q.door : Int)), .val md, .no, .no, .no]) (by simp [ev_var, ev_own, ev_con, ev_glob, ev_bin, ev_rep, ev_neg, ev_cmp, ev_chain, ev_isn, ev_notn, ev_and, ev_or, ev_not, ev_ife, ev_tup, ev_lst, ev_mkb, ev_ix, ev_slice, ev_call, ev_bf, ev_isi, ev_isi2, ev_lrng, ev_lzip, ev_sset, ev_lset, evL_nil, evL_cons, evO_none, evO_some, evC_none, evC_some, evI_seq, evI_rng, evI_zip, evI_enum, sx, getV, frzE, Sl.frz, asB, asI]) (by rw [ep]; rfl))).trans ?_
    refine (B_nx (S_par (d1 := lo) (d2 := hi) ?_ ?_)).trans (hs s)
    · simp [ev_var, ev_own, ev_con, ev_glob, ev_bin, ev_rep, ev_neg, ev_cmp, ev_chain, ev_isn, ev_notn, ev_and, ev_or, ev_not, ev_ife, ev_tup, ev_lst, ev_mkb, ev_ix, ev_slice, ev_call, ev_bf, ev_isi, ev_isi2, ev_lrng, ev_lzip, ev_sset, ev_lset, evL_nil, evL_cons, evO_none, evO_some, evC_none, evC_some, evI_seq, evI_rng, evI_zip, evI_enum, sx, getV, frzE, Sl.frz, asB, asI, o_addI, r0, x0, lo, fqD]
    · simp [ev_var, ev_own, ev_con, ev_glob, ev_bin, ev_rep, ev_neg, ev_cmp, ev_chain, ev_isn, ev_notn, ev_and, ev_or, ev_not, ev_ife, ev_tup, ev_lst, ev_mkb, ev_ix, ev_slice, ev_call, ev_bf, ev_isi, ev_isi2, ev_lrng, ev_lzip, ev_sset, ev_lset, evL_nil, evL_cons, evO_none, evO_some, evC_none, evC_some, evI_seq, evI_rng, evI_zip, evI_enum, sx, getV, frzE, Sl.frz, asB, asI, o_addI, r1, x1, hi, fqD]
  cases q with
  | end_ d r =>
    cases r with
    | true =>
      refine ⟨_, front sEnd (sSide true) hi rfl fun s => B_rt ((S_if1 ?_).trans (B_rt (S_ret ?_))), highd, highq⟩
      · simp [ev_var, ev_own, ev_con, ev_glob, ev_bin, ev_rep, ev_neg, ev_cmp, ev_chain, ev_isn, ev_notn, ev_and, ev_or, ev_not, ev_ife, ev_tup, ev_lst, ev_mkb, ev_ix, ev_slice, ev_call, ev_bf, ev_isi, ev_isi2, ev_lrng, ev_lzip, ev_sset, ev_lset, evL_nil, evL_cons, evO_none, evO_some, evC_none, evC_some, evI_seq, evI_rng, evI_zip, evI_enum, sx, getV, frzE, Sl.frz, asB, asI, c_eq, e_end_end]
      · have := e_side true
        simp only [ev_var, ev_own, ev_con, ev_glob, ev_bin, ev_rep, ev_neg, ev_cmp, ev_chain, ev_isn, ev_notn, ev_and, ev_or, ev_not, ev_ife, ev_tup, ev_lst, ev_mkb, ev_ix, ev_slice, ev_call, ev_bf, ev_isi, ev_isi2, ev_lrng, ev_lzip, ev_sset, ev_lset, evL_nil, evL_cons, evO_none, evO_some, evC_none, evC_some, evI_seq, evI_rng, evI_zip, evI_enum, sx, getV, frzE, Sl.frz, asB, asI, List.map_cons, List.map_nil, List.getElem?_cons_zero, List.getElem?_cons_succ, bnd_pur, lif_some, c_eq, this]
        rfl
    | false =>
      refine ⟨_, front sEnd (sSide false) lo rfl fun s => B_rt ((S_if1 ?_).trans (B_rt (S_ret ?_))), lowd, lowq⟩
      · simp [ev_var, ev_own, ev_con, ev_glob, ev_bin, ev_rep, ev_neg, ev_cmp, ev_chain, ev_isn, ev_notn, ev_and, ev_or, ev_not, ev_ife, ev_tup, ev_lst, ev_mkb, ev_ix, ev_slice, ev_call, ev_bf, ev_isi, ev_isi2, ev_lrng, ev_lzip, ev_sset, ev_lset, evL_nil, evL_cons, evO_none, evO_some, evC_none, evC_some, evI_seq, evI_rng, evI_zip, evI_enum, sx, getV, frzE, Sl.frz, asB, asI, c_eq, e_end_end]
      · have := e_side false
        simp only [ev_var, ev_own, ev_con, ev_glob, ev_bin, ev_rep, ev_neg, ev_cmp, ev_chain, ev_isn, ev_notn, ev_and, ev_or, ev_not, ev_ife, ev_tup, ev_lst, ev_mkb, ev_ix, ev_slice, ev_call, ev_bf, ev_isi, ev_isi2, ev_lrng, ev_lzip, ev_sset, ev_lset, evL_nil, evL_cons, evO_none, evO_some, evC_none, evC_some, evI_seq, evI_rng, evI_zip, evI_enum, sx, getV, frzE, Sl.frz, asB, asI, List.map_cons, List.map_nil, List.getElem?_cons_zero, List.getElem?_cons_succ, bnd_pur, lif_some, c_eq, this]
        rfl
  | to d x =>
    obtain ⟨g, h1, h2, h3⟩ := tail sTo (.int x) (x, 1) (x * M) e_to_end (dn_int x) (q_int M x) (by simp [ev_var, ev_own, ev_con, ev_glob, ev_bin, ev_rep, ev_neg, ev_cmp, ev_chain, ev_isn, ev_notn, ev_and, ev_or, ev_not, ev_ife, ev_tup, ev_lst, ev_mkb, ev_ix, ev_slice, ev_call, ev_bf, ev_isi, ev_isi2, ev_lrng, ev_lzip, ev_sset, ev_lset, evL_nil, evL_cons, evO_none, evO_some, evC_none, evC_some, evI_seq, evI_rng, evI_zip, evI_enum, sx, getV, frzE, Sl.frz, asB, asI, c_eq, e_to_to, fqD])
    exact ⟨g, front sTo (.int x) (fqD g) rfl h1, h2, h3⟩
  | by_ d x =>
    obtain ⟨g, h1, h2, h3⟩ := tail sBy (.int x) (plusF f x) (p ((d : Int) + 1) + x * M) e_by_end (fd.plus x) (fq.plus x) (by
      have pl' : ixD (.tup (fs.map fqD)) (.int (d : Int)) = pur (fqD f) := pl
      simp [ev_var, ev_own, ev_con, ev_glob, ev_bin, ev_rep, ev_neg, ev_cmp, ev_chain, ev_isn, ev_notn, ev_and, ev_or, ev_not, ev_ife, ev_tup, ev_lst, ev_mkb, ev_ix, ev_slice, ev_call, ev_bf, ev_isi, ev_isi2, ev_lrng, ev_lzip, ev_sset, ev_lset, evL_nil, evL_cons, evO_none, evO_some, evC_none, evC_some, evI_seq, evI_rng, evI_zip, evI_enum, sx, getV, frzE, Sl.frz, asB, asI, c_eq, e_by_to, Push.door, pl', w_F21 f x fd])
    exact ⟨g, front sBy (.int x) (fqD g) rfl h1, h2, h3⟩
end Mi
end
section
set_option Elab.async false
set_option linter.all false
set_option maxRecDepth 100000
set_option maxHeartbeats 2000000
/-! P11: a push, its places. -/
namespace Mi
open PySem L2
/-- what a push makes of the places, in parts of M -/
def pushP (t : Tab) (M : Int) (q : Push) (p : Int → Int) : Int → Int := fun i => if i = 0 then 0 else pushI t M q p i
theorem getD_map {α β : Type} (f : α → β) (xs : List α) (k : Nat) (a : α) (b : β) (h : k < xs.length) : (xs.map f).getD k b = f (xs.getD k a) := by
  rw [List.getD_eq_getElem?_getD, List.getElem?_map, List.getElem?_eq_getElem h, List.getD_eq_getElem?_getD, List.getElem?_eq_getElem h] <;> rfl
theorem range_getD {m k : Nat} (h : k < m) : (List.range m).getD k 0 = k := by
  rw [List.getD_eq_getElem?_getD, List.getElem?_range h] <;> rfl
theorem w_F24 {W n : Nat} {c : D} {m : Nat} {t : Tab} {M w : Int} {fs : List Fq} {p : Int → Int} {q : Push} (hm : m ≤ 900) (hp : Pl m M fs p) (hd : ∀ f ∈ fs, Dn f) (hq : PushOk w m q) :
    ∃ fs' : List Fq, callN TT W (n + 3) 24 [c, tabD (m + 1) t, .tup (fs.map fqD), pushD q] = pur (.tup (fs'.map fqD)) ∧ (∀ f ∈ fs', Dn f) ∧ Pl m M fs' (pushP t M q p) := by
  have hM := hp.M0
  have dm : q.door < m := by
    cases q with
    | to d x => exact hq.1
    | by_ d x => exact hq.1
    | end_ d r => exact hq
  obtain ⟨g, cg, gd, gq⟩ := w_F23 (W := W) (n := n) (c := c) (t := t) hp hd hq
  have len := hp.len
  obtain ⟨fk, hfk⟩ : ∃ fk : Nat → Fq, ∀ k, fk k = fs.getD k (0, 1) := ⟨_, fun _ => rfl⟩
  have ixf : ∀ k, k < m → ixD (.tup (fs.map fqD)) (.int (k : Int)) = pur (fqD (fk k)) := fun k hk => by rw [hfk]; exact ixK fqD fs k (0, 1) (by omega)
  have hpq : ∀ k, k < m → Q M (p ((k : Int) + 1)) (fk k) := fun k hk => by rw [hfk]; exact hp.q k hk
  have fm : ∀ k, k < m → Dn (fk k) := fun k hk => by
    rw [hfk]
    refine hd _ ?_
    rw [List.getD_eq_getElem?_getD, List.getElem?_eq_getElem (by omega)]
    exact List.getElem_mem _
  have hr := rng0 (m := m) (by omega)
  have tabx : ∀ i j, i < m → j < m → bnd (ixD (tabD (m + 1) t) (.int ((i : Int) + 1))) (fun r => ixD r (.int ((j : Int) + 1))) = pur (.int (t (i + 1) (j + 1))) := fun i j hi hj => by
    have a : ixD (tabD (m + 1) t) (.int ((i : Int) + 1)) = pur (rowD (m + 1) (t (i + 1))) := tab_ix t (i := i + 1) (by omega)
    rw [a, bnd_pur]
    exact row_ix (t (i + 1)) (j := j + 1) (by omega)
  have door : ixD (pushD q) (.int 1) = pur (.int (q.door : Int)) := by
    cases q <;> exact ix1 _ _ _
  have less : callN TT W (n + 2) 22 [fqD (fk q.door), fqD g] = _ := w_F22q (W := W) (n := n + 1) hM (fm q.door dm) gd (hpq q.door dm) gq
  -- the first two statements
  have front : ∀ d : D, (∀ s, evB (callN TT W (n + 2)) W (.cons (.iff (.call 22 (.cons (.ix (.var 2) (.var 4)) (.cons (.var 5) .nil))) (.cons (.set 7 (.lc (.call 21 (.cons (.var 5) (.cons (.neg (.ix (.ix (.var 1) (.bin .add (.var 4) (.con (.int 1)))) (.bin .add (.var 8) (.con (.int 1))))) .nil))) (.nm 8) (.seq (.var 6)) .none [8])) (.cons (.ret (.bf .tuple (.cons (.lc (.ife (.call 22 (.cons (.ix (.var 2) (.var 9)) (.cons (.ix (.var 7) (.var 9)) .nil))) (.ix (.var 7) (.var 9)) (.ix (.var 2) (.var 9))) (.nm 9) (.seq (.var 6)) .none [9]) .nil))) .nil)) .nil) (.cons (.set 10 (.lc (.call 21 (.cons (.var 5) (.cons (.ix (.ix (.var 1) (.bin .add (.var 8) (.con (.int 1)))) (.bin .add (.var 4) (.con (.int 1)))) .nil))) (.nm 8) (.seq (.var 6)) .none [8])) (.cons (.ret (.bf .tuple (.cons (.lc (.ife (.call 22 (.cons (.ix (.var 10) (.var 9)) (.cons (.ix (.var 2) (.var 9)) .nil))) (.ix (.var 10) (.var 9)) (.ix (.var 2) (.var 9))) (.nm 9) (.seq (.var 6)) .none [9]) .nil))) .nil)))
      [.val c, .val (tabD (m + 1) t), .val (.tup (fs.map fqD)), .val (pushD q), .val (.int (q.door : Int)), .val (fqD g), .val (.lst ((List.range m).map fun (k : Nat) => D.int (k : Int))), .no, .no, .no, .no] s = .rt d s) → callN TT W (n + 3) 24 [c, tabD (m + 1) t, .tup (fs.map fqD), pushD q] = pur d := by
    intro d hs
    refine callN_pur T24 rfl fun s => ?_
    show evB (callN TT W (n + 2)) W F24.body [.val c, .val (tabD (m + 1) t), .val (.tup (fs.map fqD)), .val (pushD q), .no, .no, .no, .no, .no, .no, .no] s = _
    refine (B_nx (S_par (d1 := .int (q.door : Int)) (d2 := fqD g) (by simp [ev_var, ev_own, ev_con, ev_glob, ev_bin, ev_rep, ev_neg, ev_cmp, ev_chain, ev_isn, ev_notn, ev_and, ev_or, ev_not, ev_ife, ev_tup, ev_lst, ev_mkb, ev_ix, ev_slice, ev_call, ev_bf, ev_isi, ev_isi2, ev_lrng, ev_lzip, ev_sset, ev_lset, evL_nil, evL_cons, evO_none, evO_some, evC_none, evC_some, evI_seq, evI_rng, evI_zip, evI_enum, sx, getV, frzE, Sl.frz, asB, asI, door]) (by simp [ev_var, ev_own, ev_con, ev_glob, ev_bin, ev_rep, ev_neg, ev_cmp, ev_chain, ev_isn, ev_notn, ev_and, ev_or, ev_not, ev_ife, ev_tup, ev_lst, ev_mkb, ev_ix, ev_slice, ev_call, ev_bf, ev_isi, ev_isi2, ev_lrng, ev_lzip, ev_sset, ev_lset, evL_nil, evL_cons, evO_none, evO_some, evC_none, evC_some, evI_seq, evI_rng, evI_zip, evI_enum, sx, getV, frzE, Sl.frz, asB, asI, cg]))).trans ?_
    refine (B_nx (S_set (d := .lst ((List.range m).map fun (k : Nat) => D.int (k : Int))) ?_)).trans (hs s)
    simp [ev_var, ev_own, ev_con, ev_glob, ev_bin, ev_rep, ev_neg, ev_cmp, ev_chain, ev_isn, ev_notn, ev_and, ev_or, ev_not, ev_ife, ev_tup, ev_lst, ev_mkb, ev_ix, ev_slice, ev_call, ev_bf, ev_isi, ev_isi2, ev_lrng, ev_lzip, ev_sset, ev_lset, evL_nil, evL_cons, evO_none, evO_some, evC_none, evC_some, evI_seq, evI_rng, evI_zip, evI_enum, sx, getV, frzE, Sl.frz, asB, asI, b_lenT, len, hr]
  have aD : ∀ i, i < m → ixD (tabD (m + 1) t) (.int ((i : Int) + 1)) = pur (rowD (m + 1) (t (i + 1))) := fun i hi => tab_ix t (i := i + 1) (by omega)
  have rk : ∀ i k, k < m → ixD (rowD (m + 1) (t (i + 1))) (.int ((k : Int) + 1)) = pur (.int (t (i + 1) (k + 1))) := fun i k hk => row_ix (t (i + 1)) (j := k + 1) (by omega)
  -- what a branch leaves
  have build : ∀ (h : Nat → Fq) (v : Nat → Int), (∀ k, k < m → Dn (h k) ∧ Q M (v k) (h k)) → (∀ k, k < m → pushP t M q p ((k : Int) + 1) = v k) →
      (∀ f ∈ (List.range m).map h, Dn f) ∧ Pl m M ((List.range m).map h) (pushP t M q p) := by
    intro h v h1 h2
    refine ⟨fun f hf => ?_, ⟨by simp, hM, rfl, fun k hk => ?_⟩⟩
    · obtain ⟨k, hk, rfl⟩ := List.mem_map.mp hf
      exact (h1 k (List.mem_range.mp hk)).1
    · rw [getD_map h _ k 0 _ (by rw [List.length_range]; exact hk), range_getD hk, h2 k hk]
      exact (h1 k hk).2
  have pv : ∀ k : Nat, pushP t M q p ((k : Int) + 1) = pushI t M q p ((k : Int) + 1) := fun k => by
    unfold pushP
    rw [if_neg (by omega)]
  have tn : ∀ k : Nat, ((k : Int) + 1).toNat = k + 1 := fun k => by omega
  by_cases hlt : p ((q.door : Int) + 1) < goalI t M p q
  · let lf : Nat → Fq := fun k => plusF g (-t (q.door + 1) (k + 1))
    have lq : ∀ k, Q M (goalI t M p q + -t (q.door + 1) (k + 1) * M) (lf k) := fun k => gq.plus _
    have ld : ∀ k, Dn (lf k) := fun k => gd.plus _
    let h : Nat → Fq := fun k => if p ((k : Int) + 1) < goalI t M p q + -t (q.door + 1) (k + 1) * M then lf k else fk k
    let v : Nat → Int := fun k => if p ((k : Int) + 1) < goalI t M p q + -t (q.door + 1) (k + 1) * M then goalI t M p q + -t (q.door + 1) (k + 1) * M else p ((k : Int) + 1)
    obtain ⟨b1, b2⟩ := build h v (fun k hk => by
      show Dn (if _ then _ else _) ∧ Q M (if _ then _ else _) (if _ then _ else _)
      split
      · exact ⟨ld k, lq k⟩
      · exact ⟨fm k hk, hpq k hk⟩) fun k hk => by
      rw [pv]
      show (if _ then _ else _) = (if _ then _ else _)
      rw [if_pos hlt, tn, Int.neg_mul, ← Int.sub_eq_add_neg]
    refine ⟨(List.range m).map h, front _ fun s => ?_, b1, b2⟩
    refine B_rt ((S_if1 ?_).trans ((B_nx (S_set (d := .lst ((List.range m).map fun k => fqD (lf k))) ?_)).trans (B_rt (S_ret ?_))))
    · simp [ev_var, ev_own, ev_con, ev_glob, ev_bin, ev_rep, ev_neg, ev_cmp, ev_chain, ev_isn, ev_notn, ev_and, ev_or, ev_not, ev_ife, ev_tup, ev_lst, ev_mkb, ev_ix, ev_slice, ev_call, ev_bf, ev_isi, ev_isi2, ev_lrng, ev_lzip, ev_sset, ev_lset, evL_nil, evL_cons, evO_none, evO_some, evC_none, evC_some, evI_seq, evI_rng, evI_zip, evI_enum, sx, getV, frzE, Sl.frz, asB, asI, ixf q.door dm, less, hlt]
    · refine lc_map (xs := List.range m) (cv := fun (k : Nat) => D.int (k : Int)) (by simp [ev_var, ev_own, ev_con, ev_glob, ev_bin, ev_rep, ev_neg, ev_cmp, ev_chain, ev_isn, ev_notn, ev_and, ev_or, ev_not, ev_ife, ev_tup, ev_lst, ev_mkb, ev_ix, ev_slice, ev_call, ev_bf, ev_isi, ev_isi2, ev_lrng, ev_lzip, ev_sset, ev_lset, evL_nil, evL_cons, evO_none, evO_some, evC_none, evC_some, evI_seq, evI_rng, evI_zip, evI_enum, sx, getV, frzE, Sl.frz, asB, asI, seqOf]) fun k hk => ⟨_, rfl, ?_⟩
      have hk' := List.mem_range.mp hk
      simp [ev_var, ev_own, ev_con, ev_glob, ev_bin, ev_rep, ev_neg, ev_cmp, ev_chain, ev_isn, ev_notn, ev_and, ev_or, ev_not, ev_ife, ev_tup, ev_lst, ev_mkb, ev_ix, ev_slice, ev_call, ev_bf, ev_isi, ev_isi2, ev_lrng, ev_lzip, ev_sset, ev_lset, evL_nil, evL_cons, evO_none, evO_some, evC_none, evC_some, evI_seq, evI_rng, evI_zip, evI_enum, sx, getV, frzE, Sl.frz, asB, asI, wipeD, o_addI, aD q.door dm, rk q.door k hk', w_F21 g _ gd, lf]
    · rw [ev_bf, evL_cons]
      rw [lc_map (xs := List.range m) (cv := fun (k : Nat) => D.int (k : Int)) (h := fun k => fqD (h k)) (by simp [ev_var, ev_own, ev_con, ev_glob, ev_bin, ev_rep, ev_neg, ev_cmp, ev_chain, ev_isn, ev_notn, ev_and, ev_or, ev_not, ev_ife, ev_tup, ev_lst, ev_mkb, ev_ix, ev_slice, ev_call, ev_bf, ev_isi, ev_isi2, ev_lrng, ev_lzip, ev_sset, ev_lset, evL_nil, evL_cons, evO_none, evO_some, evC_none, evC_some, evI_seq, evI_rng, evI_zip, evI_enum, sx, getV, frzE, Sl.frz, asB, asI, seqOf]) fun k hk => ⟨_, rfl, ?_⟩]
      · simp [ev_var, ev_own, ev_con, ev_glob, ev_bin, ev_rep, ev_neg, ev_cmp, ev_chain, ev_isn, ev_notn, ev_and, ev_or, ev_not, ev_ife, ev_tup, ev_lst, ev_mkb, ev_ix, ev_slice, ev_call, ev_bf, ev_isi, ev_isi2, ev_lrng, ev_lzip, ev_sset, ev_lset, evL_nil, evL_cons, evO_none, evO_some, evC_none, evC_some, evI_seq, evI_rng, evI_zip, evI_enum, sx, getV, frzE, Sl.frz, asB, asI, b_tupL, Function.comp_def]
      · have hk' := List.mem_range.mp hk
        have lx : ixD (.lst ((List.range m).map fun k => fqD (lf k))) (.int (k : Int)) = pur (fqD (lf k)) := by
          have := ixKl (fun k => fqD (lf k)) (List.range m) k 0 (by rw [List.length_range]; exact hk')
          rwa [range_getD hk'] at this
        have c : callN TT W (n + 2) 22 [fqD (fk k), fqD (lf k)] = _ := w_F22q (W := W) (n := n + 1) hM (fm k hk') (ld k) (hpq k hk') (lq k)
        by_cases z : p ((k : Int) + 1) < goalI t M p q + -t (q.door + 1) (k + 1) * M
        · have hv : h k = lf k := if_pos z
          rw [hv]
          simp only [z, decide_true] at c
          simp [ev_var, ev_own, ev_con, ev_glob, ev_bin, ev_rep, ev_neg, ev_cmp, ev_chain, ev_isn, ev_notn, ev_and, ev_or, ev_not, ev_ife, ev_tup, ev_lst, ev_mkb, ev_ix, ev_slice, ev_call, ev_bf, ev_isi, ev_isi2, ev_lrng, ev_lzip, ev_sset, ev_lset, evL_nil, evL_cons, evO_none, evO_some, evC_none, evC_some, evI_seq, evI_rng, evI_zip, evI_enum, sx, getV, frzE, Sl.frz, asB, asI, wipeD, ixf k hk', lx, c]
        · have hv : h k = fk k := if_neg z
          rw [hv]
          simp only [z, decide_false] at c
          simp [ev_var, ev_own, ev_con, ev_glob, ev_bin, ev_rep, ev_neg, ev_cmp, ev_chain, ev_isn, ev_notn, ev_and, ev_or, ev_not, ev_ife, ev_tup, ev_lst, ev_mkb, ev_ix, ev_slice, ev_call, ev_bf, ev_isi, ev_isi2, ev_lrng, ev_lzip, ev_sset, ev_lset, evL_nil, evL_cons, evO_none, evO_some, evC_none, evC_some, evI_seq, evI_rng, evI_zip, evI_enum, sx, getV, frzE, Sl.frz, asB, asI, wipeD, ixf k hk', lx, c]
  · let lf : Nat → Fq := fun k => plusF g (t (k + 1) (q.door + 1))
    have lq : ∀ k, Q M (goalI t M p q + t (k + 1) (q.door + 1) * M) (lf k) := fun k => gq.plus _
    have ld : ∀ k, Dn (lf k) := fun k => gd.plus _
    let h : Nat → Fq := fun k => if goalI t M p q + t (k + 1) (q.door + 1) * M < p ((k : Int) + 1) then lf k else fk k
    let v : Nat → Int := fun k => if goalI t M p q + t (k + 1) (q.door + 1) * M < p ((k : Int) + 1) then goalI t M p q + t (k + 1) (q.door + 1) * M else p ((k : Int) + 1)
    obtain ⟨b1, b2⟩ := build h v (fun k hk => by
      show Dn (if _ then _ else _) ∧ Q M (if _ then _ else _) (if _ then _ else _)
      split
      · exact ⟨ld k, lq k⟩
      · exact ⟨fm k hk, hpq k hk⟩) fun k hk => by
      rw [pv]
      show (if _ then _ else _) = (if _ then _ else _)
      rw [if_neg hlt, tn]
    refine ⟨(List.range m).map h, front _ fun s => ?_, b1, b2⟩
    refine (B_nx ((S_if0 ?_).trans B_nil)).trans ((B_nx (S_set (d := .lst ((List.range m).map fun k => fqD (lf k))) ?_)).trans (B_rt (S_ret ?_)))
    · simp [ev_var, ev_own, ev_con, ev_glob, ev_bin, ev_rep, ev_neg, ev_cmp, ev_chain, ev_isn, ev_notn, ev_and, ev_or, ev_not, ev_ife, ev_tup, ev_lst, ev_mkb, ev_ix, ev_slice, ev_call, ev_bf, ev_isi, ev_isi2, ev_lrng, ev_lzip, ev_sset, ev_lset, evL_nil, evL_cons, evO_none, evO_some, evC_none, evC_some, evI_seq, evI_rng, evI_zip, evI_enum, sx, getV, frzE, Sl.frz, asB, asI, ixf q.door dm, less, hlt]
    · refine lc_map (xs := List.range m) (cv := fun (k : Nat) => D.int (k : Int)) (by simp [ev_var, ev_own, ev_con, ev_glob, ev_bin, ev_rep, ev_neg, ev_cmp, ev_chain, ev_isn, ev_notn, ev_and, ev_or, ev_not, ev_ife, ev_tup, ev_lst, ev_mkb, ev_ix, ev_slice, ev_call, ev_bf, ev_isi, ev_isi2, ev_lrng, ev_lzip, ev_sset, ev_lset, evL_nil, evL_cons, evO_none, evO_some, evC_none, evC_some, evI_seq, evI_rng, evI_zip, evI_enum, sx, getV, frzE, Sl.frz, asB, asI, seqOf]) fun k hk => ⟨_, rfl, ?_⟩
      have hk' := List.mem_range.mp hk
      simp [ev_var, ev_own, ev_con, ev_glob, ev_bin, ev_rep, ev_neg, ev_cmp, ev_chain, ev_isn, ev_notn, ev_and, ev_or, ev_not, ev_ife, ev_tup, ev_lst, ev_mkb, ev_ix, ev_slice, ev_call, ev_bf, ev_isi, ev_isi2, ev_lrng, ev_lzip, ev_sset, ev_lset, evL_nil, evL_cons, evO_none, evO_some, evC_none, evC_some, evI_seq, evI_rng, evI_zip, evI_enum, sx, getV, frzE, Sl.frz, asB, asI, wipeD, o_addI, aD k hk', rk k q.door dm, w_F21 g _ gd, lf]
    · rw [ev_bf, evL_cons]
      rw [lc_map (xs := List.range m) (cv := fun (k : Nat) => D.int (k : Int)) (h := fun k => fqD (h k)) (by simp [ev_var, ev_own, ev_con, ev_glob, ev_bin, ev_rep, ev_neg, ev_cmp, ev_chain, ev_isn, ev_notn, ev_and, ev_or, ev_not, ev_ife, ev_tup, ev_lst, ev_mkb, ev_ix, ev_slice, ev_call, ev_bf, ev_isi, ev_isi2, ev_lrng, ev_lzip, ev_sset, ev_lset, evL_nil, evL_cons, evO_none, evO_some, evC_none, evC_some, evI_seq, evI_rng, evI_zip, evI_enum, sx, getV, frzE, Sl.frz, asB, asI, seqOf]) fun k hk => ⟨_, rfl, ?_⟩]
      · simp [ev_var, ev_own, ev_con, ev_glob, ev_bin, ev_rep, ev_neg, ev_cmp, ev_chain, ev_isn, ev_notn, ev_and, ev_or, ev_not, ev_ife, ev_tup, ev_lst, ev_mkb, ev_ix, ev_slice, ev_call, ev_bf, ev_isi, ev_isi2, ev_lrng, ev_lzip, ev_sset, ev_lset, evL_nil, evL_cons, evO_none, evO_some, evC_none, evC_some, evI_seq, evI_rng, evI_zip, evI_enum, sx, getV, frzE, Sl.frz, asB, asI, b_tupL, Function.comp_def]
      · have hk' := List.mem_range.mp hk
        have lx : ixD (.lst ((List.range m).map fun k => fqD (lf k))) (.int (k : Int)) = pur (fqD (lf k)) := by
          have := ixKl (fun k => fqD (lf k)) (List.range m) k 0 (by rw [List.length_range]; exact hk')
          rwa [range_getD hk'] at this
        have c : callN TT W (n + 2) 22 [fqD (lf k), fqD (fk k)] = _ := w_F22q (W := W) (n := n + 1) hM (ld k) (fm k hk') (lq k) (hpq k hk')
        by_cases z : goalI t M p q + t (k + 1) (q.door + 1) * M < p ((k : Int) + 1)
        · have hv : h k = lf k := if_pos z
          rw [hv]
          simp only [z, decide_true] at c
          simp [ev_var, ev_own, ev_con, ev_glob, ev_bin, ev_rep, ev_neg, ev_cmp, ev_chain, ev_isn, ev_notn, ev_and, ev_or, ev_not, ev_ife, ev_tup, ev_lst, ev_mkb, ev_ix, ev_slice, ev_call, ev_bf, ev_isi, ev_isi2, ev_lrng, ev_lzip, ev_sset, ev_lset, evL_nil, evL_cons, evO_none, evO_some, evC_none, evC_some, evI_seq, evI_rng, evI_zip, evI_enum, sx, getV, frzE, Sl.frz, asB, asI, wipeD, ixf k hk', lx, c]
        · have hv : h k = fk k := if_neg z
          rw [hv]
          simp only [z, decide_false] at c
          simp [ev_var, ev_own, ev_con, ev_glob, ev_bin, ev_rep, ev_neg, ev_cmp, ev_chain, ev_isn, ev_notn, ev_and, ev_or, ev_not, ev_ife, ev_tup, ev_lst, ev_mkb, ev_ix, ev_slice, ev_call, ev_bf, ev_isi, ev_isi2, ev_lrng, ev_lzip, ev_sset, ev_lset, evL_nil, evL_cons, evO_none, evO_some, evC_none, evC_some, evI_seq, evI_rng, evI_zip, evI_enum, sx, getV, frzE, Sl.frz, asB, asI, wipeD, ixf k hk', lx, c]
end Mi
end
section
set_option Elab.async false
set_option linter.all false
set_option maxRecDepth 100000
set_option maxHeartbeats 2000000
/-! P12: run, behind. -/
namespace Mi
open PySem L2
def runP (t : Tab) (M : Int) (ps : List Push) (p : Int → Int) : Int → Int := ps.foldl (fun p q => pushP t M q p) p
theorem w_F25 {W n : Nat} {w M : Int} {ds : List Door} {ls : List Lip} {ps : List Push} {fs : List Fq} {p : Int → Int} (h : CupOk w ds ls) (hs : ∀ q ∈ ps, PushOk w ds.length q) (hp : Pl ds.length M fs p) (hd : ∀ f ∈ fs, Dn f) :
    ∃ fs' : List Fq, callN TT W (n + 4) 25 [cupD w ds ls, .tup (ps.map pushD), .tup (fs.map fqD)] = pur (.tup (fs'.map fqD)) ∧ (∀ f ∈ fs', Dn f) ∧ Pl ds.length M fs' (runP (tblP w ds ls) M ps p) := by
  have c9 := w_F9 (W := W) (n := n) h
  have d1 := h.sh.d1
  have loop : ∀ (qs : List Push) (fs : List Fq) (p : Int → Int) (sc : D), (∀ q ∈ qs, PushOk w ds.length q) → Pl ds.length M fs p → (∀ f ∈ fs, Dn f) → ∃ fs' : List Fq, (∀ (s : Sto) (x : Sl), ∃ x', forL (fun d ρ s => match tgt (.nm 4) d ρ with
      | some ρ' => evB (callN TT W (n + 3)) W (.cons (.set 2 (.call 24 (.cons (.var 0) (.cons (.var 3) (.cons (.var 2) (.cons (.var 4) .nil)))))) .nil) ρ' s
      | none => .stuck) (qs.map pushD) [.val (cupD w ds ls), .val sc, .val (.tup (fs.map fqD)), .val (tabD (ds.length + 1) (tblP w ds ls)), x] s = .nx [.val (cupD w ds ls), .val sc, .val (.tup (fs'.map fqD)), .val (tabD (ds.length + 1) (tblP w ds ls)), x'] s) ∧ (∀ f ∈ fs', Dn f) ∧ Pl ds.length M fs' (runP (tblP w ds ls) M qs p) := by
    intro qs
    induction qs with
    | nil => exact fun fs p sc _ hp hd => ⟨fs, fun s x => ⟨x, rfl⟩, hd, hp⟩
    | cons q qs ih =>
      intro fs p sc hq hp hd
      obtain ⟨f1, e1, k1, k2⟩ := w_F24 (W := W) (n := n) (c := cupD w ds ls) (t := tblP w ds ls) (by omega) hp hd (hq q List.mem_cons_self)
      obtain ⟨f2, e2, k3, k4⟩ := ih f1 _ sc (fun q' hq' => hq q' (List.mem_cons_of_mem _ hq')) k2 k1
      refine ⟨f2, fun s x => ?_, k3, k4⟩
      obtain ⟨x', e3⟩ := e2 s (.val (pushD q))
      refine ⟨x', ?_⟩
      have st : evB (callN TT W (n + 3)) W (.cons (.set 2 (.call 24 (.cons (.var 0) (.cons (.var 3) (.cons (.var 2) (.cons (.var 4) .nil)))))) .nil) [.val (cupD w ds ls), .val sc, .val (.tup (fs.map fqD)), .val (tabD (ds.length + 1) (tblP w ds ls)), .val (pushD q)] s = .nx [.val (cupD w ds ls), .val sc, .val (.tup (f1.map fqD)), .val (tabD (ds.length + 1) (tblP w ds ls)), .val (pushD q)] s :=
        (B_nx (S_set (d := .tup (f1.map fqD)) (by simp [ev_var, ev_own, ev_con, ev_glob, ev_bin, ev_rep, ev_neg, ev_cmp, ev_chain, ev_isn, ev_notn, ev_and, ev_or, ev_not, ev_ife, ev_tup, ev_lst, ev_mkb, ev_ix, ev_slice, ev_call, ev_bf, ev_isi, ev_isi2, ev_lrng, ev_lzip, ev_sset, ev_lset, evL_nil, evL_cons, evO_none, evO_some, evC_none, evC_some, evI_seq, evI_rng, evI_zip, evI_enum, sx, getV, frzE, Sl.frz, asB, asI, e1]))).trans B_nil
      show (match evB (callN TT W (n + 3)) W _ [.val (cupD w ds ls), .val sc, .val (.tup (fs.map fqD)), .val (tabD (ds.length + 1) (tblP w ds ls)), .val (pushD q)] s with | .nx ρ' s' => forL _ (qs.map pushD) ρ' s' | .ct ρ' s' => forL _ (qs.map pushD) ρ' s' | .bk ρ' s' => .nx ρ' s' | r => r) = _
      rw [st]
      exact e3
  obtain ⟨fs', e, k1, k2⟩ := loop ps fs p (.tup (ps.map pushD)) hs hp hd
  refine ⟨fs', ?_, k1, k2⟩
  refine callN_pur T25 rfl fun s => ?_
  show evB (callN TT W (n + 3)) W F25.body [.val (cupD w ds ls), .val (.tup (ps.map pushD)), .val (.tup (fs.map fqD)), .no, .no] s = _
  refine (B_nx (S_set (d := tabD (ds.length + 1) (tblP w ds ls)) (by simp [ev_var, ev_own, ev_con, ev_glob, ev_bin, ev_rep, ev_neg, ev_cmp, ev_chain, ev_isn, ev_notn, ev_and, ev_or, ev_not, ev_ife, ev_tup, ev_lst, ev_mkb, ev_ix, ev_slice, ev_call, ev_bf, ev_isi, ev_isi2, ev_lrng, ev_lzip, ev_sset, ev_lset, evL_nil, evL_cons, evO_none, evO_some, evC_none, evC_some, evI_seq, evI_rng, evI_zip, evI_enum, sx, getV, frzE, Sl.frz, asB, asI, c9]))).trans ?_
  obtain ⟨x', e1⟩ := e s .no
  refine (B_nx ((S_for (ds := ps.map pushD) (by simp [ev_var, ev_own, ev_con, ev_glob, ev_bin, ev_rep, ev_neg, ev_cmp, ev_chain, ev_isn, ev_notn, ev_and, ev_or, ev_not, ev_ife, ev_tup, ev_lst, ev_mkb, ev_ix, ev_slice, ev_call, ev_bf, ev_isi, ev_isi2, ev_lrng, ev_lzip, ev_sset, ev_lset, evL_nil, evL_cons, evO_none, evO_some, evC_none, evC_some, evI_seq, evI_rng, evI_zip, evI_enum, sx, getV, frzE, Sl.frz, asB, asI, seqOf])).trans e1)).trans (B_rt (S_ret ?_))
  simp [ev_var, ev_own, ev_con, ev_glob, ev_bin, ev_rep, ev_neg, ev_cmp, ev_chain, ev_isn, ev_notn, ev_and, ev_or, ev_not, ev_ife, ev_tup, ev_lst, ev_mkb, ev_ix, ev_slice, ev_call, ev_bf, ev_isi, ev_isi2, ev_lrng, ev_lzip, ev_sset, ev_lset, evL_nil, evL_cons, evO_none, evO_some, evC_none, evC_some, evI_seq, evI_rng, evI_zip, evI_enum, sx, getV, frzE, Sl.frz, asB, asI]
theorem w_F27 {n : Nat} {w M : Int} {ds : List Door} {ls : List Lip} {ps : List Push} {fs : List Fq} {p : Int → Int} (h : CupOk w ds ls) (hs : ∀ q ∈ ps, PushOk w ds.length q) (h6 : ps.length ≤ 6) (hp : Pl ds.length M fs p) (hf : ∀ f ∈ fs, FqOk f) (hk : Keeps (bndP w ds ls) M p) :
    ∃ fs' : List Fq, callN TT WF (n + 6) 27 [cupD w ds ls, .tup (ps.map pushD), .tup (fs.map fqD)] = pur (.tup (fs'.map fqD)) ∧ (∀ f ∈ fs', Dn f) ∧ Pl ds.length M fs' (runP (tblP w ds ls) M ps p) := by
  have c16 := w_F16 (W := WF) (n := n) h
  have c26 := w_F26 (W := WF) (n := n) (w := w) (ls := ls) hs h6
  have c17 := w_F17 (n := n) (m := 0) h.sh hp hf hk
  obtain ⟨fs', c25, k1, k2⟩ := w_F25 (W := WF) (n := n + 1) h hs hp fun f hf' => (hf f hf').dn
  refine ⟨fs', ?_, k1, k2⟩
  refine callN_pur T27 rfl fun s => ?_
  show evB (callN TT WF (n + 5)) WF F27.body [.val (cupD w ds ls), .val (.tup (ps.map pushD)), .val (.tup (fs.map fqD))] s = _
  have c25' : callN TT WF (n + 5) 25 [cupD w ds ls, .tup (ps.map pushD), .tup (fs.map fqD)] = pur (.tup (fs'.map fqD)) := c25
  exact (B_nx (S_ex (d := .non) (by simp [ev_var, ev_own, ev_con, ev_glob, ev_bin, ev_rep, ev_neg, ev_cmp, ev_chain, ev_isn, ev_notn, ev_and, ev_or, ev_not, ev_ife, ev_tup, ev_lst, ev_mkb, ev_ix, ev_slice, ev_call, ev_bf, ev_isi, ev_isi2, ev_lrng, ev_lzip, ev_sset, ev_lset, evL_nil, evL_cons, evO_none, evO_some, evC_none, evC_some, evI_seq, evI_rng, evI_zip, evI_enum, sx, getV, frzE, Sl.frz, asB, asI, c16]))).trans ((B_nx (S_ex (d := .non) (by simp [ev_var, ev_own, ev_con, ev_glob, ev_bin, ev_rep, ev_neg, ev_cmp, ev_chain, ev_isn, ev_notn, ev_and, ev_or, ev_not, ev_ife, ev_tup, ev_lst, ev_mkb, ev_ix, ev_slice, ev_call, ev_bf, ev_isi, ev_isi2, ev_lrng, ev_lzip, ev_sset, ev_lset, evL_nil, evL_cons, evO_none, evO_some, evC_none, evC_some, evI_seq, evI_rng, evI_zip, evI_enum, sx, getV, frzE, Sl.frz, asB, asI, c26]))).trans ((B_nx (S_ex (d := .non) (by simp [ev_var, ev_own, ev_con, ev_glob, ev_bin, ev_rep, ev_neg, ev_cmp, ev_chain, ev_isn, ev_notn, ev_and, ev_or, ev_not, ev_ife, ev_tup, ev_lst, ev_mkb, ev_ix, ev_slice, ev_call, ev_bf, ev_isi, ev_isi2, ev_lrng, ev_lzip, ev_sset, ev_lset, evL_nil, evL_cons, evO_none, evO_some, evC_none, evC_some, evI_seq, evI_rng, evI_zip, evI_enum, sx, getV, frzE, Sl.frz, asB, asI, c17]))).trans (B_rt (S_ret (by simp [ev_var, ev_own, ev_con, ev_glob, ev_bin, ev_rep, ev_neg, ev_cmp, ev_chain, ev_isn, ev_notn, ev_and, ev_or, ev_not, ev_ife, ev_tup, ev_lst, ev_mkb, ev_ix, ev_slice, ev_call, ev_bf, ev_isi, ev_isi2, ev_lrng, ev_lzip, ev_sset, ev_lset, evL_nil, evL_cons, evO_none, evO_some, evC_none, evC_some, evI_seq, evI_rng, evI_zip, evI_enum, sx, getV, frzE, Sl.frz, asB, asI, c25'])))))
end Mi
end
section
set_option Elab.async false
set_option linter.all false
set_option maxRecDepth 100000
set_option maxHeartbeats 2000000
/-! P13: what pushes do to places. -/
namespace Mi
open PySem L2
/-- places that keep a closed table, in parts of M -/
structure Feas (m : Nat) (t : Tab) (M : Int) (p : Int → Int) : Prop where
  z : p 0 = 0
  k : ∀ i j : Nat, i ≤ m → j ≤ m → p i - p j ≤ t i j * M
theorem fw_soundM {m : Nat} {t : Tab} {M : Int} {p : Nat → Int} (h : ∀ i j, i < m → j < m → p i - p j ≤ t i j * M) : ∀ k, k ≤ m → ∀ i j, i < m → j < m → p i - p j ≤ fwN k t i j * M
  | 0, _, i, j, hi, hj => h i j hi hj
  | k + 1, hk, i, j, hi, hj => by
    have ih := fw_soundM h k (by omega)
    rcases fw_or t k i j with e | e
    · rw [e]; exact ih i j hi hj
    · rw [e, Int.add_mul]
      have h1 := ih i k hi (by omega)
      have h2 := ih k j (by omega) hj
      omega
theorem told_soundM {bs : List Lip} {M : Int} {p : Int → Int} (h : Keeps bs M p) (i j : Int) (hw : p i - p j ≤ 1000000 * M) : p i - p j ≤ told bs i j * M := by
  unfold told
  rcases minOf_in ((bs.filter fun l => decide (l.1 = i ∧ l.2.1 = j)).map fun l => l.2.2) (if i = j then 0 else 1000000) with e | e
  · rw [e]
    split
    · rename_i q
      subst q
      omega
    · exact hw
  · obtain ⟨l, hl, e2⟩ := List.mem_map.mp e
    obtain ⟨h1, h2⟩ := List.mem_filter.mp hl
    obtain ⟨rfl, rfl⟩ := of_decide_eq_true h2
    rw [← e2]
    exact h l h1
theorem keeps_range {w M : Int} {ds : List Door} {ls : List Lip} {p : Int → Int} (h : Shape w ds ls) (hM : 0 < M) (hz : p 0 = 0) (hk : Keeps (bndP w ds ls) M p) (k : Nat) (hk' : k ≤ ds.length) : 0 ≤ p k ∧ p k ≤ 5 * M := by
  cases k with
  | zero =>
    have e : p ((0 : Nat) : Int) = 0 := hz
    rw [e]
    omega
  | succ k =>
    have m1 : (((k : Int) + 1, 0, w - (dr ds k).2) : Lip) ∈ bndP w ds ls := by
      unfold bndP
      exact List.mem_append_left _ (List.mem_append_left _ (List.mem_append_left _ (List.mem_map.mpr ⟨k, List.mem_range.mpr (by omega), rfl⟩)))
    have m2 : ((0, (k : Int) + 1, 0) : Lip) ∈ bndP w ds ls := by
      unfold bndP
      exact List.mem_append_left _ (List.mem_append_left _ (List.mem_append_right _ (List.mem_map.mpr ⟨k, List.mem_range.mpr (by omega), rfl⟩)))
    have a := hk _ m1
    have b := hk _ m2
    simp only [hz] at a b
    have dk : DoorOk w (dr ds k) := by
      have : dr ds k ∈ ds := by
        unfold dr
        rw [List.getD_eq_getElem?_getD, List.getElem?_eq_getElem (by omega)]
        exact List.getElem_mem _
      exact h.dok _ this
    have w1 := h.w1
    have d0 := dk.w0
    have : (w - (dr ds k).2) * M ≤ 5 * M := Int.mul_le_mul_of_nonneg_right (by omega) (by omega)
    have e : (((k + 1 : Nat) : Int)) = (k : Int) + 1 := by omega
    rw [e]
    omega
theorem feas_of {w M : Int} {ds : List Door} {ls : List Lip} {p : Int → Int} (h : Shape w ds ls) (hM : 0 < M) (hz : p 0 = 0) (hk : Keeps (bndP w ds ls) M p) : Feas ds.length (tblP w ds ls) M p := by
  refine ⟨hz, fun i j hi hj => ?_⟩
  refine fw_soundM (m := ds.length + 1) (t := fun i j => told (bndP w ds ls) i j) (p := fun i => p i) (fun i j hi hj => told_soundM hk i j ?_) (ds.length + 1) (Nat.le_refl _) i j (by omega) (by omega)
  have a := keeps_range h hM hz hk i (by omega)
  have b := keeps_range h hM hz hk j (by omega)
  omega
section
variable {m : Nat} {t : Tab} {M w : Int} {p p2 : Int → Int} {q : Push}
theorem door_lt (hq : PushOk w m q) : q.door < m := by
  cases q with
  | to d x => exact hq.1
  | by_ d x => exact hq.1
  | end_ d r => exact hq
theorem low_high (C : Closed (m + 1) t) (hM : 0 < M) {D : Nat} (hD : D ≤ m) : -t 0 D * M ≤ t D 0 * M := by
  have a := C.tri 0 0 D (by omega) (by omega) (by omega)
  have b := C.z 0 (by omega)
  exact Int.mul_le_mul_of_nonneg_right (by omega) (by omega)
theorem clamp_in {lo hi g : Int} (h : lo ≤ hi) : lo ≤ clampI lo hi g ∧ clampI lo hi g ≤ hi := by
  unfold clampI
  split
  · omega
  · split <;> omega
theorem goal_in (C : Closed (m + 1) t) (hM : 0 < M) (hq : PushOk w m q) : -t 0 (q.door + 1) * M ≤ goalI t M p q ∧ goalI t M p q ≤ t (q.door + 1) 0 * M := by
  have lh := low_high C hM (D := q.door + 1) (by have := door_lt hq; omega)
  cases q with
  | to d x => exact clamp_in lh
  | by_ d x => exact clamp_in lh
  | end_ d r =>
    unfold goalI
    cases r with
    | true => exact ⟨lh, Int.le_refl _⟩
    | false => exact ⟨Int.le_refl _, lh⟩
/-- a push is a clamp, place by place -/
theorem push_clamp (C : Closed (m + 1) t) (hM : 0 < M) (hq : PushOk w m q) (F : Feas m t M p) (i : Nat) (hi : i ≤ m) :
    pushP t M q p i = clampI (goalI t M p q - t (q.door + 1) i * M) (goalI t M p q + t i (q.door + 1) * M) (p i) := by
  have dl := door_lt hq
  obtain ⟨g1, g2⟩ := goal_in (p := p) C hM hq
  have k1 := F.k i (q.door + 1) hi (by omega)
  have k2 := F.k (q.door + 1) i (by omega) hi
  have ee : ((q.door + 1 : Nat) : Int) = (q.door : Int) + 1 := by omega
  rw [ee] at k1 k2
  have tt : 0 ≤ (t (q.door + 1) i + t i (q.door + 1)) * M := Int.mul_nonneg (by
    have a := C.tri i i (q.door + 1) (by omega) (by omega) (by omega)
    have b := C.z i (by omega)
    omega) (by omega)
  rw [Int.add_mul] at tt
  unfold pushP
  by_cases h0 : i = 0
  · subst h0
    have e0 : (((0 : Nat) : Int)) = 0 := rfl
    rw [if_pos e0]
    have z := F.z
    rw [e0] at k1 k2 ⊢
    rw [z] at k1 k2 ⊢
    rw [Int.neg_mul] at g1
    unfold clampI
    split
    · omega
    · split <;> omega
  · rw [if_neg (by omega)]
    unfold pushI clampI
    rw [Int.toNat_natCast]
    by_cases c : p ((q.door : Int) + 1) < goalI t M p q
    · rw [if_pos c]
      split
      · rfl
      · rw [if_neg (by omega)]
    · rw [if_neg c]
      rw [if_neg (show ¬ (p i < goalI t M p q - t (q.door + 1) i * M) by omega)]
/-- places stay places -/
theorem push_feas (C : Closed (m + 1) t) (hM : 0 < M) (hq : PushOk w m q) (F : Feas m t M p) : Feas m t M (pushP t M q p) := by
  refine ⟨rfl, fun i j hi hj => ?_⟩
  have dl := door_lt hq
  have kij := F.k i j hi hj
  have tri : ∀ a b c : Nat, a ≤ m → b ≤ m → c ≤ m → t a b * M ≤ t a c * M + t c b * M := fun a b c ha hb hc => by
    have := C.tri a b c (by omega) (by omega) (by omega)
    rw [← Int.add_mul]
    exact Int.mul_le_mul_of_nonneg_right this (by omega)
  have t1 := tri (q.door + 1) j i (by omega) hj hi
  have t2 := tri i (q.door + 1) j hi (by omega) hj
  have nn : ∀ a : Nat, a ≤ m → 0 ≤ t (q.door + 1) a * M + t a (q.door + 1) * M := fun a ha => by
    have := C.tri (q.door + 1) (q.door + 1) a (by omega) (by omega) (by omega)
    have z := C.z (q.door + 1) (by omega)
    rw [← Int.add_mul]
    exact Int.mul_nonneg (by omega) (by omega)
  have n1 := nn i hi
  have n2 := nn j hj
  have t3 := tri i j (q.door + 1) hi hj (by omega)
  have k1 := F.k i (q.door + 1) hi (by omega)
  have k2 := F.k (q.door + 1) i (by omega) hi
  have k3 := F.k j (q.door + 1) hj (by omega)
  have k4 := F.k (q.door + 1) j (by omega) hj
  have ee : ((q.door + 1 : Nat) : Int) = (q.door : Int) + 1 := by omega
  rw [ee] at k1 k2 k3 k4
  rw [push_clamp C hM hq F i hi, push_clamp C hM hq F j hj]
  unfold clampI
  split <;> split <;> (try split) <;> (try split) <;> omega
theorem clamp_near {lo hi g lo2 hi2 g2 e : Int} (h1 : lo ≤ lo2 + e) (h2 : hi ≤ hi2 + e) (h3 : g ≤ g2 + e) (h4 : lo ≤ hi) (h5 : lo2 ≤ hi2) : clampI lo hi g ≤ clampI lo2 hi2 g2 + e := by
  unfold clampI
  split <;> split <;> (try split) <;> (try split) <;> omega
theorem goal_near (C : Closed (m + 1) t) (hM : 0 < M) (hq : PushOk w m q) {e : Int} (h0 : 0 ≤ e) (h : ∀ i : Nat, i ≤ m → p i ≤ p2 i + e) : goalI t M p q ≤ goalI t M p2 q + e := by
  have dl := door_lt hq
  have lh := low_high C hM (D := q.door + 1) (by omega)
  have hd := h (q.door + 1) (by omega)
  have ee : ((q.door + 1 : Nat) : Int) = (q.door : Int) + 1 := by omega
  rw [ee] at hd
  have key : ∀ x y : Int, x ≤ y + e → clampI (-t 0 (q.door + 1) * M) (t (q.door + 1) 0 * M) x ≤ clampI (-t 0 (q.door + 1) * M) (t (q.door + 1) 0 * M) y + e := fun x y h => clamp_near (by omega) (by omega) h lh lh
  cases q with
  | to d x => exact key (x * M) (x * M) (by omega)
  | by_ d x =>
    have hd' : p ((d : Int) + 1) ≤ p2 ((d : Int) + 1) + e := hd
    exact key (p ((d : Int) + 1) + x * M) (p2 ((d : Int) + 1) + x * M) (by omega)
  | end_ d r =>
    show (if r = true then t (d + 1) 0 * M else -t 0 (d + 1) * M) ≤ (if r = true then t (d + 1) 0 * M else -t 0 (d + 1) * M) + e
    omega
/-- a push brings places no farther apart (e = 0: it keeps their order) -/
theorem push_near (C : Closed (m + 1) t) (hM : 0 < M) (hq : PushOk w m q) (F : Feas m t M p) (F2 : Feas m t M p2) {e : Int} (h0 : 0 ≤ e) (h : ∀ i : Nat, i ≤ m → p i ≤ p2 i + e) : ∀ i : Nat, i ≤ m → pushP t M q p i ≤ pushP t M q p2 i + e := by
  intro i hi
  have dl := door_lt hq
  have g := goal_near C hM hq h0 h
  rw [push_clamp C hM hq F i hi, push_clamp C hM hq F2 i hi]
  have nn : 0 ≤ t (q.door + 1) i * M + t i (q.door + 1) * M := by
    have := C.tri i i (q.door + 1) (by omega) (by omega) (by omega)
    have z := C.z i (by omega)
    rw [← Int.add_mul]
    exact Int.mul_nonneg (by omega) (by omega)
  exact clamp_near (by omega) (by omega) (h i hi) (by omega) (by omega)
theorem run_near (C : Closed (m + 1) t) (hM : 0 < M) {e : Int} (h0 : 0 ≤ e) : ∀ (qs : List Push) (p p2 : Int → Int), (∀ q ∈ qs, PushOk w m q) → Feas m t M p → Feas m t M p2 → (∀ i : Nat, i ≤ m → p i ≤ p2 i + e) → ∀ i : Nat, i ≤ m → runP t M qs p i ≤ runP t M qs p2 i + e
  | [], p, p2, _, _, _, h => h
  | q :: qs, p, p2, hq, F, F2, h =>
    run_near C hM h0 qs _ _ (fun q' h' => hq q' (List.mem_cons_of_mem _ h')) (push_feas C hM (hq q List.mem_cons_self) F) (push_feas C hM (hq q List.mem_cons_self) F2) (push_near C hM (hq q List.mem_cons_self) F F2 h0 h)
end
end Mi
end
section
set_option Elab.async false
set_option linter.all false
set_option maxRecDepth 100000
set_option maxHeartbeats 2000000
/-! P14: decks. -/
namespace Mi
open PySem L2
theorem bnd_to {α β : Type} {m : M α} {f : α → M β} {s s' : Sto} {a : α} (h : m s = .ok a s') : bnd m f s = f a s' := by
  unfold bnd
  rw [h]
section
variable {Φ : Nat → List D → M D} {W : Nat} {ρ : Ev} {s s' : Sto} {e : CE} {d : D} {i : Nat}
theorem S_setS (h : ev Φ e ρ s = .ok d s') : evS Φ W (.set i e) ρ s = .nx (ρ.set i (.val d)) s' := by
  rw [evS, h] <;> rfl
theorem S_retS (h : ev Φ e (frzE ρ) s = .ok d s') : evS Φ W (.ret e) ρ s = .rt d s' := by
  rw [evS, h] <;> rfl
theorem callN_S {n f : Nat} {fd : Fd} {ds : List D} (h : TT f = some fd) (hl : ds.length = fd.np) (e : evB (callN TT W n) W fd.body (ds.map .val ++ List.replicate (fd.nl - fd.np) .no) s = .rt d s') : callN TT W (n + 1) f ds s = .ok d s' := by
  rw [callN_at h hl, e] <;> rfl
/-- an expression that reads one deck and changes nothing -/
theorem ix_box {l : Nat} {xs : List D} {k : Int} {v : D} (h : s[l]? = some xs) (hv : atI xs k = some v) : ixD (.box l) (.int k) s = .ok v s := by
  show (match s[l]? with | some xs => lif (atI xs k) s | none => .stuck) = _
  rw [h]
  show lif (atI xs k) s = _
  rw [hv] <;> rfl
theorem S_setx {a b : CE} {l : Nat} {k : Int} {xs ys : List D} (h1 : ev Φ e ρ s = .ok d s) (h2 : ev Φ a ρ = pur (.box l)) (h3 : ev Φ b ρ = pur (.int k)) (h4 : s[l]? = some xs) (h5 : setI xs k d = some ys) : evS Φ W (.setx a b e) ρ s = .nx ρ (s.set l ys) := by
  rw [evS, h1]
  show thn (ev Φ a ρ s) _ = _
  rw [h2]
  show thn (ev Φ b ρ s) _ = _
  rw [h3]
  show (match s[l]? with | some xs => (match setI xs k d with | some ys => SR.nx ρ (s.set l ys) | none => .stuck) | none => .stuck) = _
  rw [h4]
  show (match setI xs k d with | some ys => SR.nx ρ (s.set l ys) | none => .stuck) = _
  rw [h5]
end
/-- a deck of at most T turns -/
def Dk (s : Sto) (l : Nat) (T : Int) : Prop := ∃ h m t : Int, s[l]? = some [.int h, .int m, .int t] ∧ 0 ≤ m ∧ m < 2147483579 ∧ 0 ≤ t ∧ t ≤ T
theorem Dk.mono {s : Sto} {l : Nat} {T T' : Int} (h : Dk s l T) (le : T ≤ T') : Dk s l T' := by
  obtain ⟨a, m, t, h1, h2, h3, h4, h5⟩ := h
  exact ⟨a, m, t, h1, h2, h3, h4, by omega⟩
theorem set_at {s : Sto} {l : Nat} {xs ys : List D} (h : s[l]? = some xs) : (s.set l ys)[l]? = some ys := by
  have := (List.getElem?_eq_some_iff.mp h).1
  exact List.getElem?_set_self this
theorem log_small {b : Int} (h : 0 < b) (h2 : b < 1000000000000) : b.natAbs.log2 < 9000 := by
  rw [Nat.log2_lt (by omega)]
  have p : (1000000000000 : Nat) ≤ 2 ^ 9000 := by
    calc (1000000000000 : Nat) ≤ 2 ^ 40 := by decide
      _ ≤ 2 ^ 9000 := Nat.pow_le_pow_right (by decide) (by decide)
  omega
end Mi
end
section
set_option Elab.async false
set_option linter.all false
set_option maxRecDepth 100000
set_option maxHeartbeats 2000000
/-! P15: a pick. -/
namespace Mi
open PySem L2
theorem S_if1S {Φ : Nat → List D → M D} {W : Nat} {ρ : Ev} {s : Sto} {c : CE} {a b : CB} (h : ev Φ c ρ s = .ok (.bl true) s) : evS Φ W (.iff c a b) ρ s = evB Φ W a ρ s := by
  rw [evS, bnd_to h] <;> rfl
theorem S_if0S {Φ : Nat → List D → M D} {W : Nat} {ρ : Ev} {s : Sto} {c : CE} {a b : CB} (h : ev Φ c ρ s = .ok (.bl false) s) : evS Φ W (.iff c a b) ρ s = evB Φ W b ρ s := by
  rw [evS, bnd_to h] <;> rfl
theorem pur_at {α : Type} (a : α) (s : Sto) : pur a s = .ok a s := rfl
theorem w_F29 {W n : Nat} {s : Sto} {l : Nat} {T z : Int} (hd : Dk s l T) (hT : T < 1000000000) (hz : 0 < z) (hz2 : z < 1000000000000) :
    ∃ v s', callN TT W (n + 1) 29 [.box l, .int z] s = .ok (.int v) s' ∧ 0 ≤ v ∧ v < z ∧ Dk s' l (T + 1) := by
  obtain ⟨h, m, t, e0, m0, m1, t0, t1⟩ := hd
  have x0 : ixD (.box l) (.int 0) s = .ok (.int h) s := ix_box e0 rfl
  have x2 : ixD (.box l) (.int 2) s = .ok (.int t) s := ix_box e0 rfl
  have lg := log_small hz hz2
  by_cases q : 1 < h
  · refine ⟨h % z, s.set l [.int (h / z), .int m, .int t], callN_S T29 rfl ?_, Int.emod_nonneg _ (by omega), Int.emod_lt_of_pos _ hz, ⟨h / z, m, t, set_at e0, m0, m1, t0, by omega⟩⟩
    show evB (callN TT W n) W F29.body [.val (.box l), .val (.int z), .no, .no] s = _
    refine B_rt ((S_if1S ?_).trans ((B_nx (S_setS (d := .int (h % z)) (s' := s) ?_)).trans ((B_nx (S_setx (d := .int (h / z)) (l := l) (k := 0) ?_ (by simp [ev_var, ev_own, ev_con, ev_glob, ev_bin, ev_rep, ev_neg, ev_cmp, ev_chain, ev_isn, ev_notn, ev_and, ev_or, ev_not, ev_ife, ev_tup, ev_lst, ev_mkb, ev_ix, ev_slice, ev_call, ev_bf, ev_isi, ev_isi2, ev_lrng, ev_lzip, ev_sset, ev_lset, evL_nil, evL_cons, evO_none, evO_some, evC_none, evC_some, evI_seq, evI_rng, evI_zip, evI_enum, sx, getV, frzE, Sl.frz, asB, asI]) (by simp [ev_var, ev_own, ev_con, ev_glob, ev_bin, ev_rep, ev_neg, ev_cmp, ev_chain, ev_isn, ev_notn, ev_and, ev_or, ev_not, ev_ife, ev_tup, ev_lst, ev_mkb, ev_ix, ev_slice, ev_call, ev_bf, ev_isi, ev_isi2, ev_lrng, ev_lzip, ev_sset, ev_lset, evL_nil, evL_cons, evO_none, evO_some, evC_none, evC_some, evI_seq, evI_rng, evI_zip, evI_enum, sx, getV, frzE, Sl.frz, asB, asI]) e0 rfl)).trans (B_rt (S_ret (by simp [ev_var, ev_own, ev_con, ev_glob, ev_bin, ev_rep, ev_neg, ev_cmp, ev_chain, ev_isn, ev_notn, ev_and, ev_or, ev_not, ev_ife, ev_tup, ev_lst, ev_mkb, ev_ix, ev_slice, ev_call, ev_bf, ev_isi, ev_isi2, ev_lrng, ev_lzip, ev_sset, ev_lset, evL_nil, evL_cons, evO_none, evO_some, evC_none, evC_some, evI_seq, evI_rng, evI_zip, evI_enum, sx, getV, frzE, Sl.frz, asB, asI]))))))
    · simp [ev_var, ev_own, ev_con, ev_glob, ev_bin, ev_rep, ev_neg, ev_cmp, ev_chain, ev_isn, ev_notn, ev_and, ev_or, ev_not, ev_ife, ev_tup, ev_lst, ev_mkb, ev_ix, ev_slice, ev_call, ev_bf, ev_isi, ev_isi2, ev_lrng, ev_lzip, ev_sset, ev_lset, evL_nil, evL_cons, evO_none, evO_some, evC_none, evC_some, evI_seq, evI_rng, evI_zip, evI_enum, sx, getV, frzE, Sl.frz, asB, asI, bnd_assoc, bnd_to x0, c_gt, pur_at, q]
    · simp [ev_var, ev_own, ev_con, ev_glob, ev_bin, ev_rep, ev_neg, ev_cmp, ev_chain, ev_isn, ev_notn, ev_and, ev_or, ev_not, ev_ife, ev_tup, ev_lst, ev_mkb, ev_ix, ev_slice, ev_call, ev_bf, ev_isi, ev_isi2, ev_lrng, ev_lzip, ev_sset, ev_lset, evL_nil, evL_cons, evO_none, evO_some, evC_none, evC_some, evI_seq, evI_rng, evI_zip, evI_enum, sx, getV, frzE, Sl.frz, asB, asI, bnd_assoc, bnd_to x0, b_int, o_modI _ _ hz, pur_at]
    · simp [ev_var, ev_own, ev_con, ev_glob, ev_bin, ev_rep, ev_neg, ev_cmp, ev_chain, ev_isn, ev_notn, ev_and, ev_or, ev_not, ev_ife, ev_tup, ev_lst, ev_mkb, ev_ix, ev_slice, ev_call, ev_bf, ev_isi, ev_isi2, ev_lrng, ev_lzip, ev_sset, ev_lset, evL_nil, evL_cons, evO_none, evO_some, evC_none, evC_some, evI_seq, evI_rng, evI_zip, evI_enum, sx, getV, frzE, Sl.frz, asB, asI, bnd_assoc, bnd_to x0, o_divI _ _ ⟨hz, lg⟩, pur_at]
  · let s1 : Sto := s.set l [.int h, .int m, .int (t + 1)]
    have e1 : s1[l]? = some [.int h, .int m, .int (t + 1)] := set_at e0
    have y1 : ixD (.box l) (.int 1) s1 = .ok (.int m) s1 := ix_box e1 rfl
    have y2 : ixD (.box l) (.int 2) s1 = .ok (.int (t + 1)) s1 := ix_box e1 rfl
    let nu : Int := (m + 15485867 * (t + 1)) ^ 5 % 2147483647
    have nu0 : 0 ≤ nu := Int.emod_nonneg _ (by decide)
    have nu1 : nu < 2147483647 := Int.emod_lt_of_pos _ (by decide)
    let fo : Int := (nu + 7919 * (t + 1)) ^ 3 % 2147483629 / 32
    refine ⟨fo % z, s1, callN_S T29 rfl ?_, Int.emod_nonneg _ (by omega), Int.emod_lt_of_pos _ hz, ⟨h, m, t + 1, e1, m0, m1, by omega, by omega⟩⟩
    show evB (callN TT W n) W F29.body [.val (.box l), .val (.int z), .no, .no] s = _
    have p5 := o_pow (m + 15485867 * (t + 1)) 5 ⟨by decide, by decide, by omega⟩
    have p3 := o_pow (nu + 7919 * (t + 1)) 3 ⟨by decide, by decide, by omega⟩
    have i5 : (5 : Int).toNat = 5 := rfl
    have i3 : (3 : Int).toNat = 3 := rfl
    rw [i5] at p5
    rw [i3] at p3
    have d32 : (0 : Int) < 32 ∧ (32 : Int).natAbs.log2 < 9000 := ⟨by decide, by decide⟩
    refine (B_nx ((S_if0S ?_).trans B_nil)).trans ((B_nx (S_setx (d := .int (t + 1)) (l := l) (k := 2) (xs := [.int h, .int m, .int t]) (ys := [.int h, .int m, .int (t + 1)]) ?_ (by simp [ev_var, ev_own, ev_con, ev_glob, ev_bin, ev_rep, ev_neg, ev_cmp, ev_chain, ev_isn, ev_notn, ev_and, ev_or, ev_not, ev_ife, ev_tup, ev_lst, ev_mkb, ev_ix, ev_slice, ev_call, ev_bf, ev_isi, ev_isi2, ev_lrng, ev_lzip, ev_sset, ev_lset, evL_nil, evL_cons, evO_none, evO_some, evC_none, evC_some, evI_seq, evI_rng, evI_zip, evI_enum, sx, getV, frzE, Sl.frz, asB, asI]) (by simp [ev_var, ev_own, ev_con, ev_glob, ev_bin, ev_rep, ev_neg, ev_cmp, ev_chain, ev_isn, ev_notn, ev_and, ev_or, ev_not, ev_ife, ev_tup, ev_lst, ev_mkb, ev_ix, ev_slice, ev_call, ev_bf, ev_isi, ev_isi2, ev_lrng, ev_lzip, ev_sset, ev_lset, evL_nil, evL_cons, evO_none, evO_some, evC_none, evC_some, evI_seq, evI_rng, evI_zip, evI_enum, sx, getV, frzE, Sl.frz, asB, asI]) e0 rfl)).trans
      ((B_nx (S_setS (d := .int nu) (s' := s1) ?_)).trans ((B_nx (S_setS (d := .int fo) (s' := s1) ?_)).trans (B_rt (S_retS ?_)))))
    · simp [ev_var, ev_own, ev_con, ev_glob, ev_bin, ev_rep, ev_neg, ev_cmp, ev_chain, ev_isn, ev_notn, ev_and, ev_or, ev_not, ev_ife, ev_tup, ev_lst, ev_mkb, ev_ix, ev_slice, ev_call, ev_bf, ev_isi, ev_isi2, ev_lrng, ev_lzip, ev_sset, ev_lset, evL_nil, evL_cons, evO_none, evO_some, evC_none, evC_some, evI_seq, evI_rng, evI_zip, evI_enum, sx, getV, frzE, Sl.frz, asB, asI, bnd_assoc, bnd_to x0, c_gt, pur_at, q]
    · simp [ev_var, ev_own, ev_con, ev_glob, ev_bin, ev_rep, ev_neg, ev_cmp, ev_chain, ev_isn, ev_notn, ev_and, ev_or, ev_not, ev_ife, ev_tup, ev_lst, ev_mkb, ev_ix, ev_slice, ev_call, ev_bf, ev_isi, ev_isi2, ev_lrng, ev_lzip, ev_sset, ev_lset, evL_nil, evL_cons, evO_none, evO_some, evC_none, evC_some, evI_seq, evI_rng, evI_zip, evI_enum, sx, getV, frzE, Sl.frz, asB, asI, bnd_assoc, bnd_to x2, o_addI, pur_at]
    · show ev _ _ _ s1 = _
      simp [ev_var, ev_own, ev_con, ev_glob, ev_bin, ev_rep, ev_neg, ev_cmp, ev_chain, ev_isn, ev_notn, ev_and, ev_or, ev_not, ev_ife, ev_tup, ev_lst, ev_mkb, ev_ix, ev_slice, ev_call, ev_bf, ev_isi, ev_isi2, ev_lrng, ev_lzip, ev_sset, ev_lset, evL_nil, evL_cons, evO_none, evO_some, evC_none, evC_some, evI_seq, evI_rng, evI_zip, evI_enum, sx, getV, frzE, Sl.frz, asB, asI, bnd_assoc, bnd_to y1, bnd_to y2, o_addI, o_mulI 15485867 (t + 1) (.inl (by decide)), p5, o_modI _ _ (show (0 : Int) < 2147483647 by decide), pur_at, nu]
    · have p3' := p3
      simp only [nu] at p3'
      simp [ev_var, ev_own, ev_con, ev_glob, ev_bin, ev_rep, ev_neg, ev_cmp, ev_chain, ev_isn, ev_notn, ev_and, ev_or, ev_not, ev_ife, ev_tup, ev_lst, ev_mkb, ev_ix, ev_slice, ev_call, ev_bf, ev_isi, ev_isi2, ev_lrng, ev_lzip, ev_sset, ev_lset, evL_nil, evL_cons, evO_none, evO_some, evC_none, evC_some, evI_seq, evI_rng, evI_zip, evI_enum, sx, getV, frzE, Sl.frz, asB, asI, bnd_assoc, bnd_to y2, o_addI, o_mulI 7919 (t + 1) (.inl (by decide)), p3, p3', o_modI _ _ (show (0 : Int) < 2147483629 by decide), o_divI _ _ d32, pur_at, fo, nu]
    · simp [ev_var, ev_own, ev_con, ev_glob, ev_bin, ev_rep, ev_neg, ev_cmp, ev_chain, ev_isn, ev_notn, ev_and, ev_or, ev_not, ev_ife, ev_tup, ev_lst, ev_mkb, ev_ix, ev_slice, ev_call, ev_bf, ev_isi, ev_isi2, ev_lrng, ev_lzip, ev_sset, ev_lset, evL_nil, evL_cons, evO_none, evO_some, evC_none, evC_some, evI_seq, evI_rng, evI_zip, evI_enum, sx, getV, frzE, Sl.frz, asB, asI, b_int, o_modI _ _ hz, pur_at]
end Mi
end
section
set_option Elab.async false
set_option linter.all false
set_option maxRecDepth 100000
set_option maxHeartbeats 2000000
/-! P16: decks, one of some. -/
namespace Mi
open PySem L2
theorem w_F28 {W n : Nat} {s : Sto} (c t : Int) (ht : 0 ≤ t) : ∃ s', callN TT W (n + 1) 28 [.int c, .int t] s = .ok (.box s.length) s' ∧ Dk s' s.length t := by
  have p : op2 .pow (.int 10) (.int 18) = some (.int (10 ^ 18)) := o_pow 10 18 (by decide)
  have md : op2 .mod (.int c) (.int 2147483579) = some (.int (c % 2147483579)) := o_modI _ _ (by decide)
  have m0 : 0 ≤ c % 2147483579 := Int.emod_nonneg _ (by decide)
  have m1 : c % 2147483579 < 2147483579 := Int.emod_lt_of_pos _ (by decide)
  have at_ : ∀ xs : List D, (s ++ [xs])[s.length]? = some xs := fun xs => by simp
  by_cases q : 10 ^ 18 ≤ c
  · refine ⟨_, callN_S T28 rfl (B_rt ((S_if1S ?_).trans (B_rt (S_retS (d := .box s.length) (s' := s ++ [[.int (c - 10 ^ 18), .int (c % 2147483579), .int t]]) ?_)))), ⟨_, _, _, at_ _, m0, m1, ht, Int.le_refl _⟩⟩
    · show ev _ _ [.val (.int c), .val (.int t)] _ = _
      simp only [ev_var, ev_own, ev_con, ev_glob, ev_bin, ev_rep, ev_neg, ev_cmp, ev_chain, ev_isn, ev_notn, ev_and, ev_or, ev_not, ev_ife, ev_tup, ev_lst, ev_mkb, ev_ix, ev_slice, ev_call, ev_bf, ev_isi, ev_isi2, ev_lrng, ev_lzip, ev_sset, ev_lset, evL_nil, evL_cons, evO_none, evO_some, evC_none, evC_some, evI_seq, evI_rng, evI_zip, evI_enum, sx, getV, frzE, Sl.frz, asB, asI, List.getElem?_cons_zero, List.getElem?_cons_succ, p, bnd_pur, lif_some, c_ge, Option.map_some, q, decide_true, pur_at]
    · show ev _ _ [.val (.int c), .val (.int t)] _ = _
      simp only [ev_var, ev_own, ev_con, ev_glob, ev_bin, ev_rep, ev_neg, ev_cmp, ev_chain, ev_isn, ev_notn, ev_and, ev_or, ev_not, ev_ife, ev_tup, ev_lst, ev_mkb, ev_ix, ev_slice, ev_call, ev_bf, ev_isi, ev_isi2, ev_lrng, ev_lzip, ev_sset, ev_lset, evL_nil, evL_cons, evO_none, evO_some, evC_none, evC_some, evI_seq, evI_rng, evI_zip, evI_enum, sx, getV, frzE, Sl.frz, asB, asI, List.getElem?_cons_zero, List.getElem?_cons_succ, p, bnd_pur, lif_some, md, o_subI]
  · refine ⟨_, callN_S T28 rfl ((B_nx ((S_if0S ?_).trans B_nil)).trans (B_rt (S_retS (d := .box s.length) (s' := s ++ [[.int 0, .int (c % 2147483579), .int t]]) ?_))), ⟨_, _, _, at_ _, m0, m1, ht, Int.le_refl _⟩⟩
    · show ev _ _ [.val (.int c), .val (.int t)] _ = _
      simp only [ev_var, ev_own, ev_con, ev_glob, ev_bin, ev_rep, ev_neg, ev_cmp, ev_chain, ev_isn, ev_notn, ev_and, ev_or, ev_not, ev_ife, ev_tup, ev_lst, ev_mkb, ev_ix, ev_slice, ev_call, ev_bf, ev_isi, ev_isi2, ev_lrng, ev_lzip, ev_sset, ev_lset, evL_nil, evL_cons, evO_none, evO_some, evC_none, evC_some, evI_seq, evI_rng, evI_zip, evI_enum, sx, getV, frzE, Sl.frz, asB, asI, List.getElem?_cons_zero, List.getElem?_cons_succ, p, bnd_pur, lif_some, c_ge, Option.map_some, q, decide_false, pur_at]
    · show ev _ _ [.val (.int c), .val (.int t)] _ = _
      simp only [ev_var, ev_own, ev_con, ev_glob, ev_bin, ev_rep, ev_neg, ev_cmp, ev_chain, ev_isn, ev_notn, ev_and, ev_or, ev_not, ev_ife, ev_tup, ev_lst, ev_mkb, ev_ix, ev_slice, ev_call, ev_bf, ev_isi, ev_isi2, ev_lrng, ev_lzip, ev_sset, ev_lset, evL_nil, evL_cons, evO_none, evO_some, evC_none, evC_some, evI_seq, evI_rng, evI_zip, evI_enum, sx, getV, frzE, Sl.frz, asB, asI, List.getElem?_cons_zero, List.getElem?_cons_succ, p, bnd_pur, lif_some, md]
theorem w_F30 {W n : Nat} {s : Sto} {l : Nat} {T : Int} {xs : List D} (hd : Dk s l T) (hT : T < 1000000000) (h0 : 0 < xs.length) (h1 : xs.length < 1000000000) :
    ∃ (k : Nat) (v : D) (s' : Sto), xs[k]? = some v ∧ callN TT W (n + 2) 30 [.box l, .lst xs] s = .ok v s' ∧ Dk s' l (T + 1) := by
  obtain ⟨v, s', c, v0, v1, d⟩ := w_F29 (W := W) (n := n) (z := (xs.length : Int)) hd hT (by omega) (by omega)
  have hk : v.toNat < xs.length := by omega
  have hx : ixD (.lst xs) (.int v) = pur xs[v.toNat] := by
    show lif (atI xs v) = _
    unfold atI ixN
    rw [if_pos v0, if_pos v1]
    show lif (xs[v.toNat]?) = _
    rw [List.getElem?_eq_getElem hk] <;> rfl
  refine ⟨v.toNat, xs[v.toNat], s', List.getElem?_eq_getElem hk, callN_S T30 rfl (B_rt (S_retS ?_)), d⟩
  show ev (callN TT W (n + 1)) _ [.val (.box l), .val (.lst xs)] s = _
  simp [ev_var, ev_own, ev_con, ev_glob, ev_bin, ev_rep, ev_neg, ev_cmp, ev_chain, ev_isn, ev_notn, ev_and, ev_or, ev_not, ev_ife, ev_tup, ev_lst, ev_mkb, ev_ix, ev_slice, ev_call, ev_bf, ev_isi, ev_isi2, ev_lrng, ev_lzip, ev_sset, ev_lset, evL_nil, evL_cons, evO_none, evO_some, evC_none, evC_some, evI_seq, evI_rng, evI_zip, evI_enum, sx, getV, frzE, Sl.frz, asB, asI, b_lenL, bnd_assoc, bnd_to c, hx, pur_at]
end Mi
end
section
set_option Elab.async false
set_option linter.all false
set_option maxRecDepth 100000
set_option maxHeartbeats 2000000
/-! P17: a door, a fraction. -/
namespace Mi
open PySem L2
theorem w_F35 {W n : Nat} {s : Sto} {l : Nat} {T w : Int} (hd : Dk s l T) (hT : T < 900000000) (h2 : 2 ≤ w) (h5 : w ≤ 5) :
    ∃ (d : Door) (s' : Sto), callN TT W (n + 2) 35 [.box l, .int w] s = .ok (doorD d) s' ∧ DoorOk w d ∧ Dk s' l (T + 2) := by
  obtain ⟨v, s1, c1, v0, v1, d1⟩ := w_F29 (W := W) (n := n) (z := 2) hd (by omega) (by omega) (by omega)
  obtain ⟨u, s2, c2, u0, u1, d2⟩ := w_F29 (W := W) (n := n) (z := w - 1) d1 (by omega) (by omega) (by omega)
  refine ⟨(v, 1 + u), s2, callN_S T35 rfl (B_rt (S_retS ?_)), ⟨v0, by show v ≤ 1; omega, by show 1 ≤ 1 + u; omega, by show 1 + u ≤ w; omega⟩, d2.mono (by omega)⟩
  show ev (callN TT W (n + 1)) _ [.val (.box l), .val (.int w)] s = _
  have mx : (if w - 1 > 1 then w - 1 else 1) = w - 1 := by split <;> omega
  have bm : bfn .max [.int 1, .int (w - 1)] = some (.int (w - 1)) := by rw [b_max2, mx]
  simp [ev_var, ev_own, ev_con, ev_glob, ev_bin, ev_rep, ev_neg, ev_cmp, ev_chain, ev_isn, ev_notn, ev_and, ev_or, ev_not, ev_ife, ev_tup, ev_lst, ev_mkb, ev_ix, ev_slice, ev_call, ev_bf, ev_isi, ev_isi2, ev_lrng, ev_lzip, ev_sset, ev_lset, evL_nil, evL_cons, evO_none, evO_some, evC_none, evC_some, evI_seq, evI_rng, evI_zip, evI_enum, sx, getV, frzE, Sl.frz, asB, asI, bnd_assoc, bnd_to c1, bnd_to c2, bm, o_subI, o_addI, pur_at, doorD]
theorem gcd_loop2 {Φ : Nat → List D → M D} {W : Nat} (x y : Sl) : ∀ (n a b : Nat) (s : Sto), b < n → whileL (fun ρ => bnd (ev Φ (.cmp .gt (.var 3) (.con (.int 0))) ρ) fun x => lif (asB x)) (evB Φ W (.cons (.par2 2 3 false false (.var 3) (.bin .mod (.var 2) (.var 3))) .nil)) n [x, y, .val (.int (a : Int)), .val (.int (b : Int))] s =
    .nx [x, y, .val (.int (Nat.gcd a b : Nat)), .val (.int 0)] s
  | 0, a, b, s, h => absurd h (by omega)
  | n + 1, a, b, s, h => by
    by_cases hb : b = 0
    · subst hb
      have c : (bnd (ev Φ (.cmp .gt (.var 3) (.con (.int 0))) [x, y, .val (.int (a : Int)), .val (.int ((0 : Nat) : Int))]) fun x => lif (asB x)) = pur false := by simp [ev_var, ev_own, ev_con, ev_glob, ev_bin, ev_rep, ev_neg, ev_cmp, ev_chain, ev_isn, ev_notn, ev_and, ev_or, ev_not, ev_ife, ev_tup, ev_lst, ev_mkb, ev_ix, ev_slice, ev_call, ev_bf, ev_isi, ev_isi2, ev_lrng, ev_lzip, ev_sset, ev_lset, evL_nil, evL_cons, evO_none, evO_some, evC_none, evC_some, evI_seq, evI_rng, evI_zip, evI_enum, sx, getV, frzE, Sl.frz, asB, asI, c_gt]
      unfold whileL
      simp only [c, pur]
      rw [Nat.gcd_zero_right] <;> rfl
    · have hb0 : (0 : Int) < (b : Int) := by omega
      have c : (bnd (ev Φ (.cmp .gt (.var 3) (.con (.int 0))) [x, y, .val (.int (a : Int)), .val (.int (b : Int))]) fun x => lif (asB x)) = pur true := by
        have : 0 < b := by omega
        simp [ev_var, ev_own, ev_con, ev_glob, ev_bin, ev_rep, ev_neg, ev_cmp, ev_chain, ev_isn, ev_notn, ev_and, ev_or, ev_not, ev_ife, ev_tup, ev_lst, ev_mkb, ev_ix, ev_slice, ev_call, ev_bf, ev_isi, ev_isi2, ev_lrng, ev_lzip, ev_sset, ev_lset, evL_nil, evL_cons, evO_none, evO_some, evC_none, evC_some, evI_seq, evI_rng, evI_zip, evI_enum, sx, getV, frzE, Sl.frz, asB, asI, c_gt, this]
      have st : evB Φ W (.cons (.par2 2 3 false false (.var 3) (.bin .mod (.var 2) (.var 3))) .nil) [x, y, .val (.int (a : Int)), .val (.int (b : Int))] s = .nx [x, y, .val (.int (b : Int)), .val (.int ((a % b : Nat) : Int))] s := by
        refine (B_nx (S_par (d1 := .int (b : Int)) (d2 := .int ((a % b : Nat) : Int)) (by simp [ev_var, ev_own, ev_con, ev_glob, ev_bin, ev_rep, ev_neg, ev_cmp, ev_chain, ev_isn, ev_notn, ev_and, ev_or, ev_not, ev_ife, ev_tup, ev_lst, ev_mkb, ev_ix, ev_slice, ev_call, ev_bf, ev_isi, ev_isi2, ev_lrng, ev_lzip, ev_sset, ev_lset, evL_nil, evL_cons, evO_none, evO_some, evC_none, evC_some, evI_seq, evI_rng, evI_zip, evI_enum, sx, getV, frzE, Sl.frz, asB, asI]) ?_)).trans B_nil
        simp [ev_var, ev_own, ev_con, ev_glob, ev_bin, ev_rep, ev_neg, ev_cmp, ev_chain, ev_isn, ev_notn, ev_and, ev_or, ev_not, ev_ife, ev_tup, ev_lst, ev_mkb, ev_ix, ev_slice, ev_call, ev_bf, ev_isi, ev_isi2, ev_lrng, ev_lzip, ev_sset, ev_lset, evL_nil, evL_cons, evO_none, evO_some, evC_none, evC_some, evI_seq, evI_rng, evI_zip, evI_enum, sx, getV, frzE, Sl.frz, asB, asI, o_modI _ _ hb0]
      unfold whileL
      simp only [c, pur, st]
      have ih := gcd_loop2 (Φ := Φ) (W := W) x y n b (a % b) s (by have := Nat.mod_lt a (show b > 0 by omega); omega)
      rw [ih]
      have e : Nat.gcd b (a % b) = Nat.gcd a b := by
        rw [Nat.gcd_comm a b, Nat.gcd_rec b a, Nat.gcd_comm]
      rw [e]
theorem w_F40 {W n : Nat} (a b : Int) (ha : 0 ≤ a) (hb : 0 < b) (hs : b < 10 ^ 40) (h : b.toNat < W) : callN TT W (n + 1) 40 [.int a, .int b] = pur (fqD (redF a b)) := by
  refine callN_pur T40 rfl fun s => ?_
  show evB (callN TT W n) W F40.body [.val (.int a), .val (.int b), .no, .no] s = _
  have e1 : ((b.toNat : Nat) : Int) = b := Int.toNat_of_nonneg (by omega)
  have e2 : ((a.natAbs : Nat) : Int) = a := by omega
  have hg : 0 < Nat.gcd a.natAbs b.toNat := Nat.gcd_pos_of_pos_right _ (by omega)
  have hl : Nat.gcd a.natAbs b.toNat ≤ b.toNat := Nat.le_of_dvd (by omega) (Nat.gcd_dvd_right _ _)
  have lg : (0 : Int) < ((Nat.gcd a.natAbs b.toNat : Nat) : Int) ∧ ((Nat.gcd a.natAbs b.toNat : Nat) : Int).natAbs.log2 < 9000 := by
    refine ⟨by omega, ?_⟩
    rw [Int.natAbs_natCast]
    rw [Nat.log2_lt (by omega)]
    have : b.toNat < 10 ^ 40 := by omega
    have p : (10 : Nat) ^ 40 ≤ 2 ^ 9000 := by
      calc (10 : Nat) ^ 40 ≤ 2 ^ 133 := by decide
        _ ≤ 2 ^ 9000 := Nat.pow_le_pow_right (by decide) (by decide)
    omega
  have lp := gcd_loop2 (Φ := callN TT W n) (W := W) (.val (.int a)) (.val (.int b)) W a.natAbs b.toNat s h
  rw [e1, e2] at lp
  refine (B_nx (S_par (d1 := .int a) (d2 := .int b) (by simp [ev_var, ev_own, ev_con, ev_glob, ev_bin, ev_rep, ev_neg, ev_cmp, ev_chain, ev_isn, ev_notn, ev_and, ev_or, ev_not, ev_ife, ev_tup, ev_lst, ev_mkb, ev_ix, ev_slice, ev_call, ev_bf, ev_isi, ev_isi2, ev_lrng, ev_lzip, ev_sset, ev_lset, evL_nil, evL_cons, evO_none, evO_some, evC_none, evC_some, evI_seq, evI_rng, evI_zip, evI_enum, sx, getV, frzE, Sl.frz, asB, asI]) (by simp [ev_var, ev_own, ev_con, ev_glob, ev_bin, ev_rep, ev_neg, ev_cmp, ev_chain, ev_isn, ev_notn, ev_and, ev_or, ev_not, ev_ife, ev_tup, ev_lst, ev_mkb, ev_ix, ev_slice, ev_call, ev_bf, ev_isi, ev_isi2, ev_lrng, ev_lzip, ev_sset, ev_lset, evL_nil, evL_cons, evO_none, evO_some, evC_none, evC_some, evI_seq, evI_rng, evI_zip, evI_enum, sx, getV, frzE, Sl.frz, asB, asI]))).trans ?_
  refine (B_nx (st := .while_ _ _) (s' := s) (ρ' := [.val (.int a), .val (.int b), .val (.int (Nat.gcd a.natAbs b.toNat : Nat)), .val (.int 0)]) ?_).trans ?_
  · rw [evS]
    exact lp
  · refine B_rt (S_ret ?_)
    simp [ev_var, ev_own, ev_con, ev_glob, ev_bin, ev_rep, ev_neg, ev_cmp, ev_chain, ev_isn, ev_notn, ev_and, ev_or, ev_not, ev_ife, ev_tup, ev_lst, ev_mkb, ev_ix, ev_slice, ev_call, ev_bf, ev_isi, ev_isi2, ev_lrng, ev_lzip, ev_sset, ev_lset, evL_nil, evL_cons, evO_none, evO_some, evC_none, evC_some, evI_seq, evI_rng, evI_zip, evI_enum, sx, getV, frzE, Sl.frz, asB, asI, o_divI _ _ lg, fqD, redF]
end Mi
end
section
set_option Elab.async false
set_option linter.all false
set_option maxRecDepth 100000
set_option maxHeartbeats 2000000
/-! P18: the law's own bounds. -/
namespace Mi
open PySem L2
def blkL (w : Int) (ds : List Door) (k : Nat) : List Lip := [((k : Int) + 1, 0, w - (dr ds k).2), (0, (k : Int) + 1, 0)]
def trkL (ds : List Door) (k n : Nat) : List Lip := (List.range n).flatMap fun (j : Nat) => if (dr ds j).1 = (dr ds k).1 then [((j : Int) + 1, (k : Int) + 1, 0 - (dr ds j).2)] else []
def bndL0 (w : Int) (ds : List Door) (n : Nat) : List Lip := (List.range n).flatMap fun k => blkL w ds k ++ trkL ds k k
def bndL (w : Int) (ds : List Door) (ls : List Lip) : List Lip := bndL0 w ds ds.length ++ ls.map fun l => ((l.1 + 1, l.2.1 + 1, l.2.2) : Lip)
theorem trkL_succ (ds : List Door) (k n : Nat) : trkL ds k (n + 1) = trkL ds k n ++ (if (dr ds n).1 = (dr ds k).1 then [((n : Int) + 1, (k : Int) + 1, 0 - (dr ds n).2)] else []) := by
  unfold trkL
  rw [List.range_succ, List.flatMap_append]
  simp
theorem bndL0_succ (w : Int) (ds : List Door) (n : Nat) : bndL0 w ds (n + 1) = bndL0 w ds n ++ (blkL w ds n ++ trkL ds n n) := by
  unfold bndL0
  rw [List.range_succ, List.flatMap_append]
  simp
theorem trkL_len (ds : List Door) (k n : Nat) : (trkL ds k n).length ≤ n := by
  induction n with
  | zero => exact Nat.le_refl _
  | succ n ih =>
    rw [trkL_succ, List.length_append]
    split <;> simp <;> omega
theorem bndL0_len (w : Int) (ds : List Door) (n : Nat) : (bndL0 w ds n).length ≤ n * (n + 2) := by
  induction n with
  | zero => exact Nat.le_refl _
  | succ n ih =>
    rw [bndL0_succ, List.length_append, List.length_append]
    have := trkL_len ds n n
    have e : (blkL w ds n).length = 2 := rfl
    rw [e]
    have : (n + 1) * (n + 1 + 2) = n * (n + 2) + (2 * n + 3) := by grind
    omega
/-- the same bounds -/
theorem bndL_mem {w : Int} {ds : List Door} {ls : List Lip} (l : Lip) : l ∈ bndL w ds ls ↔ l ∈ bndP w ds ls := by
  unfold bndL bndP bndL0 trkL blkL trk
  simp only [List.mem_append, List.mem_flatMap, List.mem_map, List.mem_range, List.mem_filter, List.mem_cons, List.not_mem_nil, or_false, decide_eq_true_eq]
  constructor
  · rintro (⟨k, hk, (rfl | rfl) | ⟨j, hj, h⟩⟩ | h)
    · exact .inl (.inl (.inl ⟨k, hk, rfl⟩))
    · exact .inl (.inl (.inr ⟨k, hk, rfl⟩))
    · split at h
      · rename_i e
        rcases List.mem_cons.mp h with rfl | h
        · exact .inl (.inr ⟨(j, k), ⟨j, by omega, k, ⟨hk, hj, e⟩, rfl⟩, by simp⟩)
        · cases h
      · cases h
    · exact .inr h
  · rintro (((⟨k, hk, rfl⟩ | ⟨k, hk, rfl⟩) | ⟨p, ⟨i, hi, j, ⟨hj, hij, e⟩, rfl⟩, rfl⟩) | h)
    · exact .inl ⟨k, hk, .inl (.inl rfl)⟩
    · exact .inl ⟨k, hk, .inl (.inr rfl)⟩
    · exact .inl ⟨j, hj, .inr ⟨i, hij, by rw [if_pos e]; simp⟩⟩
    · exact .inr h
theorem keeps_iff {w M : Int} {ds : List Door} {ls : List Lip} {p : Int → Int} : Keeps (bndL w ds ls) M p ↔ Keeps (bndP w ds ls) M p :=
  ⟨fun h l hl => h l ((bndL_mem l).mpr hl), fun h l hl => h l ((bndL_mem l).mp hl)⟩
end Mi
end
section
set_option Elab.async false
set_option linter.all false
set_option maxRecDepth 100000
set_option maxHeartbeats 2000000
/-! P19: the law's own bounds, run. -/
namespace Mi
open PySem L2
theorem rep_b (x : D) (b : Bool) : repL (.lst [x]) (.int (if b = true then 1 else 0)) = some (.lst (if b = true then [x] else [])) := by
  cases b <;> simp [repL]
theorem w_F31 {W n : Nat} {w : Int} {ds : List Door} {ls : List Lip} (h3 : ds.length ≤ 3) (h4 : ls.length ≤ 4) : callN TT W (n + 1) 31 [cupD w ds ls] = pur (.lst ((bndL w ds ls).map lipD)) := by
  refine callN_pur T31 rfl fun s => ?_
  show evB (callN TT W n) W F31.body [.val (cupD w ds ls), .no, .no, .no, .no, .no, .no, .no] s = _
  have a1 : ∀ k, k < ds.length → ixD (.tup (ds.map doorD)) (.int (k : Int)) = pur (.tup [.int (dr ds k).1, .int (dr ds k).2]) := fun k h => ixK doorD ds k (0, 0) h
  have hr := rng0 (m := ds.length) (by omega)
  refine (B_nx (S_asg (d := cupD w ds ls) (ρ' := [.val (cupD w ds ls), .val (.int w), .val (.tup (ds.map doorD)), .val (.tup (ls.map lipD)), .no, .no, .no, .no]) (by simp [ev_var, ev_own, ev_con, ev_glob, ev_bin, ev_rep, ev_neg, ev_cmp, ev_chain, ev_isn, ev_notn, ev_and, ev_or, ev_not, ev_ife, ev_tup, ev_lst, ev_mkb, ev_ix, ev_slice, ev_call, ev_bf, ev_isi, ev_isi2, ev_lrng, ev_lzip, ev_sset, ev_lset, evL_nil, evL_cons, evO_none, evO_some, evC_none, evC_some, evI_seq, evI_rng, evI_zip, evI_enum, sx, getV, frzE, Sl.frz, asB, asI]) rfl)).trans ?_
  refine (B_nx (S_set (d := .lst []) (by simp [ev_var, ev_own, ev_con, ev_glob, ev_bin, ev_rep, ev_neg, ev_cmp, ev_chain, ev_isn, ev_notn, ev_and, ev_or, ev_not, ev_ife, ev_tup, ev_lst, ev_mkb, ev_ix, ev_slice, ev_call, ev_bf, ev_isi, ev_isi2, ev_lrng, ev_lzip, ev_sset, ev_lset, evL_nil, evL_cons, evO_none, evO_some, evC_none, evC_some, evI_seq, evI_rng, evI_zip, evI_enum, sx, getV, frzE, Sl.frz, asB, asI]))).trans ?_
  simp only [List.set_cons_zero, List.set_cons_succ]
  -- the inner loop
  have inner : ∀ (k : Nat) (acc : List Lip) (x6 : Sl) (s : Sto), k < ds.length → acc.length ≤ 1000 → ∃ x6', forL (fun d ρ s => match tgt (.nm 6) d ρ with
      | some ρ' => evB (callN TT W n) W (.cons (.set 4 (.bin .add (.var 4) (.rep (.lst (.cons (.tup (.cons (.bin .add (.var 6) (.con (.int 1))) (.cons (.bin .add (.var 5) (.con (.int 1))) (.cons (.bin .sub (.con (.int 0)) (.ix (.ix (.var 2) (.var 6)) (.con (.int 1)))) .nil)))) .nil)) (.bf .int (.cons (.cmp .eq (.ix (.ix (.var 2) (.var 6)) (.con (.int 0))) (.ix (.ix (.var 2) (.var 5)) (.con (.int 0)))) .nil))))) .nil) ρ' s
      | none => .stuck) ((List.range k).map fun (j : Nat) => D.int (j : Int)) [.val (cupD w ds ls), .val (.int w), .val (.tup (ds.map doorD)), .val (.tup (ls.map lipD)), .val (.lst (acc.map lipD)), .val (.int (k : Int)), x6, .no] s =
      .nx [.val (cupD w ds ls), .val (.int w), .val (.tup (ds.map doorD)), .val (.tup (ls.map lipD)), .val (.lst ((acc ++ trkL ds k k).map lipD)), .val (.int (k : Int)), x6', .no] s := by
    intro k acc x6 s hk hacc
    have lp := forL_inv (f := fun d ρ s => match tgt (.nm 6) d ρ with
      | some ρ' => evB (callN TT W n) W (.cons (.set 4 (.bin .add (.var 4) (.rep (.lst (.cons (.tup (.cons (.bin .add (.var 6) (.con (.int 1))) (.cons (.bin .add (.var 5) (.con (.int 1))) (.cons (.bin .sub (.con (.int 0)) (.ix (.ix (.var 2) (.var 6)) (.con (.int 1)))) .nil)))) .nil)) (.bf .int (.cons (.cmp .eq (.ix (.ix (.var 2) (.var 6)) (.con (.int 0))) (.ix (.ix (.var 2) (.var 5)) (.con (.int 0)))) .nil))))) .nil) ρ' s
      | none => .stuck) (fun j ρ s' => s' = s ∧ ∃ x6, ρ = [.val (cupD w ds ls), .val (.int w), .val (.tup (ds.map doorD)), .val (.tup (ls.map lipD)), .val (.lst ((acc ++ trkL ds k j).map lipD)), .val (.int (k : Int)), x6, .no]) ((List.range k).map fun (j : Nat) => D.int (j : Int)) 0 (ρ := [.val (cupD w ds ls), .val (.int w), .val (.tup (ds.map doorD)), .val (.tup (ls.map lipD)), .val (.lst (acc.map lipD)), .val (.int (k : Int)), x6, .no]) (s := s) ⟨rfl, x6, by simp [trkL]⟩ ?_
    · obtain ⟨ρ', s', e, rfl, x6', rfl⟩ := lp
      refine ⟨x6', ?_⟩
      rw [e, List.length_map, List.length_range, Nat.zero_add]
    · rintro j d ρ s' hd' ⟨rfl, x6, rfl⟩
      have hj : j < k := by
        have := (List.getElem?_eq_some_iff.mp hd').1
        simpa using this
      have ed : d = .int (j : Int) := by
        simp only [List.getElem?_map, List.getElem?_range hj] at hd'
        exact (Option.some.inj hd').symm
      subst ed
      rw [Nat.zero_add]
      refine ⟨_, s', ?_, rfl, .val (.int (j : Int)), rfl⟩
      show evB _ _ _ [.val (cupD w ds ls), .val (.int w), .val (.tup (ds.map doorD)), .val (.tup (ls.map lipD)), .val (.lst ((acc ++ trkL ds k j).map lipD)), .val (.int (k : Int)), .val (.int (j : Int)), .no] _ = _
      refine (B_nx (S_set (d := .lst ((acc ++ trkL ds k (j + 1)).map lipD)) ?_)).trans B_nil
      have tl := trkL_len ds k j
      have rb := rep_b (lipD ((j : Int) + 1, (k : Int) + 1, 0 - (dr ds j).2)) (decide ((dr ds j).1 = (dr ds k).1))
      have ad := o_addL ((acc ++ trkL ds k j).map lipD) (if decide ((dr ds j).1 = (dr ds k).1) = true then [lipD ((j : Int) + 1, (k : Int) + 1, 0 - (dr ds j).2)] else []) (by
        rw [List.length_map, List.length_append]
        show _ ≤ 16777216
        split <;> simp <;> omega)
      rw [trkL_succ]
      have il : D.tup [.int ((j : Int) + 1), .int ((k : Int) + 1), .int (0 - (dr ds j).2)] = lipD ((j : Int) + 1, (k : Int) + 1, 0 - (dr ds j).2) := rfl
      simp only [ev_var, ev_own, ev_con, ev_glob, ev_bin, ev_rep, ev_neg, ev_cmp, ev_chain, ev_isn, ev_notn, ev_and, ev_or, ev_not, ev_ife, ev_tup, ev_lst, ev_mkb, ev_ix, ev_slice, ev_call, ev_bf, ev_isi, ev_isi2, ev_lrng, ev_lzip, ev_sset, ev_lset, evL_nil, evL_cons, evO_none, evO_some, evC_none, evC_some, evI_seq, evI_rng, evI_zip, evI_enum, sx, getV, frzE, Sl.frz, asB, asI, List.getElem?_cons_zero, List.getElem?_cons_succ, bnd_pur, lif_some, a1 j (by omega), a1 k hk, ix0, ix1, o_addI, o_subI, c_eq, eqD_int, Option.map_some, b_intb, il, rb, ad]
      by_cases z : (dr ds j).1 = (dr ds k).1 <;> simp [z]
  let body : CB := .cons (.set 4 (.bin .add (.var 4) (.lst (.cons (.tup (.cons (.bin .add (.var 5) (.con (.int 1))) (.cons (.con (.int 0)) (.cons (.bin .sub (.var 1) (.ix (.ix (.var 2) (.var 5)) (.con (.int 1)))) .nil)))) (.cons (.tup (.cons (.con (.int 0)) (.cons (.bin .add (.var 5) (.con (.int 1))) (.cons (.con (.int 0)) .nil)))) .nil))))) (.cons (.for_ (.nm 6) (.rng (.cons (.var 5) .nil)) (.cons (.set 4 (.bin .add (.var 4) (.rep (.lst (.cons (.tup (.cons (.bin .add (.var 6) (.con (.int 1))) (.cons (.bin .add (.var 5) (.con (.int 1))) (.cons (.bin .sub (.con (.int 0)) (.ix (.ix (.var 2) (.var 6)) (.con (.int 1)))) .nil)))) .nil)) (.bf .int (.cons (.cmp .eq (.ix (.ix (.var 2) (.var 6)) (.con (.int 0))) (.ix (.ix (.var 2) (.var 5)) (.con (.int 0)))) .nil))))) .nil)) .nil)
  have lp := forL_inv (f := fun d ρ s => match tgt (.nm 5) d ρ with
      | some ρ' => evB (callN TT W n) W body ρ' s
      | none => .stuck) (fun k ρ s' => s' = s ∧ ∃ x5 x6, ρ = [.val (cupD w ds ls), .val (.int w), .val (.tup (ds.map doorD)), .val (.tup (ls.map lipD)), .val (.lst ((bndL0 w ds k).map lipD)), x5, x6, .no]) ((List.range ds.length).map fun (k : Nat) => D.int (k : Int)) 0 (ρ := [.val (cupD w ds ls), .val (.int w), .val (.tup (ds.map doorD)), .val (.tup (ls.map lipD)), .val (.lst []), .no, .no, .no]) (s := s) ⟨rfl, .no, .no, by simp [bndL0]⟩ ?_
  · obtain ⟨ρ', s', e, rfl, x5, x6, rfl⟩ := lp
    rw [List.length_map, List.length_range, Nat.zero_add] at e
    refine (B_nx ((S_for (ds := (List.range ds.length).map fun (k : Nat) => D.int (k : Int)) (by simp [ev_var, ev_own, ev_con, ev_glob, ev_bin, ev_rep, ev_neg, ev_cmp, ev_chain, ev_isn, ev_notn, ev_and, ev_or, ev_not, ev_ife, ev_tup, ev_lst, ev_mkb, ev_ix, ev_slice, ev_call, ev_bf, ev_isi, ev_isi2, ev_lrng, ev_lzip, ev_sset, ev_lset, evL_nil, evL_cons, evO_none, evO_some, evC_none, evC_some, evI_seq, evI_rng, evI_zip, evI_enum, sx, getV, frzE, Sl.frz, asB, asI, b_lenT, hr])).trans e)).trans (B_rt (S_ret ?_))
    have bl := bndL0_len w ds ds.length
    have bl2 : ds.length * (ds.length + 2) ≤ 15 := Nat.le_trans (Nat.mul_le_mul h3 (Nat.add_le_add_right h3 2)) (by decide)
    rw [ev_bin]
    rw [lc_map (xs := ls) (cv := lipD) (h := fun l => lipD (l.1 + 1, l.2.1 + 1, l.2.2)) (by simp [ev_var, ev_own, ev_con, ev_glob, ev_bin, ev_rep, ev_neg, ev_cmp, ev_chain, ev_isn, ev_notn, ev_and, ev_or, ev_not, ev_ife, ev_tup, ev_lst, ev_mkb, ev_ix, ev_slice, ev_call, ev_bf, ev_isi, ev_isi2, ev_lrng, ev_lzip, ev_sset, ev_lset, evL_nil, evL_cons, evO_none, evO_some, evC_none, evC_some, evI_seq, evI_rng, evI_zip, evI_enum, sx, getV, frzE, Sl.frz, asB, asI, seqOf]) fun l hl => ⟨_, rfl, by simp [ev_var, ev_own, ev_con, ev_glob, ev_bin, ev_rep, ev_neg, ev_cmp, ev_chain, ev_isn, ev_notn, ev_and, ev_or, ev_not, ev_ife, ev_tup, ev_lst, ev_mkb, ev_ix, ev_slice, ev_call, ev_bf, ev_isi, ev_isi2, ev_lrng, ev_lzip, ev_sset, ev_lset, evL_nil, evL_cons, evO_none, evO_some, evC_none, evC_some, evI_seq, evI_rng, evI_zip, evI_enum, sx, getV, frzE, Sl.frz, asB, asI, wipeD, o_addI, lipD, ix0, ix1, ix2]⟩]
    have ad := o_addL ((bndL0 w ds ds.length).map lipD) (ls.map fun l => lipD (l.1 + 1, l.2.1 + 1, l.2.2)) (by
      rw [List.length_map, List.length_map]
      show _ ≤ 16777216
      omega)
    simp only [ev_var, ev_own, ev_con, ev_glob, ev_bin, ev_rep, ev_neg, ev_cmp, ev_chain, ev_isn, ev_notn, ev_and, ev_or, ev_not, ev_ife, ev_tup, ev_lst, ev_mkb, ev_ix, ev_slice, ev_call, ev_bf, ev_isi, ev_isi2, ev_lrng, ev_lzip, ev_sset, ev_lset, evL_nil, evL_cons, evO_none, evO_some, evC_none, evC_some, evI_seq, evI_rng, evI_zip, evI_enum, sx, getV, frzE, Sl.frz, asB, asI, List.map_cons, List.map_nil, List.getElem?_cons_zero, List.getElem?_cons_succ, bnd_pur, lif_some, ad]
    simp [bndL, List.map_append, List.map_map, Function.comp_def]
  · rintro k d ρ s' hd' ⟨rfl, x5, x6, rfl⟩
    have hk : k < ds.length := by
      have := (List.getElem?_eq_some_iff.mp hd').1
      simpa using this
    have ed : d = .int (k : Int) := by
      simp only [List.getElem?_map, List.getElem?_range hk] at hd'
      exact (Option.some.inj hd').symm
    subst ed
    rw [Nat.zero_add]
    have bl := bndL0_len w ds k
    have bl2 : k * (k + 2) ≤ 15 := Nat.le_trans (Nat.mul_le_mul (show k ≤ 3 by omega) (Nat.add_le_add_right (show k ≤ 3 by omega) 2)) (by decide)
    obtain ⟨x6', e2⟩ := inner k (bndL0 w ds k ++ blkL w ds k) x6 s' hk (by rw [List.length_append]; show _ + 2 ≤ 1000; omega)
    refine ⟨_, s', ?_, rfl, .val (.int (k : Int)), x6', rfl⟩
    rw [bndL0_succ, ← List.append_assoc]
    show evB _ _ body [.val (cupD w ds ls), .val (.int w), .val (.tup (ds.map doorD)), .val (.tup (ls.map lipD)), .val (.lst ((bndL0 w ds k).map lipD)), .val (.int (k : Int)), x6, .no] _ = _
    refine (B_nx (S_set (d := .lst ((bndL0 w ds k ++ blkL w ds k).map lipD)) ?_)).trans ((B_nx ((S_for (ds := (List.range k).map fun (j : Nat) => D.int (j : Int)) ?_).trans e2)).trans B_nil)
    · have ad := o_addL ((bndL0 w ds k).map lipD) ((blkL w ds k).map lipD) (by
        rw [List.length_map, List.length_map]
        show _ + 2 ≤ 16777216
        omega)
      have il : [D.tup [.int ((k : Int) + 1), .int 0, .int (w - (dr ds k).2)], D.tup [.int 0, .int ((k : Int) + 1), .int 0]] = (blkL w ds k).map lipD := rfl
      simp only [ev_var, ev_own, ev_con, ev_glob, ev_bin, ev_rep, ev_neg, ev_cmp, ev_chain, ev_isn, ev_notn, ev_and, ev_or, ev_not, ev_ife, ev_tup, ev_lst, ev_mkb, ev_ix, ev_slice, ev_call, ev_bf, ev_isi, ev_isi2, ev_lrng, ev_lzip, ev_sset, ev_lset, evL_nil, evL_cons, evO_none, evO_some, evC_none, evC_some, evI_seq, evI_rng, evI_zip, evI_enum, sx, getV, frzE, Sl.frz, asB, asI, List.getElem?_cons_zero, List.getElem?_cons_succ, bnd_pur, lif_some, a1 k hk, ix1, o_addI, o_subI, il, ad]
      rw [List.map_append]
    · simp [ev_var, ev_own, ev_con, ev_glob, ev_bin, ev_rep, ev_neg, ev_cmp, ev_chain, ev_isn, ev_notn, ev_and, ev_or, ev_not, ev_ife, ev_tup, ev_lst, ev_mkb, ev_ix, ev_slice, ev_call, ev_bf, ev_isi, ev_isi2, ev_lrng, ev_lzip, ev_sset, ev_lset, evL_nil, evL_cons, evO_none, evO_some, evC_none, evC_some, evI_seq, evI_rng, evI_zip, evI_enum, sx, getV, frzE, Sl.frz, asB, asI, rng0 (show k ≤ 1000 by omega)]
end Mi
end
section
set_option Elab.async false
set_option linter.all false
set_option maxRecDepth 100000
set_option maxHeartbeats 2000000
/-! P20: mixtures of places. -/
namespace Mi
open PySem L2
theorem keeps_mix {bs : List Lip} {a b c : Int} {p q r : Int → Int} (ha : 0 ≤ a) (hb : 0 ≤ b) (hc : 0 ≤ c) (hp : Keeps bs 1 p) (hq : Keeps bs 1 q) (hr : Keeps bs 1 r) : Keeps bs (a + b + c) fun i => a * p i + b * q i + c * r i := by
  intro l hl
  have h1 := Int.mul_le_mul_of_nonneg_left (hp l hl) ha
  have h2 := Int.mul_le_mul_of_nonneg_left (hq l hl) hb
  have h3 := Int.mul_le_mul_of_nonneg_left (hr l hl) hc
  rw [Int.mul_one] at h1 h2 h3
  show a * p l.1 + b * q l.1 + c * r l.1 - (a * p l.2.1 + b * q l.2.1 + c * r l.2.1) ≤ l.2.2 * (a + b + c)
  have e1 : l.2.2 * (a + b + c) = a * l.2.2 + b * l.2.2 + c * l.2.2 := by grind
  rw [Int.mul_sub] at h1 h2 h3
  omega
theorem keeps_scale {bs : List Lip} {u k : Int} {p : Int → Int} (hk : 0 ≤ k) (hp : Keeps bs u p) : Keeps bs (u * k) fun i => p i * k := by
  intro l hl
  have h1 := Int.mul_le_mul_of_nonneg_right (hp l hl) hk
  show p l.1 * k - p l.2.1 * k ≤ l.2.2 * (u * k)
  rw [Int.sub_mul, Int.mul_assoc] at h1
  exact h1
theorem keeps_min {bs : List Lip} {u : Int} {p q : Int → Int} (hp : Keeps bs u p) (hq : Keeps bs u q) : Keeps bs u fun i => min (p i) (q i) := by
  intro l hl
  have h1 := hp l hl
  have h2 := hq l hl
  show min (p l.1) (q l.1) - min (p l.2.1) (q l.2.1) ≤ _
  omega
theorem keeps_max {bs : List Lip} {u : Int} {p q : Int → Int} (hp : Keeps bs u p) (hq : Keeps bs u q) : Keeps bs u fun i => max (p i) (q i) := by
  intro l hl
  have h1 := hp l hl
  have h2 := hq l hl
  show max (p l.1) (q l.1) - max (p l.2.1) (q l.2.1) ≤ _
  omega
end Mi
end
section
set_option Elab.async false
set_option linter.all false
set_option maxRecDepth 100000
set_option maxHeartbeats 2000000
/-! P21: does a row keep the bounds. -/
namespace Mi
open PySem L2
/-- spots in a row -/
def rowP (xs : List Int) : Int → Int := fun i => xs.getD i.toNat 0
def rowT (xs : List Int) : D := .tup (xs.map .int)
theorem rowT_ix {xs : List Int} {i : Int} (h0 : 0 ≤ i) (h1 : i < xs.length) : ixD (rowT xs) (.int i) = pur (.int (rowP xs i)) := by
  have e : ((i.toNat : Nat) : Int) = i := Int.toNat_of_nonneg h0
  have := ixK D.int xs i.toNat 0 (by omega)
  rw [e] at this
  exact this
theorem w_F42 {W n : Nat} {w u : Int} {ds : List Door} {ls : List Lip} {xs : List Int} (h : Shape w ds ls) (hl : xs.length = ds.length + 1) : ∃ b, callN TT W (n + 2) 42 [cupD w ds ls, .int u, rowT xs] = pur (.bl b) ∧ (b = true ↔ Keeps (bndP w ds ls) u (rowP xs)) := by
  have c := w_F31 (W := W) (n := n) (w := w) h.d1 h.l1
  let F := (bndL w ds ls).filter fun l => decide (l.2.2 * u < rowP xs l.1 - rowP xs l.2.1)
  obtain ⟨b, e1, e2⟩ := eqD_pl (n := 1) (m := 1) (x := .lst (F.map fun _ => .int 1)) (y := .lst []) (by
    show plL 0 _ = true
    rw [plL_all]
    intro x hx
    obtain ⟨_, _, rfl⟩ := List.mem_map.mp hx
    rfl) rfl (by omega) (by omega)
  refine ⟨b, callN_pur T42 rfl fun s => ?_, ?_⟩
  · show evB (callN TT W (n + 1)) W F42.body [.val (cupD w ds ls), .val (.int u), .val (rowT xs), .no, .no, .no, .no] s = _
    refine (B_nx (S_set (d := .lst (F.map fun _ => .int 1)) ?_)).trans (B_rt (S_ret ?_))
    · refine lc_ok (xs := bndL w ds ls) (cv := lipD) (p := fun l => decide (l.2.2 * u < rowP xs l.1 - rowP xs l.2.1)) (h := fun _ => .int 1) (by simp [ev_var, ev_own, ev_con, ev_glob, ev_bin, ev_rep, ev_neg, ev_cmp, ev_chain, ev_isn, ev_notn, ev_and, ev_or, ev_not, ev_ife, ev_tup, ev_lst, ev_mkb, ev_ix, ev_slice, ev_call, ev_bf, ev_isi, ev_isi2, ev_lrng, ev_lzip, ev_sset, ev_lset, evL_nil, evL_cons, evO_none, evO_some, evC_none, evC_some, evI_seq, evI_rng, evI_zip, evI_enum, sx, getV, frzE, Sl.frz, asB, asI, seqOf, c]) fun l hl' => ⟨_, rfl, ?_, fun _ => by simp [ev_var, ev_own, ev_con, ev_glob, ev_bin, ev_rep, ev_neg, ev_cmp, ev_chain, ev_isn, ev_notn, ev_and, ev_or, ev_not, ev_ife, ev_tup, ev_lst, ev_mkb, ev_ix, ev_slice, ev_call, ev_bf, ev_isi, ev_isi2, ev_lrng, ev_lzip, ev_sset, ev_lset, evL_nil, evL_cons, evO_none, evO_some, evC_none, evC_some, evI_seq, evI_rng, evI_zip, evI_enum, sx, getV, frzE, Sl.frz, asB, asI]⟩
      obtain ⟨k1, k2, k3, k4, k5, k6⟩ := bndP_ix h ((bndL_mem l).mp hl')
      simp [ev_var, ev_own, ev_con, ev_glob, ev_bin, ev_rep, ev_neg, ev_cmp, ev_chain, ev_isn, ev_notn, ev_and, ev_or, ev_not, ev_ife, ev_tup, ev_lst, ev_mkb, ev_ix, ev_slice, ev_call, ev_bf, ev_isi, ev_isi2, ev_lrng, ev_lzip, ev_sset, ev_lset, evL_nil, evL_cons, evO_none, evO_some, evC_none, evC_some, evI_seq, evI_rng, evI_zip, evI_enum, sx, getV, frzE, Sl.frz, asB, asI, wipeD, rowT_ix k1 (show l.1 < xs.length by omega), rowT_ix k3 (show l.2.1 < xs.length by omega), o_subI, o_mulI _ _ (.inl (show l.2.2.natAbs < 18446744073709551616 by omega)), c_gt]
    · simp [ev_var, ev_own, ev_con, ev_glob, ev_bin, ev_rep, ev_neg, ev_cmp, ev_chain, ev_isn, ev_notn, ev_and, ev_or, ev_not, ev_ife, ev_tup, ev_lst, ev_mkb, ev_ix, ev_slice, ev_call, ev_bf, ev_isi, ev_isi2, ev_lrng, ev_lzip, ev_sset, ev_lset, evL_nil, evL_cons, evO_none, evO_some, evC_none, evC_some, evI_seq, evI_rng, evI_zip, evI_enum, sx, getV, frzE, Sl.frz, asB, asI, c_eq, e1]
  · rw [e2, ← keeps_iff]
    constructor
    · intro q l hl'
      have q2 : F.map (fun _ => D.int 1) = [] := D.lst.inj q
      have q3 : F = [] := List.map_eq_nil_iff.mp q2
      rcases Int.lt_or_le (l.2.2 * u) (rowP xs l.1 - rowP xs l.2.1) with z | z
      · have : l ∈ F := List.mem_filter.mpr ⟨hl', by simpa using z⟩
        rw [q3] at this
        cases this
      · exact z
    · intro q
      have : F = [] := List.filter_eq_nil_iff.mpr fun l hl' => by
        have := q l hl'
        simp
        omega
      rw [this]
      rfl
end Mi
end
section
set_option Elab.async false
set_option linter.all false
set_option maxRecDepth 100000
set_option maxHeartbeats 2000000
/-! P22: rows told as fractions. -/
namespace Mi
open PySem L2
theorem w_F41 {n : Nat} {u : Int} {xs : List Int} (hu : 0 < u) (hs : u < 1000000000000000) (hx : ∀ x ∈ xs, 0 ≤ x) : callN TT WF (n + 2) 41 [.int u, rowT xs] = pur (.tup ((xs.drop 1).map fun x => fqD (redF x u))) := by
  refine callN_pur T41 rfl fun s => B_rt (S_ret ?_)
  show ev (callN TT WF (n + 1)) _ [.val (.int u), .val (rowT xs), .no] = _
  have cut : sliceD (rowT xs) (some 1) none = some (.tup ((xs.drop 1).map .int)) := by
    show some (D.tup (cutD (xs.map .int) (some 1) none)) = _
    rw [cut_tail, List.map_drop]
  rw [ev_bf, evL_cons]
  rw [lc_map (xs := xs.drop 1) (cv := D.int) (h := fun x => fqD (redF x u)) (by simp only [ev_var, ev_own, ev_con, ev_glob, ev_bin, ev_rep, ev_neg, ev_cmp, ev_chain, ev_isn, ev_notn, ev_and, ev_or, ev_not, ev_ife, ev_tup, ev_lst, ev_mkb, ev_ix, ev_slice, ev_call, ev_bf, ev_isi, ev_isi2, ev_lrng, ev_lzip, ev_sset, ev_lset, evL_nil, evL_cons, evO_none, evO_some, evC_none, evC_some, evI_seq, evI_rng, evI_zip, evI_enum, sx, getV, frzE, Sl.frz, asB, asI, List.getElem?_cons_zero, List.getElem?_cons_succ, bnd_pur, lif_some, cut, Option.map_some]; rfl) fun x hx' => ⟨_, rfl, ?_⟩]
  · simp [ev_var, ev_own, ev_con, ev_glob, ev_bin, ev_rep, ev_neg, ev_cmp, ev_chain, ev_isn, ev_notn, ev_and, ev_or, ev_not, ev_ife, ev_tup, ev_lst, ev_mkb, ev_ix, ev_slice, ev_call, ev_bf, ev_isi, ev_isi2, ev_lrng, ev_lzip, ev_sset, ev_lset, evL_nil, evL_cons, evO_none, evO_some, evC_none, evC_some, evI_seq, evI_rng, evI_zip, evI_enum, sx, getV, frzE, Sl.frz, asB, asI, b_tupL]
  · have h0 := hx x (List.mem_of_mem_drop hx')
    have c := w_F40 (W := WF) (n := n) x u h0 hu (by omega) (by show _ < 1000000000000000000000000000000; omega)
    simp [ev_var, ev_own, ev_con, ev_glob, ev_bin, ev_rep, ev_neg, ev_cmp, ev_chain, ev_isn, ev_notn, ev_and, ev_or, ev_not, ev_ife, ev_tup, ev_lst, ev_mkb, ev_ix, ev_slice, ev_call, ev_bf, ev_isi, ev_isi2, ev_lrng, ev_lzip, ev_sset, ev_lset, evL_nil, evL_cons, evO_none, evO_some, evC_none, evC_some, evI_seq, evI_rng, evI_zip, evI_enum, sx, getV, frzE, Sl.frz, asB, asI, wipeD, c]
end Mi
end
section
set_option Elab.async false
set_option linter.all false
set_option maxRecDepth 100000
set_option maxHeartbeats 2000000
/-! P23: worth. -/
namespace Mi
open PySem L2
theorem w_F45 {W n : Nat} (a b : Int) (hb : 0 < b) (hs : b < 10 ^ 40) (h : b.toNat < W) : callN TT W (n + 1) 45 [.int a, .int b] = pur (fqD (redF a b)) := by
  refine callN_pur T45 rfl fun s => ?_
  show evB (callN TT W n) W F45.body [.val (.int a), .val (.int b), .no, .no] s = _
  have e1 : ((b.toNat : Nat) : Int) = b := Int.toNat_of_nonneg (by omega)
  have e2 : (if a < 0 then -a else a) = (a.natAbs : Int) := by split <;> omega
  have hg : 0 < Nat.gcd a.natAbs b.toNat := Nat.gcd_pos_of_pos_right _ (by omega)
  have hl : Nat.gcd a.natAbs b.toNat ≤ b.toNat := Nat.le_of_dvd (by omega) (Nat.gcd_dvd_right _ _)
  have lg : (0 : Int) < ((Nat.gcd a.natAbs b.toNat : Nat) : Int) ∧ ((Nat.gcd a.natAbs b.toNat : Nat) : Int).natAbs.log2 < 9000 := by
    refine ⟨by omega, ?_⟩
    rw [Int.natAbs_natCast]
    rw [Nat.log2_lt (by omega)]
    have : b.toNat < 10 ^ 40 := by omega
    have p : (10 : Nat) ^ 40 ≤ 2 ^ 9000 := by
      calc (10 : Nat) ^ 40 ≤ 2 ^ 133 := by decide
        _ ≤ 2 ^ 9000 := Nat.pow_le_pow_right (by decide) (by decide)
    omega
  have lp := gcd_loop2 (Φ := callN TT W n) (W := W) (.val (.int a)) (.val (.int b)) W a.natAbs b.toNat s h
  rw [e1] at lp
  refine (B_nx (S_par (d1 := .int (a.natAbs : Nat)) (d2 := .int b) (by simp [ev_var, ev_own, ev_con, ev_glob, ev_bin, ev_rep, ev_neg, ev_cmp, ev_chain, ev_isn, ev_notn, ev_and, ev_or, ev_not, ev_ife, ev_tup, ev_lst, ev_mkb, ev_ix, ev_slice, ev_call, ev_bf, ev_isi, ev_isi2, ev_lrng, ev_lzip, ev_sset, ev_lset, evL_nil, evL_cons, evO_none, evO_some, evC_none, evC_some, evI_seq, evI_rng, evI_zip, evI_enum, sx, getV, frzE, Sl.frz, asB, asI, b_abs, e2]) (by simp [ev_var, ev_own, ev_con, ev_glob, ev_bin, ev_rep, ev_neg, ev_cmp, ev_chain, ev_isn, ev_notn, ev_and, ev_or, ev_not, ev_ife, ev_tup, ev_lst, ev_mkb, ev_ix, ev_slice, ev_call, ev_bf, ev_isi, ev_isi2, ev_lrng, ev_lzip, ev_sset, ev_lset, evL_nil, evL_cons, evO_none, evO_some, evC_none, evC_some, evI_seq, evI_rng, evI_zip, evI_enum, sx, getV, frzE, Sl.frz, asB, asI]))).trans ?_
  refine (B_nx (st := .while_ _ _) (s' := s) (ρ' := [.val (.int a), .val (.int b), .val (.int (Nat.gcd a.natAbs b.toNat : Nat)), .val (.int 0)]) ?_).trans ?_
  · rw [evS]
    exact lp
  · refine B_rt (S_ret ?_)
    simp [ev_var, ev_own, ev_con, ev_glob, ev_bin, ev_rep, ev_neg, ev_cmp, ev_chain, ev_isn, ev_notn, ev_and, ev_or, ev_not, ev_ife, ev_tup, ev_lst, ev_mkb, ev_ix, ev_slice, ev_call, ev_bf, ev_isi, ev_isi2, ev_lrng, ev_lzip, ev_sset, ev_lset, evL_nil, evL_cons, evO_none, evO_some, evC_none, evC_some, evI_seq, evI_rng, evI_zip, evI_enum, sx, getV, frzE, Sl.frz, asB, asI, o_divI _ _ lg, fqD, redF]
theorem w_F46 {W n : Nat} (f g : Fq) (h1 : Dn f) (h2 : Dn g) (hW : 1000000000000000000 < W) : callN TT W (n + 2) 46 [fqD f, fqD g] = pur (fqD (redF (f.1 * g.2 - g.1 * f.2) (f.2 * g.2))) := by
  refine callN_pur T46 rfl fun s => B_rt (S_ret ?_)
  show ev (callN TT W (n + 1)) _ [.val (fqD f), .val (fqD g)] = _
  have p : 0 < f.2 * g.2 := Int.mul_pos (by have := h1.1; omega) (by have := h2.1; omega)
  have q : f.2 * g.2 ≤ 1000000000 * 1000000000 := Int.mul_le_mul h1.2.1 h2.2.1 (by have := h2.1; omega) (by omega)
  have c := w_F45 (W := W) (n := n) (f.1 * g.2 - g.1 * f.2) (f.2 * g.2) p (by omega) (by omega)
  simp [ev_var, ev_own, ev_con, ev_glob, ev_bin, ev_rep, ev_neg, ev_cmp, ev_chain, ev_isn, ev_notn, ev_and, ev_or, ev_not, ev_ife, ev_tup, ev_lst, ev_mkb, ev_ix, ev_slice, ev_call, ev_bf, ev_isi, ev_isi2, ev_lrng, ev_lzip, ev_sset, ev_lset, evL_nil, evL_cons, evO_none, evO_some, evC_none, evC_some, evI_seq, evI_rng, evI_zip, evI_enum, sx, getV, frzE, Sl.frz, asB, asI, fqD, ix0, ix1, o_subI, o_mulI _ _ (.inr h1.abs), o_mulI _ _ (.inr h2.abs)]
  exact c
end Mi
end
section
set_option Elab.async false
set_option linter.all false
set_option maxRecDepth 100000
set_option maxHeartbeats 2000000
/-! P24: raised, lowered. -/
namespace Mi
open PySem L2
/-- a loop that goes on or returns -/
theorem forL_or {f : D → Ev → Sto → SR} (I : Nat → Ev → Sto → Prop) (R : D → Sto → Prop) : ∀ (ds : List D) (k : Nat) {ρ : Ev} {s : Sto}, I k ρ s → (∀ (i : Nat) d ρ s, ds[i]? = some d → I (k + i) ρ s → (∃ ρ' s', f d ρ s = .nx ρ' s' ∧ I (k + i + 1) ρ' s') ∨ ∃ v s', f d ρ s = .rt v s' ∧ R v s') →
    (∃ ρ' s', forL f ds ρ s = .nx ρ' s' ∧ I (k + ds.length) ρ' s') ∨ ∃ v s', forL f ds ρ s = .rt v s' ∧ R v s'
  | [], k, ρ, s, h, _ => .inl ⟨ρ, s, rfl, h⟩
  | d :: ds, k, ρ, s, h, st => by
    rcases st 0 d ρ s rfl h with ⟨ρ1, s1, e, h1⟩ | ⟨v, s1, e, h1⟩
    · rcases forL_or I R ds (k + 1) h1 (fun i d ρ s hd hi => by
        have := st (i + 1) d ρ s (by simpa using hd) (by rwa [show k + (i + 1) = k + 1 + i by omega])
        rwa [show k + (i + 1) + 1 = k + 1 + i + 1 by omega] at this) with ⟨ρ2, s2, e2, h2⟩ | ⟨v, s2, e2, h2⟩
      · refine .inl ⟨ρ2, s2, ?_, by rw [List.length_cons, show k + (ds.length + 1) = k + 1 + ds.length by omega]; exact h2⟩
        show (match f d ρ s with | .nx ρ' s' => forL f ds ρ' s' | .ct ρ' s' => forL f ds ρ' s' | .bk ρ' s' => .nx ρ' s' | r => r) = _
        rw [e]
        exact e2
      · refine .inr ⟨v, s2, ?_, h2⟩
        show (match f d ρ s with | .nx ρ' s' => forL f ds ρ' s' | .ct ρ' s' => forL f ds ρ' s' | .bk ρ' s' => .nx ρ' s' | r => r) = _
        rw [e]
        exact e2
    · refine .inr ⟨v, s1, ?_, h1⟩
      show (match f d ρ s with | .nx ρ' s' => forL f ds ρ' s' | .ct ρ' s' => forL f ds ρ' s' | .bk ρ' s' => .nx ρ' s' | r => r) = _
      rw [e]
section
variable {Φ : Nat → List D → M D} {W : Nat} {ρ : Ev} {s : Sto} {e b : CE} {d : D} {i : Nat}
theorem S_seto {xs : List D} (h : ev Φ e ρ = pur (.lst xs)) : evS Φ W (.seto i e) ρ s = .nx (ρ.set i (.own xs)) s := by
  rw [evS, h] <;> rfl
theorem S_setxo {k : Int} {xs ys : List D} (h : ev Φ e ρ = pur d) (ho : getO ρ i = some xs) (hb : ev Φ b ρ = pur (.int k)) (hs : setI xs k d = some ys) : evS Φ W (.setxo i b e) ρ s = .nx (ρ.set i (.own ys)) s := by
  rw [evS, h]
  show (match getO ρ i with | some xs => thn (ev Φ b ρ s) _ | none => SR.stuck) = _
  rw [ho]
  show thn (ev Φ b ρ s) _ = _
  rw [hb]
  show (match setI xs k d with | some ys => SR.nx (ρ.set i (.own ys)) s | none => .stuck) = _
  rw [hs]
end
theorem rowl_ix {zs : List Int} {i : Int} (h0 : 0 ≤ i) (h1 : i < zs.length) : ixD (.lst (zs.map .int)) (.int i) = pur (.int (rowP zs i)) := by
  have e : ((i.toNat : Nat) : Int) = i := Int.toNat_of_nonneg h0
  have := ixKl D.int zs i.toNat 0 (by omega)
  rw [e] at this
  exact this
theorem setI_int {zs : List Int} {i v : Int} (h0 : 0 ≤ i) (h1 : i < zs.length) : setI (zs.map .int) i (.int v) = some ((zs.set i.toNat v).map .int) := by
  unfold setI ixN
  rw [if_pos h0, if_pos (by rw [List.length_map]; exact h1), List.map_set] <;> rfl
theorem frz_own (Φ : Nat → List D → M D) (a b c d e f g h i : Sl) (zs : List D) : getV (frzE [a, b, c, d, .own zs, e, f, g, h, i]) 4 = some (.lst zs) := rfl
/-- what raising, lowering tells -/
def Mvd (bs : List Lip) (u : Int) (n : Nat) (r : D) : Prop := r = .non ∨ ∃ zs : List Int, r = rowT zs ∧ zs.length = n ∧ rowP zs 0 = 0 ∧ Keeps bs u (rowP zs)
theorem w_F32 {W n : Nat} {bs : List Lip} {u kk : Int} {xs : List Int} (hx : 0 < xs.length) (hx2 : xs.length ≤ 900) (hb : ∀ l ∈ bs, 0 ≤ l.1 ∧ l.1 < xs.length ∧ 0 ≤ l.2.1 ∧ l.2.1 < xs.length ∧ -100 ≤ l.2.2 ∧ l.2.2 ≤ 100) :
    ∀ s, ∃ r, callN TT W (n + 1) 32 [.lst (bs.map lipD), .int u, rowT xs, .int kk] s = .ok r s ∧ Mvd bs u xs.length r := by
  intro s
  let inb : CB := .cons (.iff (.cmp .gt (.bin .sub (.ix (.own 4) (.var 7)) (.ix (.own 4) (.var 8))) (.bin .mul (.var 9) (.var 1))) (.cons (.set 6 (.con (.bl false))) (.cons (.iff (.cmp .gt (.var 3) (.con (.int 0))) (.cons (.setxo 4 (.var 8) (.bin .sub (.ix (.own 4) (.var 7)) (.bin .mul (.var 9) (.var 1)))) .nil) (.cons (.setxo 4 (.var 7) (.bin .add (.ix (.own 4) (.var 8)) (.bin .mul (.var 9) (.var 1)))) .nil)) .nil)) .nil) .nil
  let E : List Int → Sl → Sl → Sl → Sl → Sl → Ev := fun zs x5 x6 x7 x8 x9 => [.val (.lst (bs.map lipD)), .val (.int u), .val (rowT xs), .val (.int kk), .own (zs.map .int), x5, x6, x7, x8, x9]
  let fi : D → Ev → Sto → SR := fun d ρ s => match tgt (.tp (.cons (.nm 7) (.cons (.nm 8) (.cons (.nm 9) .nil)))) d ρ with
    | some ρ' => evB (callN TT W n) W inb ρ' s
    | none => .stuck
  -- the inner loop
  have inner : ∀ (zs : List Int) (x5 x7 x8 x9 : Sl), zs.length = xs.length → ∃ (zs' : List Int) (g : Bool) (x7' x8' x9' : Sl), forL fi (bs.map lipD) (E zs x5 (.val (.bl true)) x7 x8 x9) s = .nx (E zs' x5 (.val (.bl g)) x7' x8' x9') s ∧ zs'.length = xs.length ∧ (g = true → Keeps bs u (rowP zs')) := by
    intro zs x5 x7 x8 x9 hz
    have lp := forL_inv (f := fi) (fun k ρ s' => s' = s ∧ ∃ (zs' : List Int) (g : Bool) (x7' x8' x9' : Sl), ρ = E zs' x5 (.val (.bl g)) x7' x8' x9' ∧ zs'.length = xs.length ∧ (g = true → ∀ l ∈ bs.take k, rowP zs' l.1 - rowP zs' l.2.1 ≤ l.2.2 * u)) (bs.map lipD) 0 (ρ := E zs x5 (.val (.bl true)) x7 x8 x9) (s := s) ⟨rfl, zs, true, x7, x8, x9, rfl, hz, fun _ l hl => by simp at hl⟩ ?_
    · obtain ⟨ρ', s', e, rfl, zs', g, x7', x8', x9', rfl, h1, h2⟩ := lp
      refine ⟨zs', g, x7', x8', x9', e, h1, fun hg l hl => h2 hg l ?_⟩
      rw [List.length_map, Nat.zero_add, List.take_of_length_le (Nat.le_refl _)]
      exact hl
    · rintro k d ρ s' hd' ⟨rfl, zs', g, x7', x8', x9', rfl, h1, h2⟩
      rw [Nat.zero_add] at *
      have hk : k < bs.length := by
        have := (List.getElem?_eq_some_iff.mp hd').1
        simpa using this
      obtain ⟨l, hl⟩ : ∃ l, bs[k]? = some l := ⟨_, List.getElem?_eq_getElem hk⟩
      have ed : d = lipD l := by
        rw [List.getElem?_map, hl] at hd'
        exact (Option.some.inj hd').symm
      subst ed
      have hm : l ∈ bs := List.mem_of_getElem? hl
      obtain ⟨k1, k2, k3, k4, k5, k6⟩ := hb l hm
      have tk : bs.take (k + 1) = bs.take k ++ [l] := by
        rw [List.take_add_one, hl] <;> rfl
      have r1 := rowl_ix (zs := zs') k1 (by omega)
      have r2 := rowl_ix (zs := zs') k3 (by omega)
      have mu := o_mulI l.2.2 u (.inl (by omega))
      let E' := E zs' x5 (.val (.bl g)) (.val (.int l.1)) (.val (.int l.2.1)) (.val (.int l.2.2))
      have cnd : ∀ q, decide (l.2.2 * u < rowP zs' l.1 - rowP zs' l.2.1) = q → ev (callN TT W n) (.cmp .gt (.bin .sub (.ix (.own 4) (.var 7)) (.ix (.own 4) (.var 8))) (.bin .mul (.var 9) (.var 1))) E' = pur (.bl q) := by
        intro q hq
        show ev _ _ [.val (.lst (bs.map lipD)), .val (.int u), .val (rowT xs), .val (.int kk), .own (zs'.map .int), x5, .val (.bl g), .val (.int l.1), .val (.int l.2.1), .val (.int l.2.2)] = _
        simp only [ev_var, ev_own, ev_con, ev_glob, ev_bin, ev_rep, ev_neg, ev_cmp, ev_chain, ev_isn, ev_notn, ev_and, ev_or, ev_not, ev_ife, ev_tup, ev_lst, ev_mkb, ev_ix, ev_slice, ev_call, ev_bf, ev_isi, ev_isi2, ev_lrng, ev_lzip, ev_sset, ev_lset, evL_nil, evL_cons, evO_none, evO_some, evC_none, evC_some, evI_seq, evI_rng, evI_zip, evI_enum, sx, getV, frzE, Sl.frz, asB, asI, getO, List.getElem?_cons_zero, List.getElem?_cons_succ, Option.map_some, bnd_pur, lif_some, r1, r2, mu, o_subI, c_gt, hq]
      show ∃ ρ' s'', evB (callN TT W n) W inb E' s' = _ ∧ _
      by_cases q : l.2.2 * u < rowP zs' l.1 - rowP zs' l.2.1
      · by_cases kp : 0 < kk
        · refine ⟨E (zs'.set l.2.1.toNat (rowP zs' l.1 - l.2.2 * u)) x5 (.val (.bl false)) (.val (.int l.1)) (.val (.int l.2.1)) (.val (.int l.2.2)), s', ?_, rfl, _, false, _, _, _, rfl, by rw [List.length_set]; exact h1, fun h => by cases h⟩
          refine (B_nx ((S_if1 (cnd true (by simp [q]))).trans ((B_nx (S_set (d := .bl false) (by simp [ev_var, ev_own, ev_con, ev_glob, ev_bin, ev_rep, ev_neg, ev_cmp, ev_chain, ev_isn, ev_notn, ev_and, ev_or, ev_not, ev_ife, ev_tup, ev_lst, ev_mkb, ev_ix, ev_slice, ev_call, ev_bf, ev_isi, ev_isi2, ev_lrng, ev_lzip, ev_sset, ev_lset, evL_nil, evL_cons, evO_none, evO_some, evC_none, evC_some, evI_seq, evI_rng, evI_zip, evI_enum, sx, getV, frzE, Sl.frz, asB, asI]))).trans ((B_nx ((S_if1 ?_).trans ((B_nx (S_setxo (xs := zs'.map .int) (d := .int (rowP zs' l.1 - l.2.2 * u)) (k := l.2.1) ?_ rfl ?_ (setI_int k3 (by omega)))).trans B_nil))).trans B_nil)))).trans B_nil
          · show ev _ _ [.val (.lst (bs.map lipD)), .val (.int u), .val (rowT xs), .val (.int kk), .own (zs'.map .int), x5, .val (.bl false), .val (.int l.1), .val (.int l.2.1), .val (.int l.2.2)] = _
            simp [ev_var, ev_own, ev_con, ev_glob, ev_bin, ev_rep, ev_neg, ev_cmp, ev_chain, ev_isn, ev_notn, ev_and, ev_or, ev_not, ev_ife, ev_tup, ev_lst, ev_mkb, ev_ix, ev_slice, ev_call, ev_bf, ev_isi, ev_isi2, ev_lrng, ev_lzip, ev_sset, ev_lset, evL_nil, evL_cons, evO_none, evO_some, evC_none, evC_some, evI_seq, evI_rng, evI_zip, evI_enum, sx, getV, frzE, Sl.frz, asB, asI, c_gt, kp]
          · show ev _ _ [.val (.lst (bs.map lipD)), .val (.int u), .val (rowT xs), .val (.int kk), .own (zs'.map .int), x5, .val (.bl false), .val (.int l.1), .val (.int l.2.1), .val (.int l.2.2)] = _
            simp only [ev_var, ev_own, ev_con, ev_glob, ev_bin, ev_rep, ev_neg, ev_cmp, ev_chain, ev_isn, ev_notn, ev_and, ev_or, ev_not, ev_ife, ev_tup, ev_lst, ev_mkb, ev_ix, ev_slice, ev_call, ev_bf, ev_isi, ev_isi2, ev_lrng, ev_lzip, ev_sset, ev_lset, evL_nil, evL_cons, evO_none, evO_some, evC_none, evC_some, evI_seq, evI_rng, evI_zip, evI_enum, sx, getV, frzE, Sl.frz, asB, asI, getO, List.getElem?_cons_zero, List.getElem?_cons_succ, Option.map_some, bnd_pur, lif_some, r1, r2, mu, o_subI]
          · show ev _ _ [.val (.lst (bs.map lipD)), .val (.int u), .val (rowT xs), .val (.int kk), .own (zs'.map .int), x5, .val (.bl false), .val (.int l.1), .val (.int l.2.1), .val (.int l.2.2)] = _
            simp [ev_var, ev_own, ev_con, ev_glob, ev_bin, ev_rep, ev_neg, ev_cmp, ev_chain, ev_isn, ev_notn, ev_and, ev_or, ev_not, ev_ife, ev_tup, ev_lst, ev_mkb, ev_ix, ev_slice, ev_call, ev_bf, ev_isi, ev_isi2, ev_lrng, ev_lzip, ev_sset, ev_lset, evL_nil, evL_cons, evO_none, evO_some, evC_none, evC_some, evI_seq, evI_rng, evI_zip, evI_enum, sx, getV, frzE, Sl.frz, asB, asI]
        · refine ⟨E (zs'.set l.1.toNat (rowP zs' l.2.1 + l.2.2 * u)) x5 (.val (.bl false)) (.val (.int l.1)) (.val (.int l.2.1)) (.val (.int l.2.2)), s', ?_, rfl, _, false, _, _, _, rfl, by rw [List.length_set]; exact h1, fun h => by cases h⟩
          refine (B_nx ((S_if1 (cnd true (by simp [q]))).trans ((B_nx (S_set (d := .bl false) (by simp [ev_var, ev_own, ev_con, ev_glob, ev_bin, ev_rep, ev_neg, ev_cmp, ev_chain, ev_isn, ev_notn, ev_and, ev_or, ev_not, ev_ife, ev_tup, ev_lst, ev_mkb, ev_ix, ev_slice, ev_call, ev_bf, ev_isi, ev_isi2, ev_lrng, ev_lzip, ev_sset, ev_lset, evL_nil, evL_cons, evO_none, evO_some, evC_none, evC_some, evI_seq, evI_rng, evI_zip, evI_enum, sx, getV, frzE, Sl.frz, asB, asI]))).trans ((B_nx ((S_if0 ?_).trans ((B_nx (S_setxo (xs := zs'.map .int) (d := .int (rowP zs' l.2.1 + l.2.2 * u)) (k := l.1) ?_ rfl ?_ (setI_int k1 (by omega)))).trans B_nil))).trans B_nil)))).trans B_nil
          · show ev _ _ [.val (.lst (bs.map lipD)), .val (.int u), .val (rowT xs), .val (.int kk), .own (zs'.map .int), x5, .val (.bl false), .val (.int l.1), .val (.int l.2.1), .val (.int l.2.2)] = _
            simp [ev_var, ev_own, ev_con, ev_glob, ev_bin, ev_rep, ev_neg, ev_cmp, ev_chain, ev_isn, ev_notn, ev_and, ev_or, ev_not, ev_ife, ev_tup, ev_lst, ev_mkb, ev_ix, ev_slice, ev_call, ev_bf, ev_isi, ev_isi2, ev_lrng, ev_lzip, ev_sset, ev_lset, evL_nil, evL_cons, evO_none, evO_some, evC_none, evC_some, evI_seq, evI_rng, evI_zip, evI_enum, sx, getV, frzE, Sl.frz, asB, asI, c_gt, kp]
          · show ev _ _ [.val (.lst (bs.map lipD)), .val (.int u), .val (rowT xs), .val (.int kk), .own (zs'.map .int), x5, .val (.bl false), .val (.int l.1), .val (.int l.2.1), .val (.int l.2.2)] = _
            simp only [ev_var, ev_own, ev_con, ev_glob, ev_bin, ev_rep, ev_neg, ev_cmp, ev_chain, ev_isn, ev_notn, ev_and, ev_or, ev_not, ev_ife, ev_tup, ev_lst, ev_mkb, ev_ix, ev_slice, ev_call, ev_bf, ev_isi, ev_isi2, ev_lrng, ev_lzip, ev_sset, ev_lset, evL_nil, evL_cons, evO_none, evO_some, evC_none, evC_some, evI_seq, evI_rng, evI_zip, evI_enum, sx, getV, frzE, Sl.frz, asB, asI, getO, List.getElem?_cons_zero, List.getElem?_cons_succ, Option.map_some, bnd_pur, lif_some, r1, r2, mu, o_addI]
          · show ev _ _ [.val (.lst (bs.map lipD)), .val (.int u), .val (rowT xs), .val (.int kk), .own (zs'.map .int), x5, .val (.bl false), .val (.int l.1), .val (.int l.2.1), .val (.int l.2.2)] = _
            simp [ev_var, ev_own, ev_con, ev_glob, ev_bin, ev_rep, ev_neg, ev_cmp, ev_chain, ev_isn, ev_notn, ev_and, ev_or, ev_not, ev_ife, ev_tup, ev_lst, ev_mkb, ev_ix, ev_slice, ev_call, ev_bf, ev_isi, ev_isi2, ev_lrng, ev_lzip, ev_sset, ev_lset, evL_nil, evL_cons, evO_none, evO_some, evC_none, evC_some, evI_seq, evI_rng, evI_zip, evI_enum, sx, getV, frzE, Sl.frz, asB, asI]
      · refine ⟨E', s', (B_nx ((S_if0 (cnd false (by simp [q]))).trans B_nil)).trans B_nil, rfl, zs', g, _, _, _, rfl, h1, fun hg l' hl' => ?_⟩
        rw [tk] at hl'
        rcases List.mem_append.mp hl' with hl' | hl'
        · exact h2 hg l' hl'
        · rcases List.mem_cons.mp hl' with rfl | hl'
          · omega
          · cases hl'
  let outb : CB := .cons (.set 6 (.con (.bl true))) (.cons (.for_ (.tp (.cons (.nm 7) (.cons (.nm 8) (.cons (.nm 9) .nil)))) (.seq (.var 0)) inb) (.cons (.iff (.var 6) (.cons (.ret (.ife (.cmp .eq (.ix (.var 4) (.con (.int 0))) (.con (.int 0))) (.bf .tuple (.cons (.var 4) .nil)) (.con .non))) .nil) .nil) .nil))
  let fo : D → Ev → Sto → SR := fun d ρ s => match tgt (.nm 5) d ρ with
    | some ρ' => evB (callN TT W n) W outb ρ' s
    | none => .stuck
  have hr := rng0 (m := xs.length + 2) (by omega)
  have e2 : ((xs.length + 2 : Nat) : Int) = (xs.length : Int) + 2 := by omega
  rw [e2] at hr
  have outer := forL_or (f := fo) (fun _ ρ s' => s' = s ∧ ∃ (zs : List Int) (x5 x6 x7 x8 x9 : Sl), ρ = E zs x5 x6 x7 x8 x9 ∧ zs.length = xs.length) (fun v s' => s' = s ∧ Mvd bs u xs.length v) ((List.range (xs.length + 2)).map fun (k : Nat) => D.int (k : Int)) 0 (ρ := E xs .no .no .no .no .no) (s := s) ⟨rfl, xs, _, _, _, _, _, rfl, rfl⟩ ?_
  · have front : ∀ r, evB (callN TT W n) W (.cons (.for_ (.nm 5) (.rng (.cons (.bin .add (.bf .len (.cons (.var 2) .nil)) (.con (.int 2))) .nil)) outb) (.cons (.ret (.con .non)) .nil)) (E xs .no .no .no .no .no) s = .rt r s → callN TT W (n + 1) 32 [.lst (bs.map lipD), .int u, rowT xs, .int kk] s = .ok r s := by
      intro r hr'
      refine callN_S T32 rfl ?_
      show evB (callN TT W n) W F32.body [.val (.lst (bs.map lipD)), .val (.int u), .val (rowT xs), .val (.int kk), .no, .no, .no, .no, .no, .no] s = _
      refine (B_nx (S_seto (xs := xs.map .int) ?_)).trans hr'
      simp [ev_var, ev_own, ev_con, ev_glob, ev_bin, ev_rep, ev_neg, ev_cmp, ev_chain, ev_isn, ev_notn, ev_and, ev_or, ev_not, ev_ife, ev_tup, ev_lst, ev_mkb, ev_ix, ev_slice, ev_call, ev_bf, ev_isi, ev_isi2, ev_lrng, ev_lzip, ev_sset, ev_lset, evL_nil, evL_cons, evO_none, evO_some, evC_none, evC_some, evI_seq, evI_rng, evI_zip, evI_enum, sx, getV, frzE, Sl.frz, asB, asI, bfn, rowT]
    have rg : evI (callN TT W n) (.rng (.cons (.bin .add (.bf .len (.cons (.var 2) .nil)) (.con (.int 2))) .nil)) (E xs .no .no .no .no .no) = pur ((List.range (xs.length + 2)).map fun (k : Nat) => D.int (k : Int)) := by
      show evI _ _ [.val (.lst (bs.map lipD)), .val (.int u), .val (rowT xs), .val (.int kk), .own (xs.map .int), .no, .no, .no, .no, .no] = _
      simp [ev_var, ev_own, ev_con, ev_glob, ev_bin, ev_rep, ev_neg, ev_cmp, ev_chain, ev_isn, ev_notn, ev_and, ev_or, ev_not, ev_ife, ev_tup, ev_lst, ev_mkb, ev_ix, ev_slice, ev_call, ev_bf, ev_isi, ev_isi2, ev_lrng, ev_lzip, ev_sset, ev_lset, evL_nil, evL_cons, evO_none, evO_some, evC_none, evC_some, evI_seq, evI_rng, evI_zip, evI_enum, sx, getV, frzE, Sl.frz, asB, asI, rowT, b_lenT, o_addI, hr]
    rcases outer with ⟨ρ', s', e, rfl, zs, x5, x6, x7, x8, x9, rfl, h1⟩ | ⟨v, s', e, rfl, h1⟩
    · refine ⟨.non, front _ ((B_nx ((S_for rg).trans e)).trans (B_rt (S_ret (by simp [ev_var, ev_own, ev_con, ev_glob, ev_bin, ev_rep, ev_neg, ev_cmp, ev_chain, ev_isn, ev_notn, ev_and, ev_or, ev_not, ev_ife, ev_tup, ev_lst, ev_mkb, ev_ix, ev_slice, ev_call, ev_bf, ev_isi, ev_isi2, ev_lrng, ev_lzip, ev_sset, ev_lset, evL_nil, evL_cons, evO_none, evO_some, evC_none, evC_some, evI_seq, evI_rng, evI_zip, evI_enum, sx, getV, frzE, Sl.frz, asB, asI])))), .inl rfl⟩
    · exact ⟨v, front _ (B_rt ((S_for rg).trans e)), h1⟩
  · rintro k d ρ s' hd' ⟨rfl, zs, x5, x6, x7, x8, x9, rfl, h1⟩
    obtain ⟨zs', g, x7', x8', x9', e, k1, k2⟩ := inner zs (.val d) x7 x8 x9 h1
    have sq : evI (callN TT W n) (.seq (.var 0)) (E zs (.val d) (.val (.bl true)) x7 x8 x9) = pur (bs.map lipD) := by
      show evI _ _ [.val (.lst (bs.map lipD)), .val (.int u), .val (rowT xs), .val (.int kk), .own (zs.map .int), .val d, .val (.bl true), x7, x8, x9] = _
      simp [ev_var, ev_own, ev_con, ev_glob, ev_bin, ev_rep, ev_neg, ev_cmp, ev_chain, ev_isn, ev_notn, ev_and, ev_or, ev_not, ev_ife, ev_tup, ev_lst, ev_mkb, ev_ix, ev_slice, ev_call, ev_bf, ev_isi, ev_isi2, ev_lrng, ev_lzip, ev_sset, ev_lset, evL_nil, evL_cons, evO_none, evO_some, evC_none, evC_some, evI_seq, evI_rng, evI_zip, evI_enum, sx, getV, frzE, Sl.frz, asB, asI, seqOf]
    have frt : ∀ r, evB (callN TT W n) W (.cons (.iff (.var 6) (.cons (.ret (.ife (.cmp .eq (.ix (.var 4) (.con (.int 0))) (.con (.int 0))) (.bf .tuple (.cons (.var 4) .nil)) (.con .non))) .nil) .nil) .nil) (E zs' (.val d) (.val (.bl g)) x7' x8' x9') s' = r → fo d (E zs x5 x6 x7 x8 x9) s' = r := by
      intro r hr'
      show evB (callN TT W n) W outb (E zs (.val d) x6 x7 x8 x9) s' = r
      exact (B_nx (S_set (d := .bl true) (by simp [ev_var, ev_own, ev_con, ev_glob, ev_bin, ev_rep, ev_neg, ev_cmp, ev_chain, ev_isn, ev_notn, ev_and, ev_or, ev_not, ev_ife, ev_tup, ev_lst, ev_mkb, ev_ix, ev_slice, ev_call, ev_bf, ev_isi, ev_isi2, ev_lrng, ev_lzip, ev_sset, ev_lset, evL_nil, evL_cons, evO_none, evO_some, evC_none, evC_some, evI_seq, evI_rng, evI_zip, evI_enum, sx, getV, frzE, Sl.frz, asB, asI]))).trans ((B_nx ((S_for sq).trans e)).trans hr')
    cases g with
    | false =>
      refine .inl ⟨E zs' (.val d) (.val (.bl false)) x7' x8' x9', s', frt _ ((B_nx ((S_if0 ?_).trans B_nil)).trans B_nil), rfl, zs', _, _, _, _, _, rfl, k1⟩
      show ev _ _ [.val (.lst (bs.map lipD)), .val (.int u), .val (rowT xs), .val (.int kk), .own (zs'.map .int), .val d, .val (.bl false), x7', x8', x9'] = _
      simp [ev_var, ev_own, ev_con, ev_glob, ev_bin, ev_rep, ev_neg, ev_cmp, ev_chain, ev_isn, ev_notn, ev_and, ev_or, ev_not, ev_ife, ev_tup, ev_lst, ev_mkb, ev_ix, ev_slice, ev_call, ev_bf, ev_isi, ev_isi2, ev_lrng, ev_lzip, ev_sset, ev_lset, evL_nil, evL_cons, evO_none, evO_some, evC_none, evC_some, evI_seq, evI_rng, evI_zip, evI_enum, sx, getV, frzE, Sl.frz, asB, asI]
    | true =>
      have i0 := rowl_ix (zs := zs') (i := 0) (by omega) (by omega)
      have cn : ev (callN TT W n) (.var 6) (E zs' (.val d) (.val (.bl true)) x7' x8' x9') = pur (.bl true) := by
        show ev _ _ [.val (.lst (bs.map lipD)), .val (.int u), .val (rowT xs), .val (.int kk), .own (zs'.map .int), .val d, .val (.bl true), x7', x8', x9'] = _
        simp [ev_var, ev_own, ev_con, ev_glob, ev_bin, ev_rep, ev_neg, ev_cmp, ev_chain, ev_isn, ev_notn, ev_and, ev_or, ev_not, ev_ife, ev_tup, ev_lst, ev_mkb, ev_ix, ev_slice, ev_call, ev_bf, ev_isi, ev_isi2, ev_lrng, ev_lzip, ev_sset, ev_lset, evL_nil, evL_cons, evO_none, evO_some, evC_none, evC_some, evI_seq, evI_rng, evI_zip, evI_enum, sx, getV, frzE, Sl.frz, asB, asI]
      have g4 : ∀ Φ, ev Φ (.var 4) (frzE (E zs' (.val d) (.val (.bl true)) x7' x8' x9')) = pur (.lst (zs'.map .int)) := fun Φ => by
        rw [ev_var]
        show lif (getV (frzE [.val (.lst (bs.map lipD)), .val (.int u), .val (rowT xs), .val (.int kk), .own (zs'.map .int), .val d, .val (.bl true), x7', x8', x9']) 4) = _
        rw [frz_own Φ] <;> rfl
      by_cases z : rowP zs' 0 = 0
      · refine .inr ⟨rowT zs', s', frt _ (B_rt ((S_if1 cn).trans (B_rt (S_ret ?_)))), rfl, .inr ⟨zs', rfl, k1, z, k2 rfl⟩⟩
        rw [ev_ife, ev_cmp, ev_ix, g4, bnd_pur, ev_con, bnd_pur, i0, bnd_pur, bnd_pur, c_eq, eqD_int]
        rw [show decide (rowP zs' 0 = 0) = true by simp [z]]
        show ev _ _ _ = _
        rw [ev_bf, evL_cons, g4] <;> rfl
      · refine .inr ⟨.non, s', frt _ (B_rt ((S_if1 cn).trans (B_rt (S_ret ?_)))), rfl, .inl rfl⟩
        rw [ev_ife, ev_cmp, ev_ix, g4, bnd_pur, ev_con, bnd_pur, i0, bnd_pur, bnd_pur, c_eq, eqD_int]
        rw [show decide (rowP zs' 0 = 0) = false by simp [z]] <;> rfl
end Mi
end
section
set_option Elab.async false
set_option linter.all false
set_option maxRecDepth 100000
set_option maxHeartbeats 2000000
/-! P25: least, greatest places; runs that change decks. -/
namespace Mi
open PySem L2
section
variable {Φ : Nat → List D → M D} {W : Nat} {ρ : Ev} {s s' s'' : Sto} {a b e : CE} {d d2 : D} {i j f : Nat} {es : CL} {xs : List D} {q : Bool} {r : Res D} {t : CT} {it : CI} {bd : CB}
theorem ev_callS (h : evL Φ es ρ = pur xs) (h2 : Φ f xs s = r) : ev Φ (.call f es) ρ s = r := by
  rw [ev_call, h, bnd_pur]
  exact h2
theorem ev_notnS (h : ev Φ a ρ s = .ok d s') : ev Φ (.notn a) ρ s = .ok (.bl (!isNon d)) s' := by
  rw [ev_notn, bnd_to h] <;> rfl
theorem ev_andS0 (h : ev Φ a ρ s = .ok (.bl false) s') : ev Φ (.and a b) ρ s = .ok (.bl false) s' := by
  rw [ev_and, bnd_to h] <;> rfl
theorem ev_andS1 (h : ev Φ a ρ s = .ok (.bl true) s') (h2 : ev Φ b ρ s' = .ok (.bl q) s'') : ev Φ (.and a b) ρ s = .ok (.bl q) s'' := by
  rw [ev_and, bnd_to h]
  show bnd (ev Φ b ρ) _ s' = _
  rw [bnd_to h2] <;> rfl
theorem S_parS (h1 : ev Φ a ρ s = .ok d s') (h2 : ev Φ b ρ s' = .ok d2 s'') : evS Φ W (.par2 i j false false a b) ρ s = .nx ((ρ.set i (.val d)).set j (.val d2)) s'' := by
  rw [evS, h1]
  show thn (ev Φ b ρ s') _ = _
  rw [h2] <;> rfl
theorem S_forS {ds : List D} (h : evI Φ it ρ s = .ok ds s') : evS Φ W (.for_ t it bd) ρ s = forL (fun d ρ s => match tgt t d ρ with
    | some ρ' => evB Φ W bd ρ' s
    | none => .stuck) ds ρ s' := by
  rw [evS, h] <;> rfl
theorem S_asgS {ρ' : Ev} (h : ev Φ e ρ s = .ok d s') (ht : tgt t d ρ = some ρ') : evS Φ W (.asg t e) ρ s = .nx ρ' s' := by
  rw [evS, h]
  show sto1 t d ρ s' = _
  unfold sto1
  rw [ht]
theorem S_if1T {a b : CB} {c : CE} (h : ev Φ c ρ s = .ok (.bl true) s') : evS Φ W (.iff c a b) ρ s = evB Φ W a ρ s' := by
  rw [evS, bnd_to h] <;> rfl
theorem S_if0T {a b : CB} {c : CE} (h : ev Φ c ρ s = .ok (.bl false) s') : evS Φ W (.iff c a b) ρ s = evB Φ W b ρ s' := by
  rw [evS, bnd_to h] <;> rfl
theorem nox_to {α : Type} {m : M α} {a : α} (h : m s = .ok a s') : nox m s = .ok a s' := by
  unfold nox
  rw [h]
theorem compL_st {F : D → M (List D)} {J : Nat → Sto → Prop} {P : D → Prop} : ∀ (ds : List D) (k : Nat) (s : Sto), J k s → (∀ (i : Nat) d s, ds[i]? = some d → J (k + i) s → ∃ v s', F d s = .ok [v] s' ∧ P v ∧ J (k + i + 1) s') →
    ∃ vs s', compL F ds s = .ok vs s' ∧ vs.length = ds.length ∧ (∀ v ∈ vs, P v) ∧ J (k + ds.length) s'
  | [], k, s, h, _ => ⟨[], s, rfl, rfl, (fun v h => by cases h), h⟩
  | d :: ds, k, s, h, st => by
    obtain ⟨v, s1, e1, p1, j1⟩ := st 0 d s rfl h
    obtain ⟨vs, s2, e2, l2, p2, j2⟩ := compL_st ds (k + 1) s1 j1 fun i d s hd hi => by
      have := st (i + 1) d s (by simpa using hd) (by rwa [show k + (i + 1) = k + 1 + i by omega])
      rwa [show k + (i + 1) + 1 = k + 1 + i + 1 by omega] at this
    refine ⟨v :: vs, s2, ?_, by rw [List.length_cons, List.length_cons, l2], fun x hx => ?_, by rw [List.length_cons, show k + (ds.length + 1) = k + 1 + ds.length by omega]; exact j2⟩
    · unfold compL
      rw [bnd_to e1, bnd_to e2] <;> rfl
    · rcases List.mem_cons.mp hx with rfl | hx
      · exact p1
      · exact p2 x hx
theorem lc_st {vs : List Nat} (J : Nat → Sto → Prop) (P : D → Prop) {ds : List D} {s0 : Sto} (hi : evI Φ it ρ s = .ok ds s0) (h0 : J 0 s0) (hs : ∀ (i : Nat) d s, ds[i]? = some d → J i s → ∃ ρ1 v s', tgt t d (wipeD ρ vs) = some ρ1 ∧ ev Φ e ρ1 s = .ok v s' ∧ P v ∧ J (i + 1) s') :
    ∃ xs s', ev Φ (.lc e t it .none vs) ρ s = .ok (.lst xs) s' ∧ xs.length = ds.length ∧ (∀ v ∈ xs, P v) ∧ J ds.length s' := by
  rw [ev, bnd_to hi]
  obtain ⟨xs, s', e1, l1, p1, j1⟩ := compL_st (F := fun d => bnd (lif (tgt t d (wipeD ρ vs))) fun ρ1 => bnd (evC Φ .none ρ1) fun k => match k with
      | true => bnd (ev Φ e ρ1) fun x => pur [x]
      | false => pur []) (J := J) (P := P) ds 0 s0 h0 fun i d s hd hj => by
    rw [Nat.zero_add] at *
    obtain ⟨ρ1, v, s', h1, h2, h3, h4⟩ := hs i d s hd hj
    refine ⟨v, s', ?_, h3, h4⟩
    rw [h1, lif_some, bnd_pur, evC_none, bnd_pur]
    show bnd (ev Φ e ρ1) _ s = _
    rw [bnd_to h2] <;> rfl
  rw [Nat.zero_add] at j1
  refine ⟨xs, s', ?_, l1, p1, j1⟩
  exact nox_to (bnd_to e1)
end
theorem ex_map {α : Type} {c : α → D} {P : α → Prop} : ∀ {vs : List D}, (∀ v ∈ vs, ∃ a, v = c a ∧ P a) → ∃ xs : List α, vs = xs.map c ∧ ∀ x ∈ xs, P x
  | [], _ => ⟨[], rfl, fun x h => by cases h⟩
  | v :: vs, h => by
    obtain ⟨a, rfl, p⟩ := h v List.mem_cons_self
    obtain ⟨xs, rfl, q⟩ := ex_map (c := c) (P := P) fun v hv => h v (List.mem_cons_of_mem _ hv)
    refine ⟨a :: xs, rfl, fun x hx => ?_⟩
    rcases List.mem_cons.mp hx with rfl | hx
    · exact p
    · exact q x hx
theorem rep_flat (a : Int) : ∀ k : Nat, (List.replicate k [D.int a]).flatten = (List.replicate k a).map .int
  | 0 => rfl
  | k + 1 => by rw [List.replicate_succ, List.flatten_cons, rep_flat a k, List.replicate_succ] <;> rfl
theorem o_mulT (a : List D) (b : Int) (h : b ≤ 1000 ∧ 2 ≤ b ∧ a.length ≤ 1000 ∧ a.isEmpty = false) : op2 .mul (.tup a) (.int b) = some (.tup (List.replicate b.toNat a).flatten) := if_pos h
theorem bndL_ix {w : Int} {ds : List Door} {ls : List Lip} (h : Shape w ds ls) {k : Nat} (hk : k = ds.length + 1) : ∀ l ∈ bndL w ds ls, 0 ≤ l.1 ∧ l.1 < k ∧ 0 ≤ l.2.1 ∧ l.2.1 < k ∧ -100 ≤ l.2.2 ∧ l.2.2 ≤ 100 := fun l hl => by
  obtain ⟨k1, k2, k3, k4, k5, k6⟩ := bndP_ix h ((bndL_mem l).mp hl)
  exact ⟨k1, by omega, k3, by omega, k5, k6⟩
theorem w_F33 {W n : Nat} {w u : Int} {ds : List Door} {ls : List Lip} (h : Shape w ds ls) : ∀ s, ∃ r, callN TT W (n + 2) 33 [cupD w ds ls, .int u] s = .ok r s ∧ Mvd (bndL w ds ls) u (ds.length + 1) r := by
  intro s
  have d0 := h.d0
  have d1 := h.d1
  let xs : List Int := List.replicate (ds.length + 1) 0
  have xl : xs.length = ds.length + 1 := List.length_replicate
  obtain ⟨r, c, m⟩ := w_F32 (W := W) (n := n) (bs := bndL w ds ls) (u := u) (kk := 1) (xs := xs) (by omega) (by omega) (bndL_ix h xl) s
  rw [xl] at m
  refine ⟨r, callN_S T33 rfl (B_rt (S_retS ?_)), m⟩
  have c31 := w_F31 (W := W) (n := n) (w := w) h.d1 h.l1
  have i0 : ixD (cupD w ds ls) (.int 0) = pur (.int w) := ix0 _ _
  have i1 : ixD (cupD w ds ls) (.int 1) = pur (.tup (ds.map doorD)) := ix1 _ _ _
  have mu := o_mulT [.int 0] ((ds.length : Int) + 1) ⟨by omega, by omega, by simp, rfl⟩
  rw [show ((ds.length : Int) + 1).toNat = ds.length + 1 by omega, rep_flat] at mu
  show ev (callN TT W (n + 1)) _ [.val (cupD w ds ls), .val (.int u)] s = _
  refine ev_callS (xs := [.lst ((bndL w ds ls).map lipD), .int u, rowT xs, .int 1]) ?_ c
  simp only [ev_var, ev_own, ev_con, ev_glob, ev_bin, ev_rep, ev_neg, ev_cmp, ev_chain, ev_isn, ev_notn, ev_and, ev_or, ev_not, ev_ife, ev_tup, ev_lst, ev_mkb, ev_ix, ev_slice, ev_call, ev_bf, ev_isi, ev_isi2, ev_lrng, ev_lzip, ev_sset, ev_lset, evL_nil, evL_cons, evO_none, evO_some, evC_none, evC_some, evI_seq, evI_rng, evI_zip, evI_enum, sx, getV, frzE, Sl.frz, asB, asI, List.getElem?_cons_zero, List.getElem?_cons_succ, bnd_pur, lif_some, c31, i1, b_lenT, List.length_map, o_addI, mu]
  rfl
theorem w_F34 {W n : Nat} {w u : Int} {ds : List Door} {ls : List Lip} (h : Shape w ds ls) : ∀ s, ∃ r, callN TT W (n + 2) 34 [cupD w ds ls, .int u] s = .ok r s ∧ Mvd (bndL w ds ls) u (ds.length + 1) r := by
  intro s
  have d0 := h.d0
  have d1 := h.d1
  have w0 := h.w0
  have w1 := h.w1
  let xs : List Int := 0 :: List.replicate ds.length (w * u)
  have xl : xs.length = ds.length + 1 := by simp [xs]
  obtain ⟨r, c, m⟩ := w_F32 (W := W) (n := n) (bs := bndL w ds ls) (u := u) (kk := -1) (xs := xs) (by omega) (by omega) (bndL_ix h xl) s
  rw [xl] at m
  refine ⟨r, callN_S T34 rfl (B_rt (S_retS ?_)), m⟩
  have c31 := w_F31 (W := W) (n := n) (w := w) h.d1 h.l1
  have i0 : ixD (cupD w ds ls) (.int 0) = pur (.int w) := ix0 _ _
  have i1 : ixD (cupD w ds ls) (.int 1) = pur (.tup (ds.map doorD)) := ix1 _ _ _
  have mu := o_mulT [.int (w * u)] (ds.length : Int) ⟨by omega, by omega, by simp, rfl⟩
  rw [show ((ds.length : Int)).toNat = ds.length by omega, rep_flat] at mu
  have ad := o_addT [.int 0] ((List.replicate ds.length (w * u)).map .int) (by rw [List.length_map, List.length_replicate]; show 1 + _ ≤ 16777216; omega)
  have mw := o_mulI w u (.inl (by omega))
  show ev (callN TT W (n + 1)) _ [.val (cupD w ds ls), .val (.int u)] s = _
  refine ev_callS (xs := [.lst ((bndL w ds ls).map lipD), .int u, rowT xs, .int (-1)]) ?_ c
  simp only [ev_var, ev_own, ev_con, ev_glob, ev_bin, ev_rep, ev_neg, ev_cmp, ev_chain, ev_isn, ev_notn, ev_and, ev_or, ev_not, ev_ife, ev_tup, ev_lst, ev_mkb, ev_ix, ev_slice, ev_call, ev_bf, ev_isi, ev_isi2, ev_lrng, ev_lzip, ev_sset, ev_lset, evL_nil, evL_cons, evO_none, evO_some, evC_none, evC_some, evI_seq, evI_rng, evI_zip, evI_enum, sx, getV, frzE, Sl.frz, asB, asI, List.getElem?_cons_zero, List.getElem?_cons_succ, bnd_pur, lif_some, c31, i0, i1, b_lenT, List.length_map, mw, mu, ad, Option.map_some]
  rfl
end Mi
end
section
set_option Elab.async false
set_option linter.all false
set_option maxRecDepth 100000
set_option maxHeartbeats 2000000
/-! P26: any cupboard. -/
namespace Mi
open PySem L2
theorem tupsOf_lips : ∀ ls : List Lip, tupsOf (ls.map lipD) = some (ls.map lipL)
  | [] => rfl
  | l :: ls => by
    rw [List.map_cons]
    unfold tupsOf
    rw [tupsOf_lips ls] <;> rfl
theorem insU_len (x : List Int) : ∀ l : List (List Int), (insU x l).length ≤ l.length + 1
  | [] => by simp [insU]
  | y :: r => by
    unfold insU
    split
    · simp
    · split
      · simp
      · have := insU_len x r
        simp
        omega
theorem sortU_len : ∀ l : List (List Int), (sortU l).length ≤ l.length
  | [] => by simp [sortU]
  | x :: r => by
    have := insU_len x (sortU r)
    have := sortU_len r
    unfold sortU
    simp
    omega
/-- sorted, each once -/
theorem sset_lips (ls : List Lip) (h : ls.length < 64) (w m : Int) (hk : ∀ l ∈ ls, LipOk w m l) : ∃ ls' : List Lip, ssetD (.tup (ls.map lipD)) = some (.lst (ls'.map lipD)) ∧ ls'.length ≤ ls.length ∧ (∀ l ∈ ls', LipOk w m l) ∧ (ls'.map lipL).Pairwise fun x y => HT.lexLt x y = true := by
  have pre : ∀ ts : List (List Int), (∀ t ∈ ts, ∃ l : Lip, t = lipL l ∧ LipOk w m l) → ∃ xs : List Lip, ts = xs.map lipL ∧ ∀ x ∈ xs, LipOk w m x := by
    intro ts
    induction ts with
    | nil => exact fun _ => ⟨[], rfl, fun x h => by cases h⟩
    | cons t ts ih =>
      intro h
      obtain ⟨l, rfl, p⟩ := h t List.mem_cons_self
      obtain ⟨xs, rfl, q⟩ := ih fun t ht => h t (List.mem_cons_of_mem _ ht)
      refine ⟨l :: xs, rfl, fun x hx => ?_⟩
      rcases List.mem_cons.mp hx with rfl | hx
      · exact p
      · exact q x hx
  obtain ⟨ls', e, q⟩ := pre (sortU (ls.map lipL)) fun t ht => by
    obtain ⟨l, hl, rfl⟩ := List.mem_map.mp (mem_sortU.mp ht)
    exact ⟨l, rfl, hk l hl⟩
  refine ⟨ls', ?_, ?_, q, ?_⟩
  · show ssetL (ls.map lipD) = _
    unfold ssetL
    rw [tupsOf_lips]
    have ne : ((ls.map lipL).all fun t => !t.isEmpty) = true := by
      rw [List.all_eq_true]
      intro t ht
      obtain ⟨l, _, rfl⟩ := List.mem_map.mp ht
      rfl
    show (if (ls.map lipL).length < 64 ∧ ((ls.map lipL).all fun t => !t.isEmpty) = true then _ else none) = _
    rw [if_pos ⟨by rw [List.length_map]; exact h, ne⟩, e, List.map_map] <;> rfl
  · have := sortU_len (ls.map lipL)
    rw [e, List.length_map, List.length_map] at this
    exact this
  · rw [← e]
    exact sortU_st
theorem w_F36 {W n : Nat} {s : Sto} {l : Nat} {T w : Int} {m : Nat} (hd : Dk s l T) (hT : T < 850000000) (h2 : 2 ≤ w) (h5 : w ≤ 5) (m2 : 2 ≤ m) (m3 : m ≤ 3) :
    ∃ (ds : List Door) (ls : List Lip) (s' : Sto), callN TT W (n + 3) 36 [.box l, .int w, .int (m : Int)] s = .ok (cupD w ds ls) s' ∧ Shape w ds ls ∧ ds.length = m ∧ Dk s' l (T + 20) := by
  -- doors
  have hr := rng0 (m := m) (by omega)
  obtain ⟨vs, s1, e1, l1, p1, j1⟩ := lc_st (Φ := callN TT W (n + 2)) (ρ := [.val (.box l), .val (.int w), .val (.int (m : Int)), .no, .no, .no, .no, .no, .no]) (s := s) (e := .call 35 (.cons (.var 0) (.cons (.var 1) .nil))) (t := .nm 5) (it := .rng (.cons (.var 2) .nil)) (vs := [5])
    (fun k s => Dk s l (T + 2 * (k : Int))) (fun v => ∃ d, v = doorD d ∧ DoorOk w d) (ds := (List.range m).map fun (k : Nat) => D.int (k : Int)) (s0 := s) (by simp [ev_var, ev_own, ev_con, ev_glob, ev_bin, ev_rep, ev_neg, ev_cmp, ev_chain, ev_isn, ev_notn, ev_and, ev_or, ev_not, ev_ife, ev_tup, ev_lst, ev_mkb, ev_ix, ev_slice, ev_call, ev_bf, ev_isi, ev_isi2, ev_lrng, ev_lzip, ev_sset, ev_lset, evL_nil, evL_cons, evO_none, evO_some, evC_none, evC_some, evI_seq, evI_rng, evI_zip, evI_enum, sx, getV, frzE, Sl.frz, asB, asI, hr, pur]) (by simpa using hd) fun i d s' hi hj => by
      have hi' : i < m := by
        have := (List.getElem?_eq_some_iff.mp hi).1
        simpa using this
      obtain ⟨dd, s2, c, ok, dk⟩ := w_F35 (W := W) (n := n) hj (by omega) h2 h5
      refine ⟨_, doorD dd, s2, rfl, ?_, ⟨dd, rfl, ok⟩, dk.mono (by omega)⟩
      exact ev_callS (xs := [.box l, .int w]) (by simp [ev_var, ev_own, ev_con, ev_glob, ev_bin, ev_rep, ev_neg, ev_cmp, ev_chain, ev_isn, ev_notn, ev_and, ev_or, ev_not, ev_ife, ev_tup, ev_lst, ev_mkb, ev_ix, ev_slice, ev_call, ev_bf, ev_isi, ev_isi2, ev_lrng, ev_lzip, ev_sset, ev_lset, evL_nil, evL_cons, evO_none, evO_some, evC_none, evC_some, evI_seq, evI_rng, evI_zip, evI_enum, sx, getV, frzE, Sl.frz, asB, asI, wipeD]) c
  obtain ⟨ds, rfl, dok⟩ := ex_map p1
  rw [List.length_map, List.length_map, List.length_range] at l1
  rw [List.length_map, List.length_range] at j1
  -- how many lips
  obtain ⟨v, s2, c2, v0, v1, d2⟩ := w_F29 (W := W) (n := n + 1) (z := 4) j1 (by omega) (by omega) (by omega)
  obtain ⟨k, rfl⟩ : ∃ k : Nat, v = (k : Int) := ⟨v.toNat, by omega⟩
  have hr2 := rng0 (m := k) (by omega)
  let body : CB := .cons (.set 7 (.call 29 (.cons (.var 0) (.cons (.var 2) .nil)))) (.cons (.set 8 (.bin .mod (.bf .int (.cons (.bin .add (.bin .add (.var 7) (.con (.int 1))) (.call 29 (.cons (.var 0) (.cons (.bin .sub (.var 2) (.con (.int 1))) .nil)))) .nil)) (.var 2))) (.cons (.set 4 (.bin .add (.var 4) (.tup (.cons (.tup (.cons (.var 7) (.cons (.var 8) (.cons (.bin .sub (.call 29 (.cons (.var 0) (.cons (.bin .add (.var 1) (.con (.int 2))) .nil))) (.con (.int 1))) .nil)))) .nil)))) .nil))
  let E : List Lip → Sl → Sl → Sl → Sl → Ev := fun ls x5 x6 x7 x8 => [.val (.box l), .val (.int w), .val (.int (m : Int)), .val (.tup (ds.map doorD)), .val (.tup (ls.map lipD)), x5, x6, x7, x8]
  have lp := forL_inv (f := fun d ρ s => match tgt (.nm 6) d ρ with
      | some ρ' => evB (callN TT W (n + 2)) W body ρ' s
      | none => .stuck) (fun i ρ s => Dk s l (T + 7 + 3 * (i : Int)) ∧ ∃ (ls : List Lip) (x5 x6 x7 x8 : Sl), ρ = E ls x5 x6 x7 x8 ∧ ls.length = i ∧ ∀ q ∈ ls, LipOk w m q) ((List.range k).map fun (k : Nat) => D.int (k : Int)) 0 (ρ := E [] .no .no .no .no) (s := s2) ⟨d2.mono (by omega), [], _, _, _, _, rfl, rfl, fun q h => by cases h⟩ ?_
  · obtain ⟨ρ', s3, e3, d3, ls, x5, x6, x7, x8, rfl, ll, lok⟩ := lp
    rw [List.length_map, List.length_range, Nat.zero_add] at ll d3
    obtain ⟨ls', ss, sl, sk, st⟩ := sset_lips ls (by omega) w m lok
    refine ⟨ds, ls', s3, callN_S T36 rfl ?_, ⟨h2, h5, by omega, by omega, dok, by omega, by rw [l1]; exact sk, st⟩, l1, d3.mono (by omega)⟩
    show evB (callN TT W (n + 2)) W F36.body [.val (.box l), .val (.int w), .val (.int (m : Int)), .no, .no, .no, .no, .no, .no] s = _
    refine (B_nx (S_parS (d := .tup (ds.map doorD)) (s' := s1) (d2 := .tup []) (s'' := s1) ?_ (by simp [ev_var, ev_own, ev_con, ev_glob, ev_bin, ev_rep, ev_neg, ev_cmp, ev_chain, ev_isn, ev_notn, ev_and, ev_or, ev_not, ev_ife, ev_tup, ev_lst, ev_mkb, ev_ix, ev_slice, ev_call, ev_bf, ev_isi, ev_isi2, ev_lrng, ev_lzip, ev_sset, ev_lset, evL_nil, evL_cons, evO_none, evO_some, evC_none, evC_some, evI_seq, evI_rng, evI_zip, evI_enum, sx, getV, frzE, Sl.frz, asB, asI, pur]))).trans ?_
    · rw [ev_bf, evL_cons, evL_nil, bnd_assoc, bnd_to e1] <;> rfl
    · refine (B_nx ((S_forS (s' := s2) (ds := (List.range k).map fun (k : Nat) => D.int (k : Int)) ?_).trans e3)).trans (B_rt (S_ret ?_))
      · show evI _ _ [.val (.box l), .val (.int w), .val (.int (m : Int)), .val (.tup (ds.map doorD)), .val (.tup []), .no, .no, .no, .no] s1 = _
        simp [ev_var, ev_own, ev_con, ev_glob, ev_bin, ev_rep, ev_neg, ev_cmp, ev_chain, ev_isn, ev_notn, ev_and, ev_or, ev_not, ev_ife, ev_tup, ev_lst, ev_mkb, ev_ix, ev_slice, ev_call, ev_bf, ev_isi, ev_isi2, ev_lrng, ev_lzip, ev_sset, ev_lset, evL_nil, evL_cons, evO_none, evO_some, evC_none, evC_some, evI_seq, evI_rng, evI_zip, evI_enum, sx, getV, frzE, Sl.frz, asB, asI, bnd_assoc, bnd_to c2, hr2, pur_at]
      · show ev _ _ [.val (.box l), .val (.int w), .val (.int (m : Int)), .val (.tup (ds.map doorD)), .val (.tup (ls.map lipD)), x5.frz, x6.frz, x7.frz, x8.frz] = _
        simp [ev_var, ev_own, ev_con, ev_glob, ev_bin, ev_rep, ev_neg, ev_cmp, ev_chain, ev_isn, ev_notn, ev_and, ev_or, ev_not, ev_ife, ev_tup, ev_lst, ev_mkb, ev_ix, ev_slice, ev_call, ev_bf, ev_isi, ev_isi2, ev_lrng, ev_lzip, ev_sset, ev_lset, evL_nil, evL_cons, evO_none, evO_some, evC_none, evC_some, evI_seq, evI_rng, evI_zip, evI_enum, sx, getV, frzE, Sl.frz, asB, asI, ss, b_tupL, cupD]
  · rintro i d ρ s' hi ⟨dk, ls, x5, x6, x7, x8, rfl, ll, lok⟩
    have hi' : i < k := by
      have := (List.getElem?_eq_some_iff.mp hi).1
      simpa using this
    rw [Nat.zero_add] at *
    obtain ⟨a, s3, c3, a0, a1, d3⟩ := w_F29 (W := W) (n := n + 1) (z := (m : Int)) dk (by omega) (by omega) (by omega)
    obtain ⟨b, s4, c4, b0, b1, d4⟩ := w_F29 (W := W) (n := n + 1) (z := (m : Int) - 1) d3 (by omega) (by omega) (by omega)
    obtain ⟨c, s5, c5, g0, g1, d5⟩ := w_F29 (W := W) (n := n + 1) (z := w + 2) d4 (by omega) (by omega) (by omega)
    have md := o_modI (a + 1 + b) (m : Int) (by omega)
    have ad := o_addT (ls.map lipD) [lipD (a, (a + 1 + b) % (m : Int), c - 1)] (by rw [List.length_map]; show _ + 1 ≤ 16777216; omega)
    refine ⟨E (ls ++ [(a, (a + 1 + b) % (m : Int), c - 1)]) x5 (.val d) (.val (.int a)) (.val (.int ((a + 1 + b) % (m : Int)))), s5, ?_, d5.mono (by omega), _, _, _, _, _, rfl, by rw [List.length_append, ll] <;> rfl, ?_⟩
    · show evB _ _ body [.val (.box l), .val (.int w), .val (.int (m : Int)), .val (.tup (ds.map doorD)), .val (.tup (ls.map lipD)), x5, .val d, x7, x8] s' = _
      refine (B_nx (S_setS (d := .int a) (s' := s3) ?_)).trans ((B_nx (S_setS (d := .int ((a + 1 + b) % (m : Int))) (s' := s4) ?_)).trans ((B_nx (S_setS (d := .tup (ls.map lipD ++ [lipD (a, (a + 1 + b) % (m : Int), c - 1)])) (s' := s5) ?_)).trans (B_nil.trans ?_)))
      · exact ev_callS (xs := [.box l, .int (m : Int)]) (by simp [ev_var, ev_own, ev_con, ev_glob, ev_bin, ev_rep, ev_neg, ev_cmp, ev_chain, ev_isn, ev_notn, ev_and, ev_or, ev_not, ev_ife, ev_tup, ev_lst, ev_mkb, ev_ix, ev_slice, ev_call, ev_bf, ev_isi, ev_isi2, ev_lrng, ev_lzip, ev_sset, ev_lset, evL_nil, evL_cons, evO_none, evO_some, evC_none, evC_some, evI_seq, evI_rng, evI_zip, evI_enum, sx, getV, frzE, Sl.frz, asB, asI]) c3
      · show ev _ _ [.val (.box l), .val (.int w), .val (.int (m : Int)), .val (.tup (ds.map doorD)), .val (.tup (ls.map lipD)), x5, .val d, .val (.int a), x8] s3 = _
        simp [ev_var, ev_own, ev_con, ev_glob, ev_bin, ev_rep, ev_neg, ev_cmp, ev_chain, ev_isn, ev_notn, ev_and, ev_or, ev_not, ev_ife, ev_tup, ev_lst, ev_mkb, ev_ix, ev_slice, ev_call, ev_bf, ev_isi, ev_isi2, ev_lrng, ev_lzip, ev_sset, ev_lset, evL_nil, evL_cons, evO_none, evO_some, evC_none, evC_some, evI_seq, evI_rng, evI_zip, evI_enum, sx, getV, frzE, Sl.frz, asB, asI, bnd_assoc, bnd_to c4, o_addI, o_subI, b_int, md, pur_at]
      · show ev _ _ [.val (.box l), .val (.int w), .val (.int (m : Int)), .val (.tup (ds.map doorD)), .val (.tup (ls.map lipD)), x5, .val d, .val (.int a), .val (.int ((a + 1 + b) % (m : Int)))] s4 = _
        have ad' : op2 .add (.tup (ls.map lipD)) (.tup [.tup [.int a, .int ((a + 1 + b) % (m : Int)), .int (c - 1)]]) = _ := ad
        simp only [ev_var, ev_own, ev_con, ev_glob, ev_bin, ev_rep, ev_neg, ev_cmp, ev_chain, ev_isn, ev_notn, ev_and, ev_or, ev_not, ev_ife, ev_tup, ev_lst, ev_mkb, ev_ix, ev_slice, ev_call, ev_bf, ev_isi, ev_isi2, ev_lrng, ev_lzip, ev_sset, ev_lset, evL_nil, evL_cons, evO_none, evO_some, evC_none, evC_some, evI_seq, evI_rng, evI_zip, evI_enum, sx, getV, frzE, Sl.frz, asB, asI, List.getElem?_cons_zero, List.getElem?_cons_succ, bnd_pur, lif_some, bnd_assoc, bnd_to c5, o_addI, o_subI, ad', pur_at]
      · show SR.nx [.val (.box l), .val (.int w), .val (.int (m : Int)), .val (.tup (ds.map doorD)), .val (.tup (ls.map lipD ++ [lipD (a, (a + 1 + b) % (m : Int), c - 1)])), x5, .val d, .val (.int a), .val (.int ((a + 1 + b) % (m : Int)))] s5 = _
        have e : ls.map lipD ++ [lipD (a, (a + 1 + b) % (m : Int), c - 1)] = (ls ++ [(a, (a + 1 + b) % (m : Int), c - 1)]).map lipD := by rw [List.map_append] <;> rfl
        rw [e]
    · intro q hq
      rcases List.mem_append.mp hq with hq | hq
      · exact lok q hq
      · rcases List.mem_cons.mp hq with rfl | hq
        · have m23 : m = 2 ∨ m = 3 := by omega
          refine ⟨a0, by show a ≤ (m : Int) - 1; omega, ?_, ?_, ?_, by show -w ≤ c - 1; omega, by show c - 1 ≤ w; omega⟩
          · show 0 ≤ (a + 1 + b) % (m : Int)
            exact Int.emod_nonneg _ (by omega)
          · show (a + 1 + b) % (m : Int) ≤ (m : Int) - 1
            have := Int.emod_lt_of_pos (a + 1 + b) (show (0 : Int) < m by omega)
            omega
          · show a ≠ (a + 1 + b) % (m : Int)
            rcases m23 with rfl | rfl
            · show a ≠ (a + 1 + b) % 2
              have : (((2 : Nat) : Int)) = 2 := rfl
              omega
            · show a ≠ (a + 1 + b) % 3
              have : (((3 : Nat) : Int)) = 3 := rfl
              omega
        · cases hq
end Mi
end
section
set_option Elab.async false
set_option linter.all false
set_option maxRecDepth 100000
set_option maxHeartbeats 2000000
/-! P27: a cupboard that stands. -/
namespace Mi
open PySem L2
theorem cup_of_lows {w : Int} {ds : List Door} {ls : List Lip} {zs : List Int} (h : Shape w ds ls) (hl : zs.length = ds.length + 1) (hz : rowP zs 0 = 0) (hk : Keeps (bndL w ds ls) 1 (rowP zs)) : CupOk w ds ls := by
  have kp := keeps_iff.mp hk
  refine ⟨h, rowP zs, kp, fun i => ?_⟩
  have key : ∀ k : Nat, 0 ≤ zs.getD k 0 ∧ zs.getD k 0 ≤ 100 := by
    intro k
    by_cases q : k ≤ ds.length
    · have := keeps_range (p := rowP zs) h (by decide : (0 : Int) < 1) hz kp k q
      have e : rowP zs (k : Int) = zs.getD k 0 := by
        unfold rowP
        rw [Int.toNat_natCast]
      rw [e] at this
      omega
    · rw [List.getD_eq_getElem?_getD, List.getElem?_eq_none (by omega)]
      show (0 : Int) ≤ 0 ∧ (0 : Int) ≤ 100
      omega
  exact key i.toNat
theorem w_F37 {W n : Nat} {s : Sto} {l : Nat} {T mo ma : Int} (hd : Dk s l T) (hT : T < 800000000) (m0 : 2 ≤ mo) (m1 : mo ≤ 5) (k0 : 2 ≤ ma) (k1 : ma ≤ 3) :
    ∃ (w : Int) (ds : List Door) (ls : List Lip) (s' : Sto), callN TT W (n + 4) 37 [.box l, .int mo, .int ma] s = .ok (cupD w ds ls) s' ∧ CupOk w ds ls ∧ Dk s' l (T + 300) := by
  let body : CB := .cons (.set 4 (.call 36 (.cons (.var 0) (.cons (.bin .add (.con (.int 2)) (.call 29 (.cons (.var 0) (.cons (.bin .sub (.var 1) (.con (.int 1))) .nil)))) (.cons (.bin .add (.con (.int 2)) (.call 29 (.cons (.var 0) (.cons (.bin .sub (.var 2) (.con (.int 1))) .nil)))) .nil))))) (.cons (.iff (.and (.notn (.call 33 (.cons (.var 4) (.cons (.con (.int 1)) .nil)))) (.notn (.call 34 (.cons (.var 4) (.cons (.con (.int 1)) .nil))))) (.cons (.ret (.var 4)) .nil) .nil) .nil)
  have hr := rng0 (m := 12) (by omega)
  let E : Sl → Sl → Ev := fun x3 x4 => [.val (.box l), .val (.int mo), .val (.int ma), x3, x4]
  have lp := forL_or (f := fun d ρ s => match tgt (.nm 3) d ρ with
      | some ρ' => evB (callN TT W (n + 3)) W body ρ' s
      | none => .stuck) (fun i ρ s => Dk s l (T + 22 * (i : Int)) ∧ ∃ x3 x4 : Sl, ρ = E x3 x4) (fun v s' => ∃ w ds ls, v = cupD w ds ls ∧ CupOk w ds ls ∧ Dk s' l (T + 300)) ((List.range 12).map fun (k : Nat) => D.int (k : Int)) 0 (ρ := E .no .no) (s := s) ⟨by simpa using hd, _, _, rfl⟩ ?_
  · have it : evI (callN TT W (n + 3)) (.rng (.cons (.con (.int 12)) .nil)) (E .no .no) s = .ok ((List.range 12).map fun (k : Nat) => D.int (k : Int)) s := by
      show evI _ _ [.val (.box l), .val (.int mo), .val (.int ma), .no, .no] s = _
      have hr' : rngD 0 12 = _ := hr
      simp only [ev_var, ev_own, ev_con, ev_glob, ev_bin, ev_rep, ev_neg, ev_cmp, ev_chain, ev_isn, ev_notn, ev_and, ev_or, ev_not, ev_ife, ev_tup, ev_lst, ev_mkb, ev_ix, ev_slice, ev_call, ev_bf, ev_isi, ev_isi2, ev_lrng, ev_lzip, ev_sset, ev_lset, evL_nil, evL_cons, evO_none, evO_some, evC_none, evC_some, evI_seq, evI_rng, evI_zip, evI_enum, sx, getV, frzE, Sl.frz, asB, asI, bnd_pur, hr', lif_some, pur_at]
    rcases lp with ⟨ρ', s', e, dk, x3, x4, rfl⟩ | ⟨v, s', e, w, ds, ls, rfl, ok, dk⟩
    · rw [List.length_map, List.length_range, Nat.zero_add] at dk
      refine ⟨4, [(0, 2), (1, 2)], [(1, 0, 1)], s', callN_S T37 rfl ((B_nx ((S_forS it).trans e)).trans (B_rt (S_ret ?_))), ⟨⟨by decide, by decide, by decide, by decide, ?_, by decide, ?_, ?_⟩, fun _ => 0, ?_, fun i => ⟨Int.le_refl 0, by show (0 : Int) ≤ 100; decide⟩⟩, dk.mono (by omega)⟩
      · simp [ev_var, ev_own, ev_con, ev_glob, ev_bin, ev_rep, ev_neg, ev_cmp, ev_chain, ev_isn, ev_notn, ev_and, ev_or, ev_not, ev_ife, ev_tup, ev_lst, ev_mkb, ev_ix, ev_slice, ev_call, ev_bf, ev_isi, ev_isi2, ev_lrng, ev_lzip, ev_sset, ev_lset, evL_nil, evL_cons, evO_none, evO_some, evC_none, evC_some, evI_seq, evI_rng, evI_zip, evI_enum, sx, getV, frzE, Sl.frz, asB, asI, cupD, doorD, lipD]
      · intro d hd'
        simp only [List.mem_cons, List.not_mem_nil, or_false] at hd'
        rcases hd' with rfl | rfl <;> exact ⟨by decide, by decide, by decide, by decide⟩
      · intro q hq
        simp only [List.mem_cons, List.not_mem_nil, or_false] at hq
        subst hq
        exact ⟨by decide, by decide, by decide, by decide, by decide, by decide, by decide⟩
      · exact List.pairwise_singleton _ _
      · intro q hq
        have : ∀ q ∈ bndP 4 [(0, 2), (1, 2)] [(1, 0, 1)], (0 : Int) ≤ q.2.2 := by decide
        have := this q hq
        show (0 : Int) - 0 ≤ q.2.2 * 1
        omega
    · exact ⟨w, ds, ls, s', callN_S T37 rfl (B_rt ((S_forS it).trans e)), ok, dk⟩
  · rintro i d ρ s' hi ⟨dk, x3, x4, rfl⟩
    have hi' : i < 12 := by
      have := (List.getElem?_eq_some_iff.mp hi).1
      simpa using this
    rw [Nat.zero_add] at *
    obtain ⟨a, s1, c1, a0, a1, d1⟩ := w_F29 (W := W) (n := n + 2) (z := mo - 1) dk (by omega) (by omega) (by omega)
    obtain ⟨b, s2, c2, b0, b1, d2⟩ := w_F29 (W := W) (n := n + 2) (z := ma - 1) d1 (by omega) (by omega) (by omega)
    obtain ⟨k, rfl⟩ : ∃ k : Nat, b = (k : Int) := ⟨b.toNat, by omega⟩
    obtain ⟨ds, ls, s3, c3, sh, ld, d3⟩ := w_F36 (W := W) (n := n) (w := 2 + a) (m := 2 + k) d2 (by omega) (by omega) (by omega) (by omega) (by omega)
    obtain ⟨r1, c4, v1⟩ := w_F33 (W := W) (n := n + 1) (u := 1) sh s3
    obtain ⟨r2, c5, v2⟩ := w_F34 (W := W) (n := n + 1) (u := 1) sh s3
    have ek : (((2 + k : Nat) : Int)) = 2 + (k : Int) := by omega
    rw [ek] at c3
    have c3' : ev (callN TT W (n + 3)) (.call 36 (.cons (.var 0) (.cons (.bin .add (.con (.int 2)) (.call 29 (.cons (.var 0) (.cons (.bin .sub (.var 1) (.con (.int 1))) .nil)))) (.cons (.bin .add (.con (.int 2)) (.call 29 (.cons (.var 0) (.cons (.bin .sub (.var 2) (.con (.int 1))) .nil)))) .nil)))) (E (.val d) x4) s' = .ok (cupD (2 + a) ds ls) s3 := by
      show ev _ _ [.val (.box l), .val (.int mo), .val (.int ma), .val d, x4] s' = _
      simp only [ev_var, ev_own, ev_con, ev_glob, ev_bin, ev_rep, ev_neg, ev_cmp, ev_chain, ev_isn, ev_notn, ev_and, ev_or, ev_not, ev_ife, ev_tup, ev_lst, ev_mkb, ev_ix, ev_slice, ev_call, ev_bf, ev_isi, ev_isi2, ev_lrng, ev_lzip, ev_sset, ev_lset, evL_nil, evL_cons, evO_none, evO_some, evC_none, evC_some, evI_seq, evI_rng, evI_zip, evI_enum, sx, getV, frzE, Sl.frz, asB, asI, List.getElem?_cons_zero, List.getElem?_cons_succ, bnd_pur, lif_some, bnd_assoc, o_subI, bnd_to c1, bnd_to c2, o_addI]
      exact c3
    have st1 : evS (callN TT W (n + 3)) W (.set 4 (.call 36 (.cons (.var 0) (.cons (.bin .add (.con (.int 2)) (.call 29 (.cons (.var 0) (.cons (.bin .sub (.var 1) (.con (.int 1))) .nil)))) (.cons (.bin .add (.con (.int 2)) (.call 29 (.cons (.var 0) (.cons (.bin .sub (.var 2) (.con (.int 1))) .nil)))) .nil))))) (E (.val d) x4) s' = .nx (E (.val d) (.val (cupD (2 + a) ds ls))) s3 := S_setS c3'
    have a33 : ev (callN TT W (n + 3)) (.call 33 (.cons (.var 4) (.cons (.con (.int 1)) .nil))) (E (.val d) (.val (cupD (2 + a) ds ls))) s3 = .ok r1 s3 := ev_callS (xs := [cupD (2 + a) ds ls, .int 1]) (by
      show evL _ _ [.val (.box l), .val (.int mo), .val (.int ma), .val d, .val (cupD (2 + a) ds ls)] = _
      simp [ev_var, ev_own, ev_con, ev_glob, ev_bin, ev_rep, ev_neg, ev_cmp, ev_chain, ev_isn, ev_notn, ev_and, ev_or, ev_not, ev_ife, ev_tup, ev_lst, ev_mkb, ev_ix, ev_slice, ev_call, ev_bf, ev_isi, ev_isi2, ev_lrng, ev_lzip, ev_sset, ev_lset, evL_nil, evL_cons, evO_none, evO_some, evC_none, evC_some, evI_seq, evI_rng, evI_zip, evI_enum, sx, getV, frzE, Sl.frz, asB, asI]) c4
    have a34 : ev (callN TT W (n + 3)) (.call 34 (.cons (.var 4) (.cons (.con (.int 1)) .nil))) (E (.val d) (.val (cupD (2 + a) ds ls))) s3 = .ok r2 s3 := ev_callS (xs := [cupD (2 + a) ds ls, .int 1]) (by
      show evL _ _ [.val (.box l), .val (.int mo), .val (.int ma), .val d, .val (cupD (2 + a) ds ls)] = _
      simp [ev_var, ev_own, ev_con, ev_glob, ev_bin, ev_rep, ev_neg, ev_cmp, ev_chain, ev_isn, ev_notn, ev_and, ev_or, ev_not, ev_ife, ev_tup, ev_lst, ev_mkb, ev_ix, ev_slice, ev_call, ev_bf, ev_isi, ev_isi2, ev_lrng, ev_lzip, ev_sset, ev_lset, evL_nil, evL_cons, evO_none, evO_some, evC_none, evC_some, evI_seq, evI_rng, evI_zip, evI_enum, sx, getV, frzE, Sl.frz, asB, asI]) c5
    have fin0 : ev (callN TT W (n + 3)) (.and (.notn (.call 33 (.cons (.var 4) (.cons (.con (.int 1)) .nil)))) (.notn (.call 34 (.cons (.var 4) (.cons (.con (.int 1)) .nil))))) (E (.val d) (.val (cupD (2 + a) ds ls))) s3 = .ok (.bl false) s3 → (∃ ρ' s'', (match tgt (.nm 3) d (E x3 x4) with
      | some ρ' => evB (callN TT W (n + 3)) W body ρ' s'
      | none => .stuck) = .nx ρ' s'' ∧ Dk s'' l (T + 22 * ((i + 1 : Nat) : Int)) ∧ ∃ x3 x4 : Sl, ρ' = E x3 x4) := fun h =>
      ⟨E (.val d) (.val (cupD (2 + a) ds ls)), s3, (B_nx st1).trans ((B_nx ((S_if0T h).trans B_nil)).trans B_nil), d3.mono (by omega), _, _, rfl⟩
    rcases v1 with rfl | ⟨zs, rfl, z1, z2, z3⟩
    · exact .inl (fin0 (ev_andS0 (ev_notnS a33)))
    · rcases v2 with rfl | ⟨ys, rfl, y1, y2, y3⟩
      · exact .inl (fin0 (ev_andS1 (ev_notnS a33) (ev_notnS a34)))
      · refine .inr ⟨cupD (2 + a) ds ls, s3, (B_nx st1).trans (B_rt ((S_if1T (ev_andS1 (q := true) (ev_notnS a33) (ev_notnS a34))).trans (B_rt (S_ret ?_)))), _, _, _, rfl, cup_of_lows sh z1 z2 z3, d3.mono (by omega)⟩
        show ev _ _ [.val (.box l), .val (.int mo), .val (.int ma), .val d, .val (cupD (2 + a) ds ls)] = _
        simp [ev_var, ev_own, ev_con, ev_glob, ev_bin, ev_rep, ev_neg, ev_cmp, ev_chain, ev_isn, ev_notn, ev_and, ev_or, ev_not, ev_ife, ev_tup, ev_lst, ev_mkb, ev_ix, ev_slice, ev_call, ev_bf, ev_isi, ev_isi2, ev_lrng, ev_lzip, ev_sset, ev_lset, evL_nil, evL_cons, evO_none, evO_some, evC_none, evC_some, evI_seq, evI_rng, evI_zip, evI_enum, sx, getV, frzE, Sl.frz, asB, asI]
end Mi
end
section
set_option Elab.async false
set_option linter.all false
set_option maxRecDepth 100000
set_option maxHeartbeats 2000000
/-! P28: pushes, scripts. -/
namespace Mi
open PySem L2
theorem w_F38 {W n : Nat} {s : Sto} {l : Nat} {T w : Int} {ds : List Door} {ls : List Lip} (hd : Dk s l T) (hT : T < 900000000) (h : Shape w ds ls) :
    ∃ (p : Push) (s' : Sto), callN TT W (n + 3) 38 [.box l, cupD w ds ls] s = .ok (pushD p) s' ∧ PushOk w ds.length p ∧ Dk s' l (T + 6) := by
  have w0 := h.w0
  have w1 := h.w1
  have d0 := h.d0
  have d1 := h.d1
  obtain ⟨dv, s1, c1, a0, a1, k1⟩ := w_F29 (W := W) (n := n + 1) (z := (ds.length : Int)) hd (by omega) (by omega) (by omega)
  obtain ⟨d, rfl⟩ : ∃ d : Nat, dv = (d : Int) := ⟨dv.toNat, by omega⟩
  obtain ⟨kv, s2, c2, b0, b1, k2⟩ := w_F29 (W := W) (n := n + 1) (z := 5) k1 (by omega) (by omega) (by omega)
  have i0 : ixD (cupD w ds ls) (.int 0) = pur (.int w) := ix0 _ _
  have i1 : ixD (cupD w ds ls) (.int 1) = pur (.tup (ds.map doorD)) := ix1 _ _ _
  -- the beginning
  have front : ∀ (v : D) (s' : Sto), evB (callN TT W (n + 2)) W (.cons (.iff (.cmp .eq (.var 4) (.con (.int 0))) (.cons (.ret (.tup (.cons (.con (.str (Str.ofString "end"))) (.cons (.var 3) (.cons (.call 30 (.cons (.var 0) (.cons (.lst (.cons (.con (.str (Str.ofString "left"))) (.cons (.con (.str (Str.ofString "right"))) .nil))) .nil))) .nil))))) .nil) .nil) (.cons (.iff (.cmp .lt (.var 4) (.con (.int 3))) (.cons (.ret (.tup (.cons (.con (.str (Str.ofString "to"))) (.cons (.var 3) (.cons (.call 29 (.cons (.var 0) (.cons (.bin .add (.var 2) (.con (.int 1))) .nil))) .nil))))) .nil) .nil) (.cons (.set 5 (.ife (.cmp .gt (.call 29 (.cons (.var 0) (.cons (.con (.int 4)) .nil))) (.con (.int 0))) (.bin .add (.con (.int 1)) (.call 29 (.cons (.var 0) (.cons (.bf .min (.cons (.con (.int 2)) (.cons (.var 2) .nil))) .nil)))) (.var 2))) (.cons (.ret (.tup (.cons (.con (.str (Str.ofString "by"))) (.cons (.var 3) (.cons (.call 30 (.cons (.var 0) (.cons (.lst (.cons (.var 5) (.cons (.bin .sub (.con (.int 0)) (.var 5)) .nil))) .nil))) .nil))))) .nil))))
      [.val (.box l), .val (cupD w ds ls), .val (.int w), .val (.int (d : Int)), .val (.int kv), .no] s2 = .rt v s' → callN TT W (n + 3) 38 [.box l, cupD w ds ls] s = .ok v s' := by
    intro v s' hb
    refine callN_S T38 rfl ?_
    show evB (callN TT W (n + 2)) W F38.body [.val (.box l), .val (cupD w ds ls), .no, .no, .no, .no] s = _
    refine (B_nx (S_parS (d := .int w) (s' := s) (d2 := .int (d : Int)) (s'' := s1) (by simp [ev_var, ev_own, ev_con, ev_glob, ev_bin, ev_rep, ev_neg, ev_cmp, ev_chain, ev_isn, ev_notn, ev_and, ev_or, ev_not, ev_ife, ev_tup, ev_lst, ev_mkb, ev_ix, ev_slice, ev_call, ev_bf, ev_isi, ev_isi2, ev_lrng, ev_lzip, ev_sset, ev_lset, evL_nil, evL_cons, evO_none, evO_some, evC_none, evC_some, evI_seq, evI_rng, evI_zip, evI_enum, sx, getV, frzE, Sl.frz, asB, asI, i0, pur]) ?_)).trans ((B_nx (S_setS (d := .int kv) (s' := s2) ?_)).trans hb)
    · exact ev_callS (xs := [.box l, .int (ds.length : Int)]) (by simp [ev_var, ev_own, ev_con, ev_glob, ev_bin, ev_rep, ev_neg, ev_cmp, ev_chain, ev_isn, ev_notn, ev_and, ev_or, ev_not, ev_ife, ev_tup, ev_lst, ev_mkb, ev_ix, ev_slice, ev_call, ev_bf, ev_isi, ev_isi2, ev_lrng, ev_lzip, ev_sset, ev_lset, evL_nil, evL_cons, evO_none, evO_some, evC_none, evC_some, evI_seq, evI_rng, evI_zip, evI_enum, sx, getV, frzE, Sl.frz, asB, asI, i1, b_lenT]) c1
    · exact ev_callS (xs := [.box l, .int 5]) (by simp [ev_var, ev_own, ev_con, ev_glob, ev_bin, ev_rep, ev_neg, ev_cmp, ev_chain, ev_isn, ev_notn, ev_and, ev_or, ev_not, ev_ife, ev_tup, ev_lst, ev_mkb, ev_ix, ev_slice, ev_call, ev_bf, ev_isi, ev_isi2, ev_lrng, ev_lzip, ev_sset, ev_lset, evL_nil, evL_cons, evO_none, evO_some, evC_none, evC_some, evI_seq, evI_rng, evI_zip, evI_enum, sx, getV, frzE, Sl.frz, asB, asI]) c2
  by_cases q0 : kv = 0
  · subst q0
    obtain ⟨k, v, s3, hv, c3, k3⟩ := w_F30 (W := W) (n := n) (xs := [.str (Str.ofString "left"), .str (Str.ofString "right")]) k2 (by omega) (by decide) (by decide)
    obtain ⟨r, rfl⟩ : ∃ r, v = sSide r := by
      cases k with
      | zero => exact ⟨false, (Option.some.inj hv).symm⟩
      | succ k =>
        cases k with
        | zero => exact ⟨true, (Option.some.inj hv).symm⟩
        | succ k => simp at hv
    refine ⟨.end_ d r, s3, front _ _ (B_rt ((S_if1 (by simp [ev_var, ev_own, ev_con, ev_glob, ev_bin, ev_rep, ev_neg, ev_cmp, ev_chain, ev_isn, ev_notn, ev_and, ev_or, ev_not, ev_ife, ev_tup, ev_lst, ev_mkb, ev_ix, ev_slice, ev_call, ev_bf, ev_isi, ev_isi2, ev_lrng, ev_lzip, ev_sset, ev_lset, evL_nil, evL_cons, evO_none, evO_some, evC_none, evC_some, evI_seq, evI_rng, evI_zip, evI_enum, sx, getV, frzE, Sl.frz, asB, asI, c_eq, eqD_int])).trans (B_rt (S_retS ?_)))), by show d < ds.length; omega, k3.mono (by omega)⟩
    show ev _ _ [.val (.box l), .val (cupD w ds ls), .val (.int w), .val (.int (d : Int)), .val (.int 0), .no] s2 = _
    simp only [ev_var, ev_own, ev_con, ev_glob, ev_bin, ev_rep, ev_neg, ev_cmp, ev_chain, ev_isn, ev_notn, ev_and, ev_or, ev_not, ev_ife, ev_tup, ev_lst, ev_mkb, ev_ix, ev_slice, ev_call, ev_bf, ev_isi, ev_isi2, ev_lrng, ev_lzip, ev_sset, ev_lset, evL_nil, evL_cons, evO_none, evO_some, evC_none, evC_some, evI_seq, evI_rng, evI_zip, evI_enum, sx, getV, frzE, Sl.frz, asB, asI, List.getElem?_cons_zero, List.getElem?_cons_succ, bnd_pur, lif_some, bnd_assoc, bnd_to c3]
    rfl
  · by_cases q1 : kv < 3
    · obtain ⟨x, s3, c3, x0, x1, k3⟩ := w_F29 (W := W) (n := n + 1) (z := w + 1) k2 (by omega) (by omega) (by omega)
      refine ⟨.to d x, s3, front _ _ ((B_nx ((S_if0 (by simp [ev_var, ev_own, ev_con, ev_glob, ev_bin, ev_rep, ev_neg, ev_cmp, ev_chain, ev_isn, ev_notn, ev_and, ev_or, ev_not, ev_ife, ev_tup, ev_lst, ev_mkb, ev_ix, ev_slice, ev_call, ev_bf, ev_isi, ev_isi2, ev_lrng, ev_lzip, ev_sset, ev_lset, evL_nil, evL_cons, evO_none, evO_some, evC_none, evC_some, evI_seq, evI_rng, evI_zip, evI_enum, sx, getV, frzE, Sl.frz, asB, asI, c_eq, eqD_int, q0])).trans B_nil)).trans (B_rt ((S_if1 (by simp [ev_var, ev_own, ev_con, ev_glob, ev_bin, ev_rep, ev_neg, ev_cmp, ev_chain, ev_isn, ev_notn, ev_and, ev_or, ev_not, ev_ife, ev_tup, ev_lst, ev_mkb, ev_ix, ev_slice, ev_call, ev_bf, ev_isi, ev_isi2, ev_lrng, ev_lzip, ev_sset, ev_lset, evL_nil, evL_cons, evO_none, evO_some, evC_none, evC_some, evI_seq, evI_rng, evI_zip, evI_enum, sx, getV, frzE, Sl.frz, asB, asI, c_lt, q1])).trans (B_rt (S_retS ?_))))), ⟨by omega, x0, by omega⟩, k3.mono (by omega)⟩
      show ev _ _ [.val (.box l), .val (cupD w ds ls), .val (.int w), .val (.int (d : Int)), .val (.int kv), .no] s2 = _
      simp only [ev_var, ev_own, ev_con, ev_glob, ev_bin, ev_rep, ev_neg, ev_cmp, ev_chain, ev_isn, ev_notn, ev_and, ev_or, ev_not, ev_ife, ev_tup, ev_lst, ev_mkb, ev_ix, ev_slice, ev_call, ev_bf, ev_isi, ev_isi2, ev_lrng, ev_lzip, ev_sset, ev_lset, evL_nil, evL_cons, evO_none, evO_some, evC_none, evC_some, evI_seq, evI_rng, evI_zip, evI_enum, sx, getV, frzE, Sl.frz, asB, asI, List.getElem?_cons_zero, List.getElem?_cons_succ, bnd_pur, lif_some, bnd_assoc, o_addI, bnd_to c3]
      rfl
    · obtain ⟨y, s3, c3, y0, y1, k3⟩ := w_F29 (W := W) (n := n + 1) (z := 4) k2 (by omega) (by omega) (by omega)
      -- how much
      have more : ∃ (x : Int) (s4 : Sto), ev (callN TT W (n + 2)) (.ife (.cmp .gt (.call 29 (.cons (.var 0) (.cons (.con (.int 4)) .nil))) (.con (.int 0))) (.bin .add (.con (.int 1)) (.call 29 (.cons (.var 0) (.cons (.bf .min (.cons (.con (.int 2)) (.cons (.var 2) .nil))) .nil)))) (.var 2)) [.val (.box l), .val (cupD w ds ls), .val (.int w), .val (.int (d : Int)), .val (.int kv), .no] s2 = .ok (.int x) s4 ∧ 1 ≤ x ∧ x ≤ w ∧ Dk s4 l (T + 4) := by
        by_cases z : 0 < y
        · obtain ⟨x, s4, c4, x0, x1, k4⟩ := w_F29 (W := W) (n := n + 1) (z := 2) k3 (by omega) (by omega) (by omega)
          have bm : bfn .min [.int 2, .int w] = some (.int 2) := by rw [b_min2, if_neg (by omega)]
          refine ⟨1 + x, s4, ?_, by omega, by omega, k4.mono (by omega)⟩
          simp only [ev_var, ev_own, ev_con, ev_glob, ev_bin, ev_rep, ev_neg, ev_cmp, ev_chain, ev_isn, ev_notn, ev_and, ev_or, ev_not, ev_ife, ev_tup, ev_lst, ev_mkb, ev_ix, ev_slice, ev_call, ev_bf, ev_isi, ev_isi2, ev_lrng, ev_lzip, ev_sset, ev_lset, evL_nil, evL_cons, evO_none, evO_some, evC_none, evC_some, evI_seq, evI_rng, evI_zip, evI_enum, sx, getV, frzE, Sl.frz, asB, asI, List.getElem?_cons_zero, List.getElem?_cons_succ, bnd_pur, lif_some, bnd_assoc, bnd_to c3, c_gt, z, decide_true, Option.map_some, bm, bnd_to c4, o_addI, pur_at]
        · refine ⟨w, s3, ?_, by omega, by omega, k3.mono (by omega)⟩
          simp only [ev_var, ev_own, ev_con, ev_glob, ev_bin, ev_rep, ev_neg, ev_cmp, ev_chain, ev_isn, ev_notn, ev_and, ev_or, ev_not, ev_ife, ev_tup, ev_lst, ev_mkb, ev_ix, ev_slice, ev_call, ev_bf, ev_isi, ev_isi2, ev_lrng, ev_lzip, ev_sset, ev_lset, evL_nil, evL_cons, evO_none, evO_some, evC_none, evC_some, evI_seq, evI_rng, evI_zip, evI_enum, sx, getV, frzE, Sl.frz, asB, asI, List.getElem?_cons_zero, List.getElem?_cons_succ, bnd_pur, lif_some, bnd_assoc, bnd_to c3, c_gt, z, decide_false, Option.map_some, pur_at]
      obtain ⟨x, s4, c4, x0, x1, k4⟩ := more
      obtain ⟨k, v, s5, hv, c5, k5⟩ := w_F30 (W := W) (n := n) (xs := [.int x, .int (0 - x)]) k4 (by omega) (by simp) (by simp)
      obtain ⟨u, rfl, hu⟩ : ∃ u, v = .int u ∧ (u = x ∨ u = 0 - x) := by
        cases k with
        | zero => exact ⟨x, (Option.some.inj hv).symm, .inl rfl⟩
        | succ k =>
          cases k with
          | zero => exact ⟨0 - x, (Option.some.inj hv).symm, .inr rfl⟩
          | succ k => simp at hv
      refine ⟨.by_ d u, s5, front _ _ ((B_nx ((S_if0 (by simp [ev_var, ev_own, ev_con, ev_glob, ev_bin, ev_rep, ev_neg, ev_cmp, ev_chain, ev_isn, ev_notn, ev_and, ev_or, ev_not, ev_ife, ev_tup, ev_lst, ev_mkb, ev_ix, ev_slice, ev_call, ev_bf, ev_isi, ev_isi2, ev_lrng, ev_lzip, ev_sset, ev_lset, evL_nil, evL_cons, evO_none, evO_some, evC_none, evC_some, evI_seq, evI_rng, evI_zip, evI_enum, sx, getV, frzE, Sl.frz, asB, asI, c_eq, eqD_int, q0])).trans B_nil)).trans ((B_nx ((S_if0 (by simp [ev_var, ev_own, ev_con, ev_glob, ev_bin, ev_rep, ev_neg, ev_cmp, ev_chain, ev_isn, ev_notn, ev_and, ev_or, ev_not, ev_ife, ev_tup, ev_lst, ev_mkb, ev_ix, ev_slice, ev_call, ev_bf, ev_isi, ev_isi2, ev_lrng, ev_lzip, ev_sset, ev_lset, evL_nil, evL_cons, evO_none, evO_some, evC_none, evC_some, evI_seq, evI_rng, evI_zip, evI_enum, sx, getV, frzE, Sl.frz, asB, asI, c_lt, q1])).trans B_nil)).trans ((B_nx (S_setS c4)).trans (B_rt (S_retS ?_))))), ⟨by omega, by omega, by omega, by omega⟩, k5.mono (by omega)⟩
      show ev _ _ [.val (.box l), .val (cupD w ds ls), .val (.int w), .val (.int (d : Int)), .val (.int kv), .val (.int x)] s4 = _
      simp only [ev_var, ev_own, ev_con, ev_glob, ev_bin, ev_rep, ev_neg, ev_cmp, ev_chain, ev_isn, ev_notn, ev_and, ev_or, ev_not, ev_ife, ev_tup, ev_lst, ev_mkb, ev_ix, ev_slice, ev_call, ev_bf, ev_isi, ev_isi2, ev_lrng, ev_lzip, ev_sset, ev_lset, evL_nil, evL_cons, evO_none, evO_some, evC_none, evC_some, evI_seq, evI_rng, evI_zip, evI_enum, sx, getV, frzE, Sl.frz, asB, asI, List.getElem?_cons_zero, List.getElem?_cons_succ, bnd_pur, lif_some, bnd_assoc, o_subI, bnd_to c5]
      rfl
theorem w_F39 {W n : Nat} {s : Sto} {l : Nat} {T w mo : Int} {ds : List Door} {ls : List Lip} (hd : Dk s l T) (hT : T < 800000000) (h : Shape w ds ls) (m0 : 0 ≤ mo) (m1 : mo ≤ 100) :
    ∃ (ps : List Push) (s' : Sto), callN TT W (n + 4) 39 [.box l, cupD w ds ls, .int mo] s = .ok (.tup (ps.map pushD)) s' ∧ (∀ p ∈ ps, PushOk w ds.length p) ∧ (ps.length : Int) ≤ mo ∧ Dk s' l (T + 1 + 6 * mo) := by
  obtain ⟨v, s1, c1, v0, v1, d1⟩ := w_F29 (W := W) (n := n + 2) (z := mo + 1) hd (by omega) (by omega) (by omega)
  obtain ⟨k, rfl⟩ : ∃ k : Nat, v = (k : Int) := ⟨v.toNat, by omega⟩
  have hr := rng0 (m := k) (by omega)
  obtain ⟨vs, s2, e1, l1, p1, j1⟩ := lc_st (Φ := callN TT W (n + 3)) (ρ := [.val (.box l), .val (cupD w ds ls), .val (.int mo), .no]) (s := s) (e := .call 38 (.cons (.var 0) (.cons (.var 1) .nil))) (t := .nm 3) (it := .rng (.cons (.call 29 (.cons (.var 0) (.cons (.bin .add (.var 2) (.con (.int 1))) .nil))) .nil)) (vs := [3])
    (fun k s => Dk s l (T + 1 + 6 * (k : Int))) (fun v => ∃ p, v = pushD p ∧ PushOk w ds.length p) (ds := (List.range k).map fun (k : Nat) => D.int (k : Int)) (s0 := s1) (by simp [ev_var, ev_own, ev_con, ev_glob, ev_bin, ev_rep, ev_neg, ev_cmp, ev_chain, ev_isn, ev_notn, ev_and, ev_or, ev_not, ev_ife, ev_tup, ev_lst, ev_mkb, ev_ix, ev_slice, ev_call, ev_bf, ev_isi, ev_isi2, ev_lrng, ev_lzip, ev_sset, ev_lset, evL_nil, evL_cons, evO_none, evO_some, evC_none, evC_some, evI_seq, evI_rng, evI_zip, evI_enum, sx, getV, frzE, Sl.frz, asB, asI, bnd_assoc, o_addI, bnd_to c1, hr, pur]) (by simpa using d1) fun i d s' hi hj => by
      have hi' : i < k := by
        have := (List.getElem?_eq_some_iff.mp hi).1
        simpa using this
      obtain ⟨p, s2, c, ok, dk⟩ := w_F38 (W := W) (n := n) hj (by omega) h
      refine ⟨_, pushD p, s2, rfl, ?_, ⟨p, rfl, ok⟩, dk.mono (by omega)⟩
      exact ev_callS (xs := [.box l, cupD w ds ls]) (by simp [ev_var, ev_own, ev_con, ev_glob, ev_bin, ev_rep, ev_neg, ev_cmp, ev_chain, ev_isn, ev_notn, ev_and, ev_or, ev_not, ev_ife, ev_tup, ev_lst, ev_mkb, ev_ix, ev_slice, ev_call, ev_bf, ev_isi, ev_isi2, ev_lrng, ev_lzip, ev_sset, ev_lset, evL_nil, evL_cons, evO_none, evO_some, evC_none, evC_some, evI_seq, evI_rng, evI_zip, evI_enum, sx, getV, frzE, Sl.frz, asB, asI, wipeD]) c
  obtain ⟨ps, rfl, pok⟩ := ex_map p1
  rw [List.length_map, List.length_map, List.length_range] at l1
  rw [List.length_map, List.length_range] at j1
  refine ⟨ps, s2, callN_S T39 rfl (B_rt (S_retS ?_)), pok, by omega, j1.mono (by omega)⟩
  show ev (callN TT W (n + 3)) _ [.val (.box l), .val (cupD w ds ls), .val (.int mo), .no] s = _
  rw [ev_bf, evL_cons, evL_nil, bnd_assoc, bnd_to e1] <;> rfl
end Mi
end
section
set_option Elab.async false
set_option linter.all false
set_option maxRecDepth 100000
set_option maxHeartbeats 2000000
/-! P29: all places. -/
namespace Mi
open PySem L2
def keepB (w u : Int) (ds : List Door) (ls : List Lip) (r : List Int) : Bool := (bndL w ds ls).all fun l => decide (rowP r l.1 - rowP r l.2.1 ≤ l.2.2 * u)
theorem keepB_iff {w u : Int} {ds : List Door} {ls : List Lip} {r : List Int} : keepB w u ds ls r = true ↔ Keeps (bndP w ds ls) u (rowP r) := by
  rw [← keeps_iff]
  unfold keepB Keeps
  rw [List.all_eq_true]
  constructor
  · intro h l hl
    exact of_decide_eq_true (h l hl)
  · intro h l hl
    exact decide_eq_true (h l hl)
theorem w_F42b {W n : Nat} {w u : Int} {ds : List Door} {ls : List Lip} {xs : List Int} (h : Shape w ds ls) (hl : xs.length = ds.length + 1) : callN TT W (n + 2) 42 [cupD w ds ls, .int u, rowT xs] = pur (.bl (keepB w u ds ls xs)) := by
  obtain ⟨b, e, hb⟩ := w_F42 (W := W) (n := n) (u := u) h hl
  rw [e]
  have : b = keepB w u ds ls xs := by
    rw [← keepB_iff] at hb
    cases b <;> cases hk : keepB w u ds ls xs <;> simp_all
  rw [this]
def gridX (w u : Int) (rows : List (List Int)) (d : Door) : List (List Int) := rows.flatMap fun r => (List.range ((w - d.2) * u + 1).toNat).map fun (k : Nat) => r ++ [(k : Int)]
def gridR (w u : Int) (ds : List Door) : List (List Int) := ds.foldl (gridX w u) [[0]]
theorem dr_succ (d : Door) (ds : List Door) (k : Nat) : dr (d :: ds) (k + 1) = dr ds k := rfl
theorem mem_gridF {w u : Int} : ∀ (ds : List Door) (rows : List (List Int)) (r : List Int), r ∈ ds.foldl (gridX w u) rows ↔ ∃ r0 ∈ rows, ∃ xs : List Int, xs.length = ds.length ∧ r = r0 ++ xs ∧ ∀ k, k < ds.length → 0 ≤ xs.getD k 0 ∧ xs.getD k 0 < (w - (dr ds k).2) * u + 1
  | [], rows, r => by
    constructor
    · intro h
      exact ⟨r, h, [], rfl, by simp, fun k hk => absurd hk (Nat.not_lt_zero _)⟩
    · rintro ⟨r0, h, xs, hl, rfl, _⟩
      have : xs = [] := List.length_eq_zero_iff.mp hl
      subst this
      simpa using h
  | d :: ds, rows, r => by
    rw [List.foldl_cons, mem_gridF ds]
    constructor
    · rintro ⟨r1, h1, ys, hl, rfl, hk⟩
      obtain ⟨r0, h0, h2⟩ := List.mem_flatMap.mp h1
      obtain ⟨j, hj, rfl⟩ := List.mem_map.mp h2
      have hj' := List.mem_range.mp hj
      refine ⟨r0, h0, (j : Int) :: ys, by simp [hl], by simp, fun k hk' => ?_⟩
      cases k with
      | zero =>
        show 0 ≤ (j : Int) ∧ (j : Int) < (w - d.2) * u + 1
        omega
      | succ k =>
        rw [dr_succ]
        exact hk k (by simpa using hk')
    · rintro ⟨r0, h0, xs, hl, rfl, hk⟩
      cases xs with
      | nil => simp at hl
      | cons x ys =>
        have k0 := hk 0 (by simp)
        have k0' : 0 ≤ x ∧ x < (w - d.2) * u + 1 := k0
        refine ⟨r0 ++ [x], List.mem_flatMap.mpr ⟨r0, h0, List.mem_map.mpr ⟨x.toNat, List.mem_range.mpr (by omega), ?_⟩⟩, ys, by simpa using hl, by simp, fun k hk' => ?_⟩
        · rw [Int.toNat_of_nonneg k0'.1]
        · have := hk (k + 1) (by simpa using hk')
          rw [dr_succ] at this
          exact this
theorem mem_grid {w u : Int} {ds : List Door} {r : List Int} : r ∈ gridR w u ds ↔ ∃ xs : List Int, xs.length = ds.length ∧ r = 0 :: xs ∧ ∀ k, k < ds.length → 0 ≤ xs.getD k 0 ∧ xs.getD k 0 < (w - (dr ds k).2) * u + 1 := by
  unfold gridR
  rw [mem_gridF]
  constructor
  · rintro ⟨r0, h0, xs, h1, h2, h3⟩
    rw [List.mem_singleton.mp h0] at h2
    exact ⟨xs, h1, h2, h3⟩
  · rintro ⟨xs, h1, h2, h3⟩
    exact ⟨[0], List.mem_singleton.mpr rfl, xs, h1, h2, h3⟩
theorem gridX_len {w u : Int} {rows : List (List Int)} {d : Door} (h : ((w - d.2) * u + 1).toNat ≤ 17) : (gridX w u rows d).length ≤ rows.length * 17 := by
  unfold gridX
  induction rows with
  | nil => simp
  | cons r rows ih =>
    rw [List.flatMap_cons, List.length_append, List.length_cons, List.length_map, List.length_range]
    omega
theorem rows_app (r : List Int) (k : Int) : op2 .add (rowT r) (.tup [.int k]) = if r.length + 1 ≤ LIM then some (rowT (r ++ [k])) else none := by
  show (if (r.map D.int).length + 1 ≤ LIM then some (D.tup (r.map D.int ++ [.int k])) else none) = _
  rw [List.length_map]
  unfold rowT
  rw [List.map_append] <;> rfl
theorem flat_take {α β : Type} (g : α → List β) (xs : List α) (k : Nat) (x : α) (h : xs[k]? = some x) : (xs.take (k + 1)).flatMap g = (xs.take k).flatMap g ++ g x := by
  rw [List.take_add_one, h, List.flatMap_append]
  simp
theorem flat_take_len {α β : Type} (g : α → List β) (b : Nat) : ∀ (xs : List α), (∀ x ∈ xs, (g x).length ≤ b) → (xs.flatMap g).length ≤ xs.length * b
  | [], _ => by simp
  | x :: xs, h => by
    rw [List.flatMap_cons, List.length_append, List.length_cons]
    have := h x List.mem_cons_self
    have := flat_take_len g b xs fun y hy => h y (List.mem_cons_of_mem _ hy)
    have e : (xs.length + 1) * b = xs.length * b + b := by grind
    omega
theorem w_F43 {W n : Nat} {w u : Int} {ds : List Door} {ls : List Lip} (h : Shape w ds ls) (u0 : 1 ≤ u) (u1 : u ≤ 4) : callN TT W (n + 3) 43 [cupD w ds ls, .int u] = pur (.lst (((gridR w u ds).filter (keepB w u ds ls)).map rowT)) := by
  refine callN_pur T43 rfl fun s => ?_
  have w0 := h.w0
  have w1 := h.w1
  have d0 := h.d0
  have d1 := h.d1
  have i0 : ixD (cupD w ds ls) (.int 0) = pur (.int w) := ix0 _ _
  have i1 : ixD (cupD w ds ls) (.int 1) = pur (.tup (ds.map doorD)) := ix1 _ _ _
  let E : List (List Int) → Sl → Sl → Sl → Sl → Sl → Ev := fun rows x3 x4 x5 x6 x7 => [.val (cupD w ds ls), .val (.int u), .val (.lst (rows.map rowT)), x3, x4, x5, x6, x7]
  let inb : CB := .cons (.set 5 (.bin .add (.var 5) (.lc (.bin .add (.var 6) (.tup (.cons (.var 7) .nil))) (.nm 7) (.rng (.cons (.bin .add (.bin .mul (.bin .sub (.ix (.var 0) (.con (.int 0))) (.var 4)) (.var 1)) (.con (.int 1))) .nil)) .none [7]))) .nil
  -- the inner loop
  have inner : ∀ (rows : List (List Int)) (d : Door) (x3 x6 x7 : Sl) (s : Sto), DoorOk w d → rows.length ≤ 1000 → (∀ r ∈ rows, r.length ≤ 900) → ∃ x6' x7', forL (fun d ρ s => match tgt (.nm 6) d ρ with
      | some ρ' => evB (callN TT W (n + 2)) W inb ρ' s
      | none => .stuck) (rows.map rowT) (E rows x3 (.val (.int d.2)) (.val (.lst [])) x6 x7) s = .nx (E rows x3 (.val (.int d.2)) (.val (.lst ((gridX w u rows d).map rowT))) x6' x7') s := by
    intro rows d x3 x6 x7 s hd hl hr
    have dw0 := hd.w0
    have dw1 := hd.w1
    have c0 : 0 ≤ (w - d.2) * u := Int.mul_nonneg (by omega) (by omega)
    have c1 : (w - d.2) * u ≤ 4 * 4 := Int.mul_le_mul (by omega) u1 (by omega) (by omega)
    obtain ⟨cc, hcc⟩ : ∃ cc : Nat, (cc : Int) = (w - d.2) * u + 1 := ⟨((w - d.2) * u + 1).toNat, by omega⟩
    have hr2 := rng0 (m := cc) (by omega)
    rw [hcc] at hr2
    let g : List Int → List (List Int) := fun r => (List.range cc).map fun (k : Nat) => r ++ [(k : Int)]
    have gx : gridX w u rows d = rows.flatMap g := by
      unfold gridX
      rw [show ((w - d.2) * u + 1).toNat = cc by omega]
    have lp := forL_inv (f := fun d ρ s => match tgt (.nm 6) d ρ with
      | some ρ' => evB (callN TT W (n + 2)) W inb ρ' s
      | none => .stuck) (fun k ρ s' => s' = s ∧ ∃ x6 x7 : Sl, ρ = E rows x3 (.val (.int d.2)) (.val (.lst (((rows.take k).flatMap g).map rowT))) x6 x7) (rows.map rowT) 0 (ρ := E rows x3 (.val (.int d.2)) (.val (.lst [])) x6 x7) (s := s) ⟨rfl, x6, x7, by simp⟩ ?_
    · obtain ⟨ρ', s', e, rfl, x6', x7', rfl⟩ := lp
      refine ⟨x6', x7', ?_⟩
      rw [e, List.length_map, Nat.zero_add, List.take_of_length_le (Nat.le_refl _), gx]
    · rintro k dd ρ s' hd' ⟨rfl, x6, x7, rfl⟩
      rw [Nat.zero_add] at *
      have hk : k < rows.length := by
        have := (List.getElem?_eq_some_iff.mp hd').1
        simpa using this
      obtain ⟨r, hrk⟩ : ∃ r, rows[k]? = some r := ⟨_, List.getElem?_eq_getElem hk⟩
      have ed : dd = rowT r := by
        rw [List.getElem?_map, hrk] at hd'
        exact (Option.some.inj hd').symm
      subst ed
      have rl := hr r (List.mem_of_getElem? hrk)
      have fl := flat_take_len g 17 (rows.take k) fun x _ => by
        show ((List.range cc).map _).length ≤ 17
        rw [List.length_map, List.length_range]
        omega
      have tl : (rows.take k).length ≤ 1000 := by
        rw [List.length_take]
        omega
      refine ⟨E rows x3 (.val (.int d.2)) (.val (.lst (((rows.take (k + 1)).flatMap g).map rowT))) (.val (rowT r)) x7, s', ?_, rfl, _, _, rfl⟩
      show evB _ _ inb [.val (cupD w ds ls), .val (.int u), .val (.lst (rows.map rowT)), x3, .val (.int d.2), .val (.lst (((rows.take k).flatMap g).map rowT)), .val (rowT r), x7] s' = _
      refine (B_nx (S_set (d := .lst (((rows.take (k + 1)).flatMap g).map rowT)) ?_)).trans B_nil
      rw [ev_bin]
      rw [lc_map (xs := List.range cc) (cv := fun (k : Nat) => D.int (k : Int)) (h := fun (k : Nat) => rowT (r ++ [(k : Int)])) (by
        simp only [ev_var, ev_own, ev_con, ev_glob, ev_bin, ev_rep, ev_neg, ev_cmp, ev_chain, ev_isn, ev_notn, ev_and, ev_or, ev_not, ev_ife, ev_tup, ev_lst, ev_mkb, ev_ix, ev_slice, ev_call, ev_bf, ev_isi, ev_isi2, ev_lrng, ev_lzip, ev_sset, ev_lset, evL_nil, evL_cons, evO_none, evO_some, evC_none, evC_some, evI_seq, evI_rng, evI_zip, evI_enum, sx, getV, frzE, Sl.frz, asB, asI, List.getElem?_cons_zero, List.getElem?_cons_succ, bnd_pur, lif_some, i0, o_subI, o_mulI (w - d.2) u (.inl (by omega)), o_addI, hr2]) fun j hj => ⟨_, rfl, by
        have ra := rows_app r (j : Int)
        rw [if_pos (by show _ ≤ 16777216; omega)] at ra
        simp [ev_var, ev_own, ev_con, ev_glob, ev_bin, ev_rep, ev_neg, ev_cmp, ev_chain, ev_isn, ev_notn, ev_and, ev_or, ev_not, ev_ife, ev_tup, ev_lst, ev_mkb, ev_ix, ev_slice, ev_call, ev_bf, ev_isi, ev_isi2, ev_lrng, ev_lzip, ev_sset, ev_lset, evL_nil, evL_cons, evO_none, evO_some, evC_none, evC_some, evI_seq, evI_rng, evI_zip, evI_enum, sx, getV, frzE, Sl.frz, asB, asI, wipeD, ra]⟩]
      have ad := o_addL (((rows.take k).flatMap g).map rowT) ((List.range cc).map fun (k : Nat) => rowT (r ++ [(k : Int)])) (by
        rw [List.length_map, List.length_map, List.length_range]
        show _ ≤ 16777216
        have : (rows.take k).length * 17 ≤ 1000 * 17 := Nat.mul_le_mul_right _ tl
        omega)
      simp only [ev_var, ev_own, ev_con, ev_glob, ev_bin, ev_rep, ev_neg, ev_cmp, ev_chain, ev_isn, ev_notn, ev_and, ev_or, ev_not, ev_ife, ev_tup, ev_lst, ev_mkb, ev_ix, ev_slice, ev_call, ev_bf, ev_isi, ev_isi2, ev_lrng, ev_lzip, ev_sset, ev_lset, evL_nil, evL_cons, evO_none, evO_some, evC_none, evC_some, evI_seq, evI_rng, evI_zip, evI_enum, sx, getV, frzE, Sl.frz, asB, asI, List.getElem?_cons_zero, List.getElem?_cons_succ, bnd_pur, lif_some, ad]
      rw [flat_take g rows k r hrk, List.map_append]
      show pur (D.lst (_ ++ _)) = pur (D.lst (_ ++ ((List.range cc).map fun (k : Nat) => r ++ [(k : Int)]).map rowT))
      rw [List.map_map] <;> rfl
  let outb : CB := .cons (.set 5 (.lst .nil)) (.cons (.for_ (.nm 6) (.seq (.var 2)) inb) (.cons (.set 2 (.var 5)) .nil))
  have lp := forL_inv (f := fun d ρ s => match tgt (.tp (.cons (.nm 3) (.cons (.nm 4) .nil))) d ρ with
      | some ρ' => evB (callN TT W (n + 2)) W outb ρ' s
      | none => .stuck) (fun k ρ s' => s' = s ∧ ∃ x3 x4 x5 x6 x7 : Sl, ρ = E ((ds.take k).foldl (gridX w u) [[0]]) x3 x4 x5 x6 x7 ∧ ((ds.take k).foldl (gridX w u) [[0]]).length ≤ 17 ^ k) (ds.map doorD) 0 (ρ := E [[0]] .no .no .no .no .no) (s := s) ⟨rfl, _, _, _, _, _, rfl, by simp⟩ ?_
  · obtain ⟨ρ', s', e, rfl, x3, x4, x5, x6, x7, rfl, gl⟩ := lp
    rw [List.length_map, Nat.zero_add, List.take_of_length_le (Nat.le_refl _)] at e gl
    show evB (callN TT W (n + 2)) W F43.body [.val (cupD w ds ls), .val (.int u), .no, .no, .no, .no, .no, .no] s' = _
    refine (B_nx (S_set (d := .lst [rowT [0]]) (by simp [ev_var, ev_own, ev_con, ev_glob, ev_bin, ev_rep, ev_neg, ev_cmp, ev_chain, ev_isn, ev_notn, ev_and, ev_or, ev_not, ev_ife, ev_tup, ev_lst, ev_mkb, ev_ix, ev_slice, ev_call, ev_bf, ev_isi, ev_isi2, ev_lrng, ev_lzip, ev_sset, ev_lset, evL_nil, evL_cons, evO_none, evO_some, evC_none, evC_some, evI_seq, evI_rng, evI_zip, evI_enum, sx, getV, frzE, Sl.frz, asB, asI, rowT]))).trans ((B_nx ((S_for (ds := ds.map doorD) ?_).trans e)).trans (B_rt (S_ret ?_)))
    · show evI _ _ [.val (cupD w ds ls), .val (.int u), .val (.lst ([[0]].map rowT)), .no, .no, .no, .no, .no] = _
      simp [ev_var, ev_own, ev_con, ev_glob, ev_bin, ev_rep, ev_neg, ev_cmp, ev_chain, ev_isn, ev_notn, ev_and, ev_or, ev_not, ev_ife, ev_tup, ev_lst, ev_mkb, ev_ix, ev_slice, ev_call, ev_bf, ev_isi, ev_isi2, ev_lrng, ev_lzip, ev_sset, ev_lset, evL_nil, evL_cons, evO_none, evO_some, evC_none, evC_some, evI_seq, evI_rng, evI_zip, evI_enum, sx, getV, frzE, Sl.frz, asB, asI, i1, seqOf]
    · refine lc_ok (xs := gridR w u ds) (cv := rowT) (p := keepB w u ds ls) (h := rowT) ?_ fun r hr => ⟨_, rfl, ?_, fun _ => ?_⟩
      · show evI _ _ [.val (cupD w ds ls), .val (.int u), .val (.lst ((gridR w u ds).map rowT)), x3.frz, x4.frz, x5.frz, x6.frz, x7.frz] = _
        simp [ev_var, ev_own, ev_con, ev_glob, ev_bin, ev_rep, ev_neg, ev_cmp, ev_chain, ev_isn, ev_notn, ev_and, ev_or, ev_not, ev_ife, ev_tup, ev_lst, ev_mkb, ev_ix, ev_slice, ev_call, ev_bf, ev_isi, ev_isi2, ev_lrng, ev_lzip, ev_sset, ev_lset, evL_nil, evL_cons, evO_none, evO_some, evC_none, evC_some, evI_seq, evI_rng, evI_zip, evI_enum, sx, getV, frzE, Sl.frz, asB, asI, seqOf]
      · obtain ⟨xs, h1, rfl, _⟩ := mem_grid.mp hr
        have c := w_F42b (W := W) (n := n) (u := u) (xs := 0 :: xs) h (by rw [List.length_cons, h1])
        show evC _ _ [.val (cupD w ds ls), .val (.int u), .val (.lst ((gridR w u ds).map rowT)), x3.frz, x4.frz, x5.frz, .val (rowT (0 :: xs)), x7.frz] = _
        simp [ev_var, ev_own, ev_con, ev_glob, ev_bin, ev_rep, ev_neg, ev_cmp, ev_chain, ev_isn, ev_notn, ev_and, ev_or, ev_not, ev_ife, ev_tup, ev_lst, ev_mkb, ev_ix, ev_slice, ev_call, ev_bf, ev_isi, ev_isi2, ev_lrng, ev_lzip, ev_sset, ev_lset, evL_nil, evL_cons, evO_none, evO_some, evC_none, evC_some, evI_seq, evI_rng, evI_zip, evI_enum, sx, getV, frzE, Sl.frz, asB, asI, c]
      · show ev _ _ [.val (cupD w ds ls), .val (.int u), .val (.lst ((gridR w u ds).map rowT)), x3.frz, x4.frz, x5.frz, .val (rowT r), x7.frz] = _
        simp [ev_var, ev_own, ev_con, ev_glob, ev_bin, ev_rep, ev_neg, ev_cmp, ev_chain, ev_isn, ev_notn, ev_and, ev_or, ev_not, ev_ife, ev_tup, ev_lst, ev_mkb, ev_ix, ev_slice, ev_call, ev_bf, ev_isi, ev_isi2, ev_lrng, ev_lzip, ev_sset, ev_lset, evL_nil, evL_cons, evO_none, evO_some, evC_none, evC_some, evI_seq, evI_rng, evI_zip, evI_enum, sx, getV, frzE, Sl.frz, asB, asI]
  · rintro k dd ρ s' hd' ⟨rfl, x3, x4, x5, x6, x7, rfl, gl⟩
    rw [Nat.zero_add] at *
    have hk : k < ds.length := by
      have := (List.getElem?_eq_some_iff.mp hd').1
      simpa using this
    obtain ⟨d, hdk⟩ : ∃ d, ds[k]? = some d := ⟨_, List.getElem?_eq_getElem hk⟩
    have ed : dd = doorD d := by
      rw [List.getElem?_map, hdk] at hd'
      exact (Option.some.inj hd').symm
    subst ed
    have dk := h.dok d (List.mem_of_getElem? hdk)
    have tk : (ds.take (k + 1)).foldl (gridX w u) [[0]] = gridX w u ((ds.take k).foldl (gridX w u) [[0]]) d := by
      rw [List.take_add_one, hdk, List.foldl_append] <;> rfl
    obtain ⟨rows, hrows⟩ : ∃ rows, rows = (ds.take k).foldl (gridX w u) [[0]] := ⟨_, rfl⟩
    have rl : ∀ r ∈ rows, r.length ≤ 900 := fun r hr => by
      rw [hrows] at hr
      obtain ⟨r0, h0, xs, h1, rfl, _⟩ := (mem_gridF _ _ _).mp hr
      rw [List.mem_singleton.mp h0, List.length_append, h1, List.length_take]
      show 1 + _ ≤ 900
      omega
    have p17 : 17 ^ k ≤ 17 ^ 2 := Nat.pow_le_pow_right (by decide) (by omega)
    rw [← hrows] at gl ⊢
    rw [← hrows] at tk
    rw [tk]
    obtain ⟨x6', x7', e⟩ := inner rows d (.val (.int d.1)) x6 x7 s' dk (by omega) rl
    refine ⟨E (gridX w u rows d) (.val (.int d.1)) (.val (.int d.2)) (.val (.lst ((gridX w u rows d).map rowT))) x6' x7', s', ?_, rfl, ⟨_, _, _, _, _, rfl, ?_⟩⟩
    · show evB _ _ outb [.val (cupD w ds ls), .val (.int u), .val (.lst (rows.map rowT)), .val (.int d.1), .val (.int d.2), x5, x6, x7] s' = _
      refine (B_nx (S_set (d := .lst []) (by simp [ev_var, ev_own, ev_con, ev_glob, ev_bin, ev_rep, ev_neg, ev_cmp, ev_chain, ev_isn, ev_notn, ev_and, ev_or, ev_not, ev_ife, ev_tup, ev_lst, ev_mkb, ev_ix, ev_slice, ev_call, ev_bf, ev_isi, ev_isi2, ev_lrng, ev_lzip, ev_sset, ev_lset, evL_nil, evL_cons, evO_none, evO_some, evC_none, evC_some, evI_seq, evI_rng, evI_zip, evI_enum, sx, getV, frzE, Sl.frz, asB, asI]))).trans ((B_nx ((S_for (ds := rows.map rowT) ?_).trans e)).trans ((B_nx (S_set (d := .lst ((gridX w u rows d).map rowT)) ?_)).trans B_nil))
      · simp [ev_var, ev_own, ev_con, ev_glob, ev_bin, ev_rep, ev_neg, ev_cmp, ev_chain, ev_isn, ev_notn, ev_and, ev_or, ev_not, ev_ife, ev_tup, ev_lst, ev_mkb, ev_ix, ev_slice, ev_call, ev_bf, ev_isi, ev_isi2, ev_lrng, ev_lzip, ev_sset, ev_lset, evL_nil, evL_cons, evO_none, evO_some, evC_none, evC_some, evI_seq, evI_rng, evI_zip, evI_enum, sx, getV, frzE, Sl.frz, asB, asI, seqOf]
      · show ev _ _ [.val (cupD w ds ls), .val (.int u), .val (.lst (rows.map rowT)), .val (.int d.1), .val (.int d.2), .val (.lst ((gridX w u rows d).map rowT)), x6', x7'] = _
        simp [ev_var, ev_own, ev_con, ev_glob, ev_bin, ev_rep, ev_neg, ev_cmp, ev_chain, ev_isn, ev_notn, ev_and, ev_or, ev_not, ev_ife, ev_tup, ev_lst, ev_mkb, ev_ix, ev_slice, ev_call, ev_bf, ev_isi, ev_isi2, ev_lrng, ev_lzip, ev_sset, ev_lset, evL_nil, evL_cons, evO_none, evO_some, evC_none, evC_some, evI_seq, evI_rng, evI_zip, evI_enum, sx, getV, frzE, Sl.frz, asB, asI]
    · have := gridX_len (w := w) (u := u) (rows := rows) (d := d) (by
        have dw0 := dk.w0
        have dw1 := dk.w1
        have c1 : (w - d.2) * u ≤ 4 * 4 := Int.mul_le_mul (by omega) u1 (by omega) (by omega)
        omega)
      rw [Nat.pow_succ]
      omega
/-- a cupboard that stands has a whole place -/
theorem grid_some {w : Int} {ds : List Door} {ls : List Lip} (h : CupOk w ds ls) : ∃ r, r ∈ (gridR w 1 ds).filter (keepB w 1 ds ls) := by
  obtain ⟨p, kp, _⟩ := h.ex
  -- the wall at 0
  obtain ⟨q, hq⟩ : ∃ q : Int → Int, ∀ i, q i = p i - p 0 := ⟨_, fun i => rfl⟩
  have kq : Keeps (bndP w ds ls) 1 q := fun l hl => by
    have := kp l hl
    rw [hq, hq]
    omega
  have q0 : q 0 = 0 := by rw [hq]; omega
  let r : List Int := 0 :: (List.range ds.length).map fun (k : Nat) => q ((k : Int) + 1)
  have rq : ∀ i : Int, 0 ≤ i → i ≤ ds.length → rowP r i = q i := fun i h0 h1 => by
    unfold rowP
    cases hk : i.toNat with
    | zero =>
      have : i = 0 := by omega
      subst this
      rw [q0] <;> rfl
    | succ k =>
      have : i = (k : Int) + 1 := by omega
      subst this
      show ((List.range ds.length).map fun (k : Nat) => q ((k : Int) + 1)).getD k 0 = _
      rw [getD_map (fun (k : Nat) => q ((k : Int) + 1)) _ k 0 _ (by rw [List.length_range]; omega), range_getD (by omega)]
  refine ⟨r, List.mem_filter.mpr ⟨mem_grid.mpr ⟨_, by simp, rfl, fun k hk => ?_⟩, keepB_iff.mpr fun l hl => ?_⟩⟩
  · rw [getD_map (fun (k : Nat) => q ((k : Int) + 1)) _ k 0 _ (by rw [List.length_range]; omega), range_getD hk]
    have m1 : (((k : Int) + 1, 0, w - (dr ds k).2) : Lip) ∈ bndP w ds ls := by
      unfold bndP
      exact List.mem_append_left _ (List.mem_append_left _ (List.mem_append_left _ (List.mem_map.mpr ⟨k, List.mem_range.mpr (by omega), rfl⟩)))
    have m2 : ((0, (k : Int) + 1, 0) : Lip) ∈ bndP w ds ls := by
      unfold bndP
      exact List.mem_append_left _ (List.mem_append_left _ (List.mem_append_right _ (List.mem_map.mpr ⟨k, List.mem_range.mpr (by omega), rfl⟩)))
    have a := kq _ m1
    have b := kq _ m2
    simp only [q0] at a b
    omega
  · obtain ⟨k1, k2, k3, k4, _, _⟩ := bndP_ix h.sh hl
    rw [rq _ k1 k2, rq _ k3 k4]
    exact kq l hl
end Mi
end
section
set_option Elab.async false
set_option linter.all false
set_option maxRecDepth 100000
set_option maxHeartbeats 2000000
/-! P30: where one starts. -/
namespace Mi
open PySem L2
theorem keeps_congr {w u : Int} {ds : List Door} {ls : List Lip} {p q : Int → Int} (h : Shape w ds ls) (e : ∀ i : Int, 0 ≤ i → i ≤ ds.length → p i = q i) (hk : Keeps (bndP w ds ls) u p) : Keeps (bndP w ds ls) u q := fun l hl => by
  obtain ⟨k1, k2, k3, k4, _, _⟩ := bndP_ix h hl
  rw [← e _ k1 k2, ← e _ k3 k4]
  exact hk l hl
/-- a row by a function of the places -/
def fnR (m : Nat) (f : Int → Int) : List Int := 0 :: (List.range m).map fun (k : Nat) => f (1 + (k : Int))
theorem fnR_len (m : Nat) (f : Int → Int) : (fnR m f).length = m + 1 := by simp [fnR]
theorem fnR_at {m : Nat} {f : Int → Int} (h0 : f 0 = 0) (i : Int) (i0 : 0 ≤ i) (i1 : i ≤ m) : rowP (fnR m f) i = f i := by
  unfold rowP fnR
  cases hk : i.toNat with
  | zero =>
    have : i = 0 := by omega
    subst this
    rw [h0] <;> rfl
  | succ k =>
    have : i = 1 + (k : Int) := by omega
    subst this
    show ((List.range m).map fun (k : Nat) => f (1 + (k : Int))).getD k 0 = _
    rw [getD_map (fun (k : Nat) => f (1 + (k : Int))) _ k 0 _ (by rw [List.length_range]; omega), range_getD (by omega)]
theorem rng1 {m : Nat} (h : m ≤ 1000) : rngD 1 ((m : Int) + 1) = some ((List.range m).map fun (k : Nat) => D.int (1 + (k : Int))) := by
  unfold rngD
  rw [if_pos ⟨by omega, by omega, by omega, by omega, by show ((m : Int) + 1 - 1).toNat ≤ 16777216; omega⟩]
  rw [show ((m : Int) + 1 - 1).toNat = m by omega]
theorem b_sum (xs : List D) : bfn .sum [.lst xs] = (intsOf xs).map fun is => .int is.sum := rfl
theorem w_F44 {W n : Nat} {s : Sto} {l : Nat} {T w : Int} {ds : List Door} {ls : List Lip} (hd : Dk s l T) (hT : T < 900000000) (h : CupOk w ds ls) :
    ∃ (u : Int) (xs : List Int) (s' : Sto), callN TT W (n + 4) 44 [.box l, cupD w ds ls] s = .ok (.tup [.int u, rowT xs]) s' ∧ 1 ≤ u ∧ u ≤ 1000003 ∧ xs.length = ds.length + 1 ∧ rowP xs 0 = 0 ∧ Keeps (bndP w ds ls) u (rowP xs) ∧ Dk s' l (T + 6) := by
  have sh := h.sh
  have d0 := sh.d0
  have d1 := sh.d1
  have c43 := w_F43 (W := W) (n := n) (u := 1) sh (by decide) (by decide)
  let ev_ : List (List Int) := (gridR w 1 ds).filter (keepB w 1 ds ls)
  have ne : 0 < ev_.length := by
    obtain ⟨r, hr⟩ := grid_some h
    exact List.length_pos_of_mem hr
  have el : ev_.length < 1000000000 := by
    have a : ev_.length ≤ (gridR w 1 ds).length := List.length_filter_le _ _
    have b : ∀ (es : List Door) (rows : List (List Int)), (∀ d ∈ es, DoorOk w d) → (es.foldl (gridX w 1) rows).length ≤ rows.length * 17 ^ es.length := by
      intro es
      induction es with
      | nil => intro rows _; simp
      | cons d es ih =>
        intro rows hes
        rw [List.foldl_cons]
        have dk := hes d List.mem_cons_self
        have g := gridX_len (w := w) (u := 1) (rows := rows) (d := d) (by
          have dw0 := dk.w0
          have dw1 := dk.w1
          have w1 := sh.w1
          omega)
        have i := ih (gridX w 1 rows d) fun d hd => hes d (List.mem_cons_of_mem _ hd)
        have m := Nat.mul_le_mul_right (17 ^ es.length) g
        rw [List.length_cons, Nat.pow_succ]
        have e : rows.length * (17 ^ es.length * 17) = rows.length * 17 * 17 ^ es.length := by grind
        omega
    have c := b ds [[0]] sh.dok
    have p : 17 ^ ds.length ≤ 17 ^ 3 := Nat.pow_le_pow_right (by decide) d1
    have c' : (gridR w 1 ds).length ≤ 1 * 17 ^ ds.length := c
    omega
  have evr : ∀ r ∈ ev_, r.length = ds.length + 1 ∧ rowP r 0 = 0 ∧ Keeps (bndP w ds ls) 1 (rowP r) := fun r hr => by
    obtain ⟨h1, h2⟩ := List.mem_filter.mp hr
    obtain ⟨xs, l1, rfl, _⟩ := mem_grid.mp h1
    exact ⟨by rw [List.length_cons, l1], rfl, keepB_iff.mp h2⟩
  -- the unit
  obtain ⟨k, v, s1, hv, c1, k1⟩ := w_F30 (W := W) (n := n + 1) (xs := [.int 1, .int 2, .int 3, .int 4, .int 7, .int 12, .int 1000003]) hd (by omega) (by decide) (by decide)
  obtain ⟨u, rfl, u0, u1⟩ : ∃ u, v = .int u ∧ 1 ≤ u ∧ u ≤ 1000003 := by
    have hm := List.mem_of_getElem? hv
    simp only [List.mem_cons, List.not_mem_nil, or_false] at hm
    rcases hm with rfl | rfl | rfl | rfl | rfl | rfl | rfl <;> exact ⟨_, rfl, by decide, by decide⟩
  -- three rows
  have hr3 := rng0 (m := 3) (by omega)
  have hr3' : rngD 0 3 = _ := hr3
  obtain ⟨vs, s2, e2, l2, p2, j2⟩ := lc_st (Φ := callN TT W (n + 3)) (ρ := [.val (.box l), .val (cupD w ds ls), .val (.lst (ev_.map rowT)), .val (.int u), .no, .no, .no, .no, .no, .no, .no, .no]) (s := s1) (e := .call 30 (.cons (.var 0) (.cons (.var 2) .nil))) (t := .nm 5) (it := .rng (.cons (.con (.int 3)) .nil)) (vs := [5])
    (fun k s => Dk s l (T + 1 + (k : Int))) (fun v => ∃ r, v = rowT r ∧ r ∈ ev_) (ds := (List.range 3).map fun (k : Nat) => D.int (k : Int)) (s0 := s1) (by simp only [ev_var, ev_own, ev_con, ev_glob, ev_bin, ev_rep, ev_neg, ev_cmp, ev_chain, ev_isn, ev_notn, ev_and, ev_or, ev_not, ev_ife, ev_tup, ev_lst, ev_mkb, ev_ix, ev_slice, ev_call, ev_bf, ev_isi, ev_isi2, ev_lrng, ev_lzip, ev_sset, ev_lset, evL_nil, evL_cons, evO_none, evO_some, evC_none, evC_some, evI_seq, evI_rng, evI_zip, evI_enum, sx, getV, frzE, Sl.frz, asB, asI, bnd_pur, hr3', lif_some, pur]) (by simpa using k1) fun i d s' hi hj => by
      have hi' : i < 3 := by
        have := (List.getElem?_eq_some_iff.mp hi).1
        simpa using this
      obtain ⟨k, v, s2, hv, c, dk⟩ := w_F30 (W := W) (n := n + 1) (xs := ev_.map rowT) hj (by omega) (by rw [List.length_map]; exact ne) (by rw [List.length_map]; exact el)
      have hm := List.mem_of_getElem? hv
      obtain ⟨r, hr, rfl⟩ := List.mem_map.mp hm
      refine ⟨_, rowT r, s2, rfl, ?_, ⟨r, rfl, hr⟩, dk.mono (by omega)⟩
      exact ev_callS (xs := [.box l, .lst (ev_.map rowT)]) (by simp [ev_var, ev_own, ev_con, ev_glob, ev_bin, ev_rep, ev_neg, ev_cmp, ev_chain, ev_isn, ev_notn, ev_and, ev_or, ev_not, ev_ife, ev_tup, ev_lst, ev_mkb, ev_ix, ev_slice, ev_call, ev_bf, ev_isi, ev_isi2, ev_lrng, ev_lzip, ev_sset, ev_lset, evL_nil, evL_cons, evO_none, evO_some, evC_none, evC_some, evI_seq, evI_rng, evI_zip, evI_enum, sx, getV, frzE, Sl.frz, asB, asI, wipeD]) c
  obtain ⟨rs, rfl, rok⟩ := ex_map p2
  rw [List.length_map, List.length_map, List.length_range] at l2
  rw [List.length_map, List.length_range] at j2
  obtain ⟨ra, rb, rc, rfl⟩ : ∃ ra rb rc, rs = [ra, rb, rc] := by
    match rs, l2 with
    | [ra, rb, rc], _ => exact ⟨ra, rb, rc, rfl⟩
  obtain ⟨la, za, ka⟩ := evr ra (rok ra (by simp))
  obtain ⟨lb, zb, kb⟩ := evr rb (rok rb (by simp))
  obtain ⟨lc, zc, kc⟩ := evr rc (rok rc (by simp))
  -- the parts
  obtain ⟨a, s3, c3, a0, a1, d3⟩ := w_F29 (W := W) (n := n + 2) (z := u + 1) j2 (by omega) (by omega) (by omega)
  obtain ⟨b, s4, c4, b0, b1, d4⟩ := w_F29 (W := W) (n := n + 2) (z := u - a + 1) d3 (by omega) (by omega) (by omega)
  let mx : Int → Int := fun i => a * rowP ra i + b * rowP rb i + (u - a - b) * rowP rc i
  have mx0 : mx 0 = 0 := by
    show a * rowP ra 0 + b * rowP rb 0 + (u - a - b) * rowP rc 0 = 0
    rw [za, zb, zc]
    simp
  let E : Nat → Sl → Ev := fun k x5 => [.val (.box l), .val (cupD w ds ls), .val (.lst (ev_.map rowT)), .val (.int u), .val (.lst ([ra, rb, rc].map rowT)), x5, .val (.int a), .val (.int b), .val (.lst [.int a, .int b, .int (u - a - b)]), .val (rowT (fnR k mx)), .no, .no]
  let body : CB := .cons (.set 9 (.bin .add (.var 9) (.tup (.cons (.bf .sum (.cons (.lc (.bin .mul (.var 10) (.ix (.var 11) (.var 5))) (.tp (.cons (.nm 10) (.cons (.nm 11) .nil))) (.zip (.var 8) (.var 4)) .none [10, 11]) .nil)) .nil)))) .nil
  have lp := forL_inv (f := fun d ρ s => match tgt (.nm 5) d ρ with
      | some ρ' => evB (callN TT W (n + 3)) W body ρ' s
      | none => .stuck) (fun k ρ s' => s' = s4 ∧ ∃ x5, ρ = E k x5) ((List.range ds.length).map fun (k : Nat) => D.int (1 + (k : Int))) 0 (ρ := E 0 .no) (s := s4) ⟨rfl, _, rfl⟩ ?_
  · obtain ⟨ρ', s5, e5, rfl, x5, rfl⟩ := lp
    rw [List.length_map, List.length_range, Nat.zero_add] at e5
    refine ⟨u, fnR ds.length mx, s5, callN_S T44 rfl ?_, u0, u1, fnR_len _ _, by rw [fnR_at mx0 0 (by decide) (by omega), mx0], ?_, d4.mono (by omega)⟩
    · show evB (callN TT W (n + 3)) W F44.body [.val (.box l), .val (cupD w ds ls), .no, .no, .no, .no, .no, .no, .no, .no, .no, .no] s = _
      refine (B_nx (S_parS (d := .lst (ev_.map rowT)) (s' := s) (d2 := .int u) (s'' := s1) ?_ ?_)).trans ((B_nx (S_setS e2)).trans ((B_nx (S_setS (d := .int a) (s' := s3) ?_)).trans ((B_nx (S_setS (d := .int b) (s' := s5) ?_)).trans ((B_nx (S_set (d := .lst [.int a, .int b, .int (u - a - b)]) ?_)).trans ((B_nx (S_set (d := rowT (fnR 0 mx)) ?_)).trans ((B_nx ((S_for (ds := (List.range ds.length).map fun (k : Nat) => D.int (1 + (k : Int))) ?_).trans e5)).trans (B_rt (S_ret ?_))))))))
      · exact ev_callS (xs := [cupD w ds ls, .int 1]) (by simp [ev_var, ev_own, ev_con, ev_glob, ev_bin, ev_rep, ev_neg, ev_cmp, ev_chain, ev_isn, ev_notn, ev_and, ev_or, ev_not, ev_ife, ev_tup, ev_lst, ev_mkb, ev_ix, ev_slice, ev_call, ev_bf, ev_isi, ev_isi2, ev_lrng, ev_lzip, ev_sset, ev_lset, evL_nil, evL_cons, evO_none, evO_some, evC_none, evC_some, evI_seq, evI_rng, evI_zip, evI_enum, sx, getV, frzE, Sl.frz, asB, asI]) (congrFun c43 s)
      · exact ev_callS (xs := [.box l, .lst [.int 1, .int 2, .int 3, .int 4, .int 7, .int 12, .int 1000003]]) (by simp [ev_var, ev_own, ev_con, ev_glob, ev_bin, ev_rep, ev_neg, ev_cmp, ev_chain, ev_isn, ev_notn, ev_and, ev_or, ev_not, ev_ife, ev_tup, ev_lst, ev_mkb, ev_ix, ev_slice, ev_call, ev_bf, ev_isi, ev_isi2, ev_lrng, ev_lzip, ev_sset, ev_lset, evL_nil, evL_cons, evO_none, evO_some, evC_none, evC_some, evI_seq, evI_rng, evI_zip, evI_enum, sx, getV, frzE, Sl.frz, asB, asI]) c1
      · exact ev_callS (xs := [.box l, .int (u + 1)]) (by simp [ev_var, ev_own, ev_con, ev_glob, ev_bin, ev_rep, ev_neg, ev_cmp, ev_chain, ev_isn, ev_notn, ev_and, ev_or, ev_not, ev_ife, ev_tup, ev_lst, ev_mkb, ev_ix, ev_slice, ev_call, ev_bf, ev_isi, ev_isi2, ev_lrng, ev_lzip, ev_sset, ev_lset, evL_nil, evL_cons, evO_none, evO_some, evC_none, evC_some, evI_seq, evI_rng, evI_zip, evI_enum, sx, getV, frzE, Sl.frz, asB, asI, o_addI]) c3
      · exact ev_callS (xs := [.box l, .int (u - a + 1)]) (by simp [ev_var, ev_own, ev_con, ev_glob, ev_bin, ev_rep, ev_neg, ev_cmp, ev_chain, ev_isn, ev_notn, ev_and, ev_or, ev_not, ev_ife, ev_tup, ev_lst, ev_mkb, ev_ix, ev_slice, ev_call, ev_bf, ev_isi, ev_isi2, ev_lrng, ev_lzip, ev_sset, ev_lset, evL_nil, evL_cons, evO_none, evO_some, evC_none, evC_some, evI_seq, evI_rng, evI_zip, evI_enum, sx, getV, frzE, Sl.frz, asB, asI, o_addI, o_subI]) c4
      · simp [ev_var, ev_own, ev_con, ev_glob, ev_bin, ev_rep, ev_neg, ev_cmp, ev_chain, ev_isn, ev_notn, ev_and, ev_or, ev_not, ev_ife, ev_tup, ev_lst, ev_mkb, ev_ix, ev_slice, ev_call, ev_bf, ev_isi, ev_isi2, ev_lrng, ev_lzip, ev_sset, ev_lset, evL_nil, evL_cons, evO_none, evO_some, evC_none, evC_some, evI_seq, evI_rng, evI_zip, evI_enum, sx, getV, frzE, Sl.frz, asB, asI, o_subI]
      · simp [ev_var, ev_own, ev_con, ev_glob, ev_bin, ev_rep, ev_neg, ev_cmp, ev_chain, ev_isn, ev_notn, ev_and, ev_or, ev_not, ev_ife, ev_tup, ev_lst, ev_mkb, ev_ix, ev_slice, ev_call, ev_bf, ev_isi, ev_isi2, ev_lrng, ev_lzip, ev_sset, ev_lset, evL_nil, evL_cons, evO_none, evO_some, evC_none, evC_some, evI_seq, evI_rng, evI_zip, evI_enum, sx, getV, frzE, Sl.frz, asB, asI, rowT, fnR]
      · show evI _ _ [.val (.box l), .val (cupD w ds ls), .val (.lst (ev_.map rowT)), .val (.int u), .val (.lst ([ra, rb, rc].map rowT)), .no, .val (.int a), .val (.int b), .val (.lst [.int a, .int b, .int (u - a - b)]), .val (rowT (fnR 0 mx)), .no, .no] = _
        have r1 := rng1 (m := ds.length) (by omega)
        have ll : ((ra.map D.int).length : Int) = (ds.length : Int) + 1 := by rw [List.length_map, la]; omega
        simp only [ev_var, ev_own, ev_con, ev_glob, ev_bin, ev_rep, ev_neg, ev_cmp, ev_chain, ev_isn, ev_notn, ev_and, ev_or, ev_not, ev_ife, ev_tup, ev_lst, ev_mkb, ev_ix, ev_slice, ev_call, ev_bf, ev_isi, ev_isi2, ev_lrng, ev_lzip, ev_sset, ev_lset, evL_nil, evL_cons, evO_none, evO_some, evC_none, evC_some, evI_seq, evI_rng, evI_zip, evI_enum, sx, getV, frzE, Sl.frz, asB, asI, List.getElem?_cons_zero, List.getElem?_cons_succ, bnd_pur, lif_some, List.map_cons, ix0l, rowT, b_lenT, ll, r1]
      · show ev _ _ [.val (.box l), .val (cupD w ds ls), .val (.lst (ev_.map rowT)), .val (.int u), .val (.lst ([ra, rb, rc].map rowT)), x5.frz, .val (.int a), .val (.int b), .val (.lst [.int a, .int b, .int (u - a - b)]), .val (rowT (fnR ds.length mx)), .no, .no] = _
        simp [ev_var, ev_own, ev_con, ev_glob, ev_bin, ev_rep, ev_neg, ev_cmp, ev_chain, ev_isn, ev_notn, ev_and, ev_or, ev_not, ev_ife, ev_tup, ev_lst, ev_mkb, ev_ix, ev_slice, ev_call, ev_bf, ev_isi, ev_isi2, ev_lrng, ev_lzip, ev_sset, ev_lset, evL_nil, evL_cons, evO_none, evO_some, evC_none, evC_some, evI_seq, evI_rng, evI_zip, evI_enum, sx, getV, frzE, Sl.frz, asB, asI]
    · refine keeps_congr sh (p := mx) (fun i i0 i1 => (fnR_at mx0 i i0 i1).symm) ?_
      have := keeps_mix (a := a) (b := b) (c := u - a - b) a0 b0 (by omega) ka kb kc
      rwa [show a + b + (u - a - b) = u by omega] at this
  · rintro k d ρ s' hi ⟨rfl, x5, rfl⟩
    have hk : k < ds.length := by
      have := (List.getElem?_eq_some_iff.mp hi).1
      simpa using this
    rw [Nat.zero_add] at *
    have ed : d = .int (1 + (k : Int)) := by
      simp only [List.getElem?_map, List.getElem?_range hk] at hi
      exact (Option.some.inj hi).symm
    subst ed
    refine ⟨E (k + 1) (.val (.int (1 + (k : Int)))), s', ?_, rfl, _, rfl⟩
    show evB _ _ body [.val (.box l), .val (cupD w ds ls), .val (.lst (ev_.map rowT)), .val (.int u), .val (.lst ([ra, rb, rc].map rowT)), .val (.int (1 + (k : Int))), .val (.int a), .val (.int b), .val (.lst [.int a, .int b, .int (u - a - b)]), .val (rowT (fnR k mx)), .no, .no] s' = _
    refine (B_nx (S_set (d := rowT (fnR (k + 1) mx)) ?_)).trans B_nil
    have lce : ev (callN TT W (n + 3)) (.lc (.bin .mul (.var 10) (.ix (.var 11) (.var 5))) (.tp (.cons (.nm 10) (.cons (.nm 11) .nil))) (.zip (.var 8) (.var 4)) .none [10, 11]) [.val (.box l), .val (cupD w ds ls), .val (.lst (ev_.map rowT)), .val (.int u), .val (.lst ([ra, rb, rc].map rowT)), .val (.int (1 + (k : Int))), .val (.int a), .val (.int b), .val (.lst [.int a, .int b, .int (u - a - b)]), .val (rowT (fnR k mx)), .no, .no] = pur (.lst ([(a, ra), (b, rb), (u - a - b, rc)].map fun p => .int (p.1 * rowP p.2 (1 + (k : Int))))) := by
      refine lc_map (xs := [(a, ra), (b, rb), (u - a - b, rc)]) (cv := fun p => .tup [.int p.1, rowT p.2]) ?_ fun p hp => ⟨_, rfl, ?_⟩
      · simp [ev_var, ev_own, ev_con, ev_glob, ev_bin, ev_rep, ev_neg, ev_cmp, ev_chain, ev_isn, ev_notn, ev_and, ev_or, ev_not, ev_ife, ev_tup, ev_lst, ev_mkb, ev_ix, ev_slice, ev_call, ev_bf, ev_isi, ev_isi2, ev_lrng, ev_lzip, ev_sset, ev_lset, evL_nil, evL_cons, evO_none, evO_some, evC_none, evC_some, evI_seq, evI_rng, evI_zip, evI_enum, sx, getV, frzE, Sl.frz, asB, asI, zipD]
      · have hb : p.1.natAbs < 18446744073709551616 ∧ p.2.length = ds.length + 1 := by
          simp only [List.mem_cons, List.not_mem_nil, or_false] at hp
          rcases hp with rfl | rfl | rfl
          · exact ⟨by show a.natAbs < _; omega, la⟩
          · exact ⟨by show b.natAbs < _; omega, lb⟩
          · exact ⟨by show (u - a - b).natAbs < _; omega, lc⟩
        have ix := rowT_ix (xs := p.2) (i := 1 + (k : Int)) (by omega) (by omega)
        simp [ev_var, ev_own, ev_con, ev_glob, ev_bin, ev_rep, ev_neg, ev_cmp, ev_chain, ev_isn, ev_notn, ev_and, ev_or, ev_not, ev_ife, ev_tup, ev_lst, ev_mkb, ev_ix, ev_slice, ev_call, ev_bf, ev_isi, ev_isi2, ev_lrng, ev_lzip, ev_sset, ev_lset, evL_nil, evL_cons, evO_none, evO_some, evC_none, evC_some, evI_seq, evI_rng, evI_zip, evI_enum, sx, getV, frzE, Sl.frz, asB, asI, wipeD, ix, o_mulI _ _ (.inl hb.1)]
    have sm : bfn .sum [.lst ([(a, ra), (b, rb), (u - a - b, rc)].map fun p => .int (p.1 * rowP p.2 (1 + (k : Int))))] = some (.int (mx (1 + (k : Int)))) := by
      rw [b_sum, intsOf_map]
      refine congrArg (fun i => some (D.int i)) ?_
      show a * rowP ra (1 + (k : Int)) + (b * rowP rb (1 + (k : Int)) + ((u - a - b) * rowP rc (1 + (k : Int)) + 0)) = a * rowP ra (1 + (k : Int)) + b * rowP rb (1 + (k : Int)) + (u - a - b) * rowP rc (1 + (k : Int))
      omega
    have ra' := rows_app (fnR k mx) (mx (1 + (k : Int)))
    rw [if_pos (by rw [fnR_len]; show _ ≤ 16777216; omega)] at ra'
    have fs : fnR k mx ++ [mx (1 + (k : Int))] = fnR (k + 1) mx := by
      unfold fnR
      rw [List.range_succ, List.map_append] <;> rfl
    rw [fs] at ra'
    rw [ev_bin, ev_var, ev_tup, evL_cons, ev_bf, evL_cons, lce]
    simp only [ev_var, ev_own, ev_con, ev_glob, ev_bin, ev_rep, ev_neg, ev_cmp, ev_chain, ev_isn, ev_notn, ev_and, ev_or, ev_not, ev_ife, ev_tup, ev_lst, ev_mkb, ev_ix, ev_slice, ev_call, ev_bf, ev_isi, ev_isi2, ev_lrng, ev_lzip, ev_sset, ev_lset, evL_nil, evL_cons, evO_none, evO_some, evC_none, evC_some, evI_seq, evI_rng, evI_zip, evI_enum, sx, getV, frzE, Sl.frz, asB, asI, List.getElem?_cons_zero, List.getElem?_cons_succ, bnd_pur, lif_some, sm, ra']
end Mi
end
section
set_option Elab.async false
set_option linter.all false
set_option maxRecDepth 100000
set_option maxHeartbeats 2000000
/-! P31: the greatest difference. -/
namespace Mi
open PySem L2
def absI (a : Int) : Int := if a < 0 then -a else a
theorem absI_nn (a : Int) : 0 ≤ absI a := by
  unfold absI
  split <;> omega
theorem Q.abs {M q : Int} {f : Fq} (hM : 0 < M) (h : Q M q f) : Q M (absI q) (absI f.1, f.2) := by
  obtain ⟨p, e⟩ := h
  refine ⟨p, ?_⟩
  show absI q * f.2 = absI f.1 * M
  unfold absI
  by_cases h1 : q < 0 <;> by_cases h2 : f.1 < 0
  · rw [if_pos h1, if_pos h2, Int.neg_mul, Int.neg_mul, e]
  · have a : q * f.2 < 0 := Int.mul_neg_of_neg_of_pos h1 p
    have b : 0 ≤ f.1 * M := Int.mul_nonneg (by omega) (by omega)
    omega
  · have a : f.1 * M < 0 := Int.mul_neg_of_neg_of_pos h2 hM
    have b : 0 ≤ q * f.2 := Int.mul_nonneg (by omega) (by omega)
    omega
  · rw [if_neg h1, if_neg h2, e]
theorem b_absI (a : Int) : bfn .abs [.int a] = some (.int (absI a)) := rfl
/-- denominators of differences -/
def Db (f : Fq) : Prop := 1 ≤ f.2 ∧ f.2 ≤ 1000000000000000000
theorem Db.abs {f : Fq} (h : Db f) : f.2.natAbs < 18446744073709551616 := by
  have := h.1
  have := h.2
  omega
theorem zipT {α β : Type} (c : α → D) (d : β → D) : ∀ (xs : List α) (ys : List β), zipD (xs.map c) (ys.map d) = (xs.zip ys).map fun p => .tup [c p.1, d p.2]
  | [], _ => by simp [zipD]
  | _ :: _, [] => by simp [zipD]
  | x :: xs, y :: ys => by
    show D.tup [c x, d y] :: zipD (xs.map c) (ys.map d) = _
    rw [zipT c d xs ys] <;> rfl
theorem red_db {f g : Fq} (h1 : Dn f) (h2 : Dn g) : Db (redF (f.1 * g.2 - g.1 * f.2) (f.2 * g.2)) := by
  have p : 0 < f.2 * g.2 := Int.mul_pos (by have := h1.1; omega) (by have := h2.1; omega)
  have q : f.2 * g.2 ≤ 1000000000 * 1000000000 := Int.mul_le_mul h1.2.1 h2.2.1 (by have := h2.1; omega) (by omega)
  obtain ⟨k, k0, e1, e2⟩ := red_spec (f.1 * g.2 - g.1 * f.2) (f.2 * g.2) p
  generalize redF (f.1 * g.2 - g.1 * f.2) (f.2 * g.2) = r at *
  rw [e2] at p q
  have r0 : 0 < r.2 := Int.pos_of_mul_pos_left p (by omega)
  have := Int.mul_le_mul_of_nonneg_left (show 1 ≤ k by omega) (show 0 ≤ r.2 by omega)
  exact ⟨by omega, by omega⟩
/-- the gaps of two rows of fractions -/
def gapsF (fs gs : List Fq) : List Fq := (fs.zip gs).map fun p => redF (p.1.1 * p.2.2 - p.2.1 * p.1.2) (p.1.2 * p.2.2)
theorem gaps_q {m : Nat} {M : Int} {fs gs : List Fq} {p q : Int → Int} (h1 : Pl m M fs p) (h2 : Pl m M gs q) (d1 : ∀ f ∈ fs, Dn f) (d2 : ∀ f ∈ gs, Dn f) : (gapsF fs gs).length = m ∧ ∀ k, k < m → ∃ g, (gapsF fs gs)[k]? = some g ∧ Db g ∧ Q M (p ((k : Int) + 1) - q ((k : Int) + 1)) g := by
  have l1 := h1.len
  have l2 := h2.len
  refine ⟨by unfold gapsF; rw [List.length_map, List.length_zip]; omega, fun k hk => ?_⟩
  have e1 : fs[k]? = some (fs.getD k (0, 1)) := by
    rw [List.getD_eq_getElem?_getD, List.getElem?_eq_getElem (by omega)] <;> rfl
  have e2 : gs[k]? = some (gs.getD k (0, 1)) := by
    rw [List.getD_eq_getElem?_getD, List.getElem?_eq_getElem (by omega)] <;> rfl
  have m1 := List.mem_of_getElem? e1
  have m2 := List.mem_of_getElem? e2
  refine ⟨_, ?_, red_db (d1 _ m1) (d2 _ m2), Q.red h1.M0 (h1.q k hk) (h2.q k hk)⟩
  unfold gapsF
  rw [List.getElem?_map, List.getElem?_zip_eq_some (z := (fs.getD k (0, 1), gs.getD k (0, 1))).mpr ⟨e1, e2⟩] <;> rfl
theorem w_F47 {n m : Nat} {M : Int} {fs gs : List Fq} {p q : Int → Int} (h1 : Pl m M fs p) (h2 : Pl m M gs q) (d1 : ∀ f ∈ fs, Dn f) (d2 : ∀ f ∈ gs, Dn f) :
    ∀ s, ∃ (b : Fq) (v : Int), callN TT WF (n + 3) 47 [.tup (fs.map fqD), .tup (gs.map fqD)] s = .ok (fqD b) s ∧ Db b ∧ Q M v b ∧ 0 ≤ v ∧ (∀ k, k < m → absI (p ((k : Int) + 1) - q ((k : Int) + 1)) ≤ v) ∧ (v = 0 ∨ ∃ k, k < m ∧ v = absI (p ((k : Int) + 1) - q ((k : Int) + 1))) := by
  obtain ⟨gl, gq⟩ := gaps_q h1 h2 d1 d2
  have hM := h1.M0
  obtain ⟨G, hG⟩ : ∃ G, G = gapsF fs gs := ⟨_, rfl⟩
  rw [← hG] at gl gq
  let body : CB := .cons (.iff (.cmp .gt (.bin .mul (.bf .abs (.cons (.var 6) .nil)) (.ix (.var 5) (.con (.int 1)))) (.bin .mul (.ix (.var 5) (.con (.int 0))) (.var 7))) (.cons (.set 5 (.tup (.cons (.bf .abs (.cons (.var 6) .nil)) (.cons (.var 7) .nil)))) .nil) .nil) .nil
  let E : Fq → Sl → Sl → Ev := fun b x6 x7 => [.val (.tup (fs.map fqD)), .val (.tup (gs.map fqD)), .val (.lst (G.map fqD)), .no, .no, .val (fqD b), x6, x7]
  let I : Nat → Fq → Int → Prop := fun k b v => Db b ∧ Q M v b ∧ 0 ≤ v ∧ (∀ j, j < k → absI (p ((j : Int) + 1) - q ((j : Int) + 1)) ≤ v) ∧ (v = 0 ∨ ∃ j, j < m ∧ v = absI (p ((j : Int) + 1) - q ((j : Int) + 1)))
  have main : ∀ s, ∃ (b : Fq) (v : Int), (∃ x6 x7, forL (fun d ρ s => match tgt (.tp (.cons (.nm 6) (.cons (.nm 7) .nil))) d ρ with
      | some ρ' => evB (callN TT WF (n + 2)) WF body ρ' s
      | none => .stuck) (G.map fqD) (E (0, 1) .no .no) s = .nx (E b x6 x7) s) ∧ I m b v := by
    intro s
    have lp := forL_inv (f := fun d ρ s => match tgt (.tp (.cons (.nm 6) (.cons (.nm 7) .nil))) d ρ with
      | some ρ' => evB (callN TT WF (n + 2)) WF body ρ' s
      | none => .stuck) (fun k ρ s' => s' = s ∧ ∃ (b : Fq) (v : Int) (x6 x7 : Sl), ρ = E b x6 x7 ∧ I k b v) (G.map fqD) 0 (ρ := E (0, 1) .no .no) (s := s) ⟨rfl, (0, 1), 0, _, _, rfl, ⟨by decide, by decide⟩, ⟨by decide, by simp⟩, Int.le_refl _, fun j hj => absurd hj (Nat.not_lt_zero _), .inl rfl⟩ ?_
    · obtain ⟨ρ', s', e, rfl, b, v, x6, x7, rfl, hi⟩ := lp
      rw [List.length_map, Nat.zero_add, gl] at hi
      exact ⟨b, v, ⟨x6, x7, e⟩, hi⟩
    · rintro k d ρ s' hd' ⟨rfl, b, v, x6, x7, rfl, i1, i2, i3, i4, i5⟩
      rw [Nat.zero_add] at *
      have hk : k < m := by
        have := (List.getElem?_eq_some_iff.mp hd').1
        rw [List.length_map, gl] at this
        exact this
      obtain ⟨g, eg, gd, gqq⟩ := gq k hk
      have ed : d = fqD g := by
        rw [List.getElem?_map, eg] at hd'
        exact (Option.some.inj hd').symm
      subst ed
      have qa := gqq.abs hM
      have lt := Q.lt hM i2 qa
      have mu1 := o_mulI (absI g.1) b.2 (.inr i1.abs)
      have mu2 := o_mulI b.1 g.2 (.inr gd.abs)
      have cnd : ∀ z, decide (v < absI (p ((k : Int) + 1) - q ((k : Int) + 1))) = z → ev (callN TT WF (n + 2)) (.cmp .gt (.bin .mul (.bf .abs (.cons (.var 6) .nil)) (.ix (.var 5) (.con (.int 1)))) (.bin .mul (.ix (.var 5) (.con (.int 0))) (.var 7))) (E b (.val (.int g.1)) (.val (.int g.2))) = pur (.bl z) := by
        intro z hz
        show ev _ _ [.val (.tup (fs.map fqD)), .val (.tup (gs.map fqD)), .val (.lst (G.map fqD)), .no, .no, .val (fqD b), .val (.int g.1), .val (.int g.2)] = _
        have e : decide (b.1 * g.2 < absI g.1 * b.2) = z := by
          rw [← hz]
          exact decide_eq_decide.mpr lt
        simp only [ev_var, ev_own, ev_con, ev_glob, ev_bin, ev_rep, ev_neg, ev_cmp, ev_chain, ev_isn, ev_notn, ev_and, ev_or, ev_not, ev_ife, ev_tup, ev_lst, ev_mkb, ev_ix, ev_slice, ev_call, ev_bf, ev_isi, ev_isi2, ev_lrng, ev_lzip, ev_sset, ev_lset, evL_nil, evL_cons, evO_none, evO_some, evC_none, evC_some, evI_seq, evI_rng, evI_zip, evI_enum, sx, getV, frzE, Sl.frz, asB, asI, List.getElem?_cons_zero, List.getElem?_cons_succ, bnd_pur, lif_some, b_absI, fqD, ix0, ix1, mu1, mu2, c_gt, e, Option.map_some]
      have nx : ∀ ρ', evB (callN TT WF (n + 2)) WF body (E b (.val (.int g.1)) (.val (.int g.2))) s' = .nx ρ' s' → (match tgt (.tp (.cons (.nm 6) (.cons (.nm 7) .nil))) (fqD g) (E b x6 x7) with
        | some ρ' => evB (callN TT WF (n + 2)) WF body ρ' s'
        | none => .stuck) = .nx ρ' s' := fun ρ' h => h
      by_cases z : v < absI (p ((k : Int) + 1) - q ((k : Int) + 1))
      · refine ⟨E (absI g.1, g.2) (.val (.int g.1)) (.val (.int g.2)), s', nx _ ((B_nx ((S_if1 (cnd true (by simp [z]))).trans ((B_nx (S_set (d := fqD (absI g.1, g.2)) ?_)).trans B_nil))).trans B_nil), rfl, _, _, _, _, rfl, gd, qa, absI_nn _, fun j hj => ?_, .inr ⟨k, hk, rfl⟩⟩
        · show ev _ _ [.val (.tup (fs.map fqD)), .val (.tup (gs.map fqD)), .val (.lst (G.map fqD)), .no, .no, .val (fqD b), .val (.int g.1), .val (.int g.2)] = _
          simp [ev_var, ev_own, ev_con, ev_glob, ev_bin, ev_rep, ev_neg, ev_cmp, ev_chain, ev_isn, ev_notn, ev_and, ev_or, ev_not, ev_ife, ev_tup, ev_lst, ev_mkb, ev_ix, ev_slice, ev_call, ev_bf, ev_isi, ev_isi2, ev_lrng, ev_lzip, ev_sset, ev_lset, evL_nil, evL_cons, evO_none, evO_some, evC_none, evC_some, evI_seq, evI_rng, evI_zip, evI_enum, sx, getV, frzE, Sl.frz, asB, asI, b_absI, fqD]
        · by_cases e : j = k
          · subst e
            exact Int.le_refl _
          · have := i4 j (by omega)
            omega
      · refine ⟨E b (.val (.int g.1)) (.val (.int g.2)), s', nx _ ((B_nx ((S_if0 (cnd false (by simp [z]))).trans B_nil)).trans B_nil), rfl, _, _, _, _, rfl, i1, i2, i3, fun j hj => ?_, i5⟩
        by_cases e : j = k
        · subst e
          omega
        · exact i4 j (by omega)
  intro s
  obtain ⟨b, v, ⟨x6, x7, e⟩, hi⟩ := main s
  refine ⟨b, v, callN_S T47 rfl ?_, hi⟩
  show evB (callN TT WF (n + 2)) WF F47.body [.val (.tup (fs.map fqD)), .val (.tup (gs.map fqD)), .no, .no, .no, .no, .no, .no] s = _
  refine (B_nx (S_set (d := .lst (G.map fqD)) ?_)).trans ((B_nx (S_set (d := fqD (0, 1)) (by simp [ev_var, ev_own, ev_con, ev_glob, ev_bin, ev_rep, ev_neg, ev_cmp, ev_chain, ev_isn, ev_notn, ev_and, ev_or, ev_not, ev_ife, ev_tup, ev_lst, ev_mkb, ev_ix, ev_slice, ev_call, ev_bf, ev_isi, ev_isi2, ev_lrng, ev_lzip, ev_sset, ev_lset, evL_nil, evL_cons, evO_none, evO_some, evC_none, evC_some, evI_seq, evI_rng, evI_zip, evI_enum, sx, getV, frzE, Sl.frz, asB, asI, fqD]))).trans ((B_nx ((S_for (ds := G.map fqD) ?_).trans e)).trans (B_rt (S_ret ?_))))
  · have := lc_map (Φ := callN TT WF (n + 2)) (e := .call 46 (.cons (.var 3) (.cons (.var 4) .nil))) (t := .tp (.cons (.nm 3) (.cons (.nm 4) .nil))) (it := .zip (.var 0) (.var 1)) (vs := [3, 4]) (ρ := [.val (.tup (fs.map fqD)), .val (.tup (gs.map fqD)), .no, .no, .no, .no, .no, .no]) (xs := fs.zip gs) (cv := fun p => .tup [fqD p.1, fqD p.2]) (h := fun p => fqD (redF (p.1.1 * p.2.2 - p.2.1 * p.1.2) (p.1.2 * p.2.2))) (by simp [ev_var, ev_own, ev_con, ev_glob, ev_bin, ev_rep, ev_neg, ev_cmp, ev_chain, ev_isn, ev_notn, ev_and, ev_or, ev_not, ev_ife, ev_tup, ev_lst, ev_mkb, ev_ix, ev_slice, ev_call, ev_bf, ev_isi, ev_isi2, ev_lrng, ev_lzip, ev_sset, ev_lset, evL_nil, evL_cons, evO_none, evO_some, evC_none, evC_some, evI_seq, evI_rng, evI_zip, evI_enum, sx, getV, frzE, Sl.frz, asB, asI, zipT]) fun r hr => ⟨_, rfl, by
      have c := w_F46 (W := WF) (n := n) r.1 r.2 (d1 _ (List.of_mem_zip hr).1) (d2 _ (List.of_mem_zip hr).2) (by decide)
      simp [ev_var, ev_own, ev_con, ev_glob, ev_bin, ev_rep, ev_neg, ev_cmp, ev_chain, ev_isn, ev_notn, ev_and, ev_or, ev_not, ev_ife, ev_tup, ev_lst, ev_mkb, ev_ix, ev_slice, ev_call, ev_bf, ev_isi, ev_isi2, ev_lrng, ev_lzip, ev_sset, ev_lset, evL_nil, evL_cons, evO_none, evO_some, evC_none, evC_some, evI_seq, evI_rng, evI_zip, evI_enum, sx, getV, frzE, Sl.frz, asB, asI, wipeD, c]⟩
    rw [this, hG]
    unfold gapsF
    rw [List.map_map] <;> rfl
  · show evI _ _ [.val (.tup (fs.map fqD)), .val (.tup (gs.map fqD)), .val (.lst (G.map fqD)), .no, .no, .val (fqD (0, 1)), .no, .no] = _
    simp [ev_var, ev_own, ev_con, ev_glob, ev_bin, ev_rep, ev_neg, ev_cmp, ev_chain, ev_isn, ev_notn, ev_and, ev_or, ev_not, ev_ife, ev_tup, ev_lst, ev_mkb, ev_ix, ev_slice, ev_call, ev_bf, ev_isi, ev_isi2, ev_lrng, ev_lzip, ev_sset, ev_lset, evL_nil, evL_cons, evO_none, evO_some, evC_none, evC_some, evI_seq, evI_rng, evI_zip, evI_enum, sx, getV, frzE, Sl.frz, asB, asI, seqOf]
  · show ev _ _ [.val (.tup (fs.map fqD)), .val (.tup (gs.map fqD)), .val (.lst (G.map fqD)), .no, .no, .val (fqD b), x6.frz, x7.frz] = _
    simp [ev_var, ev_own, ev_con, ev_glob, ev_bin, ev_rep, ev_neg, ev_cmp, ev_chain, ev_isn, ev_notn, ev_and, ev_or, ev_not, ev_ife, ev_tup, ev_lst, ev_mkb, ev_ix, ev_slice, ev_call, ev_bf, ev_isi, ev_isi2, ev_lrng, ev_lzip, ev_sset, ev_lset, evL_nil, evL_cons, evO_none, evO_some, evC_none, evC_some, evI_seq, evI_rng, evI_zip, evI_enum, sx, getV, frzE, Sl.frz, asB, asI]
end Mi
end
section
set_option Elab.async false
set_option linter.all false
set_option maxRecDepth 100000
set_option maxHeartbeats 4000000
/-! P32: one turn of the law, its end. -/
namespace Mi
open PySem L2
theorem red_ok {a b : Int} (ha : 0 ≤ a) (hb : 0 < b) (h1 : (redF a b).1 ≤ 1000000000) (h2 : (redF a b).2 ≤ 1000000000) : FqOk (redF a b) := by
  obtain ⟨g, g0, e1, e2⟩ := red_spec a b hb
  have p2 : 0 < (redF a b).2 := Int.pos_of_mul_pos_left (by rw [← e2]; exact hb) g0
  have p1 : 0 ≤ (redF a b).1 := by
    rcases Int.lt_or_le (redF a b).1 0 with z | z
    · have := Int.mul_neg_of_neg_of_pos z g0
      omega
    · exact z
  refine ⟨p1, h1, by omega, h2, ?_⟩
  have t1 : (redF a b).1.toNat = a.natAbs / Nat.gcd a.natAbs b.toNat := by
    show (a / ((Nat.gcd a.natAbs b.toNat : Nat) : Int)).toNat = _
    obtain ⟨k, rfl⟩ : ∃ k : Nat, a = (k : Int) := ⟨a.toNat, by omega⟩
    rw [Int.natAbs_natCast, ← Int.natCast_ediv, Int.toNat_natCast]
  have t2 : (redF a b).2.toNat = b.toNat / Nat.gcd a.natAbs b.toNat := by
    show (b / ((Nat.gcd a.natAbs b.toNat : Nat) : Int)).toNat = _
    obtain ⟨k, rfl⟩ : ∃ k : Nat, b = (k : Int) := ⟨b.toNat, by omega⟩
    rw [Int.toNat_natCast, ← Int.natCast_ediv, Int.toNat_natCast]
  rw [t1, t2]
  exact Nat.gcd_div_gcd_div_gcd_of_pos_right (by omega)
theorem red_q {a b : Int} (hb : 0 < b) : Q b a (redF a b) := by
  obtain ⟨g, g0, e1, e2⟩ := red_spec a b hb
  have p2 : 0 < (redF a b).2 := Int.pos_of_mul_pos_left (by rw [← e2]; exact hb) g0
  refine ⟨p2, ?_⟩
  generalize redF a b = r at *
  rw [e1, e2]
  grind
def toldF (M : Int) (xs : List Int) : List Fq := (xs.drop 1).map fun x => redF x M
theorem told_pl {M : Int} {m : Nat} {xs : List Int} (hM : 0 < M) (hl : xs.length = m + 1) (hz : rowP xs 0 = 0) : Pl m M (toldF M xs) (rowP xs) := by
  refine ⟨by simp [toldF, hl], hM, hz, fun k hk => ?_⟩
  unfold toldF
  rw [getD_map (fun x => redF x M) _ k 0 _ (by rw [List.length_drop]; omega)]
  have e : (xs.drop 1).getD k 0 = rowP xs ((k : Int) + 1) := by
    unfold rowP
    rw [show ((k : Int) + 1).toNat = k + 1 by omega, List.getD_eq_getElem?_getD, List.getElem?_drop, List.getD_eq_getElem?_getD, Nat.add_comm]
  rw [e]
  exact red_q hM
/-- the pair's way -/
theorem way_math {w M : Int} {ds : List Door} {ls : List Lip} {ps : List Push} {p q : Int → Int} (h : CupOk w ds ls) (hM : 0 < M) (hs : ∀ x ∈ ps, PushOk w ds.length x) (p0 : p 0 = 0) (q0 : q 0 = 0) (kp : Keeps (bndP w ds ls) M p) (kq : Keeps (bndP w ds ls) M q) :
    (∀ v, 0 ≤ v → (∀ k : Nat, k < ds.length → absI (p ((k : Int) + 1) - q ((k : Int) + 1)) ≤ v) → ∀ k : Nat, k < ds.length → absI (runP (tblP w ds ls) M ps p ((k : Int) + 1) - runP (tblP w ds ls) M ps q ((k : Int) + 1)) ≤ v) ∧
    ((∀ k : Nat, k < ds.length → p ((k : Int) + 1) ≤ q ((k : Int) + 1)) → ∀ k : Nat, k < ds.length → runP (tblP w ds ls) M ps p ((k : Int) + 1) ≤ runP (tblP w ds ls) M ps q ((k : Int) + 1)) := by
  have C := h.closed
  have F1 := feas_of h.sh hM p0 kp
  have F2 := feas_of h.sh hM q0 kq
  have up : ∀ (p q : Int → Int) (e : Int), p 0 = 0 → q 0 = 0 → 0 ≤ e → (∀ k : Nat, k < ds.length → p ((k : Int) + 1) ≤ q ((k : Int) + 1) + e) → ∀ i : Nat, i ≤ ds.length → p i ≤ q i + e := by
    intro p q e p0 q0 he hh i hi
    cases i with
    | zero =>
      show p 0 ≤ q 0 + e
      omega
    | succ k => exact hh k (by omega)
  have dn : ∀ (p q : Int → Int) (e : Int), (∀ i : Nat, i ≤ ds.length → p i ≤ q i + e) → ∀ k : Nat, k < ds.length → p ((k : Int) + 1) ≤ q ((k : Int) + 1) + e := by
    intro p q e hh k hk
    exact hh (k + 1) (by omega)
  constructor
  · intro v v0 hv k hk
    have a := dn _ _ v (run_near C hM v0 ps p q hs F1 F2 (up p q v p0 q0 v0 fun k hk => by
      have := hv k hk
      unfold absI at this
      split at this <;> omega)) k hk
    have b := dn _ _ v (run_near C hM v0 ps q p hs F2 F1 (up q p v q0 p0 v0 fun k hk => by
      have := hv k hk
      unfold absI at this
      split at this <;> omega)) k hk
    unfold absI
    split <;> omega
  · intro hv k hk
    have a := dn _ _ 0 (run_near C hM (Int.le_refl 0) ps p q hs F1 F2 (up p q 0 p0 q0 (Int.le_refl 0) fun k hk => by
      have := hv k hk
      omega)) k hk
    omega
/-- the tail of a turn -/
def tailB : CB := (.cons (.set 15 (.lst (.cons (.call 41 (.cons (.bin .mul (.var 6) (.var 8)) (.cons (.var 10) .nil))) (.cons (.call 41 (.cons (.bin .mul (.var 6) (.var 8)) (.cons (.var 12) .nil))) .nil)))) (.cons (.set 16 (.cmp .eq (.lc (.var 17) (.nm 17) (.seq (.bin .add (.ix (.var 15) (.con (.int 0))) (.ix (.var 15) (.con (.int 1))))) (.some (.cmp .gt (.bf .max (.cons (.var 17) .nil)) (.bin .pow (.con (.int 10)) (.con (.int 9))))) [17]) (.lst .nil))) (.cons (.iff (.var 16) (.cons (.set 18 (.lc (.call 27 (.cons (.var 3) (.cons (.var 5) (.cons (.var 19) .nil)))) (.nm 19) (.seq (.var 15)) .none [19])) (.cons (.par2 20 21 false false (.call 47 (.cons (.ix (.var 15) (.con (.int 0))) (.cons (.ix (.var 15) (.con (.int 1))) .nil))) (.call 47 (.cons (.ix (.var 18) (.con (.int 0))) (.cons (.ix (.var 18) (.con (.int 1))) .nil)))) (.cons (.iff (.cmp .gt (.bin .mul (.ix (.var 21) (.con (.int 0))) (.ix (.var 20) (.con (.int 1)))) (.bin .mul (.ix (.var 20) (.con (.int 0))) (.ix (.var 21) (.con (.int 1))))) (.cons (.ret (.con (.bl false))) .nil) .nil) (.cons (.set 22 (.lc (.ix (.call 46 (.cons (.var 23) (.cons (.var 24) .nil))) (.con (.int 0))) (.tp (.cons (.nm 23) (.cons (.nm 24) .nil))) (.zip (.ix (.var 18) (.con (.int 1))) (.ix (.var 18) (.con (.int 0)))) .none [23, 24])) (.cons (.iff (.and (.cmp .eq (.bin .mod (.var 4) (.con (.int 2))) (.con (.int 0))) (.cmp .ne (.lc (.var 25) (.nm 25) (.seq (.var 22)) (.some (.cmp .lt (.var 25) (.con (.int 0)))) [25]) (.lst .nil))) (.cons (.ret (.con (.bl false))) .nil) .nil) .nil))))) .nil) .nil)))
theorem gap_sign {M q : Int} {f : Fq} (hM : 0 < M) (h : Q M q f) (hq : 0 ≤ q) : 0 ≤ f.1 := by
  obtain ⟨p, e⟩ := h
  rcases Int.lt_or_le f.1 0 with z | z
  · have a : f.1 * M < 0 := Int.mul_neg_of_neg_of_pos z hM
    have b : 0 ≤ q * f.2 := Int.mul_nonneg hq (by omega)
    omega
  · exact z
theorem tail_nx {n : Nat} {w u v t : Int} {ds : List Door} {ls : List Lip} {ps : List Push} {A B : List Int} {x : Nat → Sl} (h : CupOk w ds ls) (hs : ∀ q ∈ ps, PushOk w ds.length q) (h6 : ps.length ≤ 6) (u0 : 1 ≤ u) (u1 : u ≤ 1000003) (v0 : 1 ≤ v) (v1 : v ≤ 1000003)
    (lA : A.length = ds.length + 1) (lB : B.length = ds.length + 1) (zA : rowP A 0 = 0) (zB : rowP B 0 = 0) (kA : Keeps (bndP w ds ls) (u * v) (rowP A)) (kB : Keeps (bndP w ds ls) (u * v) (rowP B)) (ord : t % 2 = 0 → ∀ i, rowP A i ≤ rowP B i) (s : Sto) :
    ∃ y : Nat → Sl, evB (callN TT WF (n + 7)) WF tailB [x 0, x 1, x 2, .val (cupD w ds ls), .val (.int t), .val (.tup (ps.map pushD)), .val (.int u), x 7, .val (.int v), x 9, .val (rowT A), x 11, .val (rowT B), x 13, x 14, x 15, x 16, x 17, x 18, x 19, x 20, x 21, x 22, x 23, x 24, x 25] s = .nx [x 0, x 1, x 2, .val (cupD w ds ls), .val (.int t), y 5, y 6, y 7, y 8, y 9, y 10, y 11, y 12, y 13, y 14, y 15, y 16, y 17, y 18, y 19, y 20, y 21, y 22, y 23, y 24, y 25] s := by
  have hM : 0 < u * v := Int.mul_pos (by omega) (by omega)
  have hM2 : u * v ≤ 1000003 * 1000003 := Int.mul_le_mul u1 v1 (by omega) (by omega)
  obtain ⟨M, eM⟩ : ∃ M, M = u * v := ⟨_, rfl⟩
  rw [← eM] at hM hM2 kA kB
  have nnR : ∀ R : List Int, R.length = ds.length + 1 → rowP R 0 = 0 → Keeps (bndP w ds ls) M (rowP R) → ∀ x ∈ R, 0 ≤ x := by
    intro R lR zR kR x hx
    obtain ⟨k, hk⟩ := List.mem_iff_getElem?.mp hx
    have kl : k < R.length := (List.getElem?_eq_some_iff.mp hk).1
    have := (keeps_range h.sh hM zR kR k (by omega)).1
    unfold rowP at this
    rw [Int.toNat_natCast, List.getD_eq_getElem?_getD, hk] at this
    exact this
  have nA := nnR A lA zA kA
  have nB := nnR B lB zB kB
  have cA := w_F41 (n := n + 4) hM (by omega) nA
  have cB := w_F41 (n := n + 4) hM (by omega) nB
  have cA' : callN TT WF (n + 6 + 1) 41 [.int M, rowT A] = pur (.tup ((toldF M A).map fqD)) := by
    rw [show n + 6 + 1 = n + 4 + 2 + 1 by omega]
    have := w_F41 (n := n + 5) hM (by omega) nA
    unfold toldF
    rw [List.map_map]
    exact this
  have cB' : callN TT WF (n + 6 + 1) 41 [.int M, rowT B] = pur (.tup ((toldF M B).map fqD)) := by
    have := w_F41 (n := n + 5) hM (by omega) nB
    unfold toldF
    rw [List.map_map]
    exact this
  have mM : op2 .mul (.int u) (.int v) = some (.int M) := by rw [eM]; exact o_mulI u v (.inl (by omega))
  obtain ⟨FA, eFA⟩ : ∃ F, F = toldF M A := ⟨_, rfl⟩
  obtain ⟨FB, eFB⟩ : ∃ F, F = toldF M B := ⟨_, rfl⟩
  have pA : Pl ds.length M FA (rowP A) := by rw [eFA]; exact told_pl hM lA zA
  have pB : Pl ds.length M FB (rowP B) := by rw [eFB]; exact told_pl hM lB zB
  have okA : ∀ f ∈ FA, f.1 ≤ 1000000000 → f.2 ≤ 1000000000 → FqOk f := by
    intro f hf
    rw [eFA] at hf
    obtain ⟨a, ha, rfl⟩ := List.mem_map.mp hf
    exact red_ok (nA a (List.mem_of_mem_drop ha)) hM
  have okB : ∀ f ∈ FB, f.1 ≤ 1000000000 → f.2 ≤ 1000000000 → FqOk f := by
    intro f hf
    rw [eFB] at hf
    obtain ⟨a, ha, rfl⟩ := List.mem_map.mp hf
    exact red_ok (nB a (List.mem_of_mem_drop ha)) hM
  rw [← eFA] at cA'
  rw [← eFB] at cB'
  have lFA := pA.len
  have lFB := pB.len
  have d1 := h.sh.d1
  -- the values
  let here : D := .lst [.tup (FA.map fqD), .tup (FB.map fqD)]
  let G := (FA ++ FB).filter fun f => decide ((1000000000 : Int) < maxOf f.1 [f.2])
  obtain ⟨sm, es, hsm⟩ := eqD_pl (n := 2) (m := 1) (x := .lst (G.map fqD)) (y := .lst []) (by
    show plL 1 _ = true
    rw [plL_all]
    intro x hx
    obtain ⟨_, _, rfl⟩ := List.mem_map.mp hx
    rfl) rfl (by omega) (by omega)
  let P : Sl → Sl → Sl → Sl → Sl → Sl → Sl → Ev := fun y15 y16 y18 y20 y21 y22 _ => [x 0, x 1, x 2, .val (cupD w ds ls), .val (.int t), .val (.tup (ps.map pushD)), .val (.int u), x 7, .val (.int v), x 9, .val (rowT A), x 11, .val (rowT B), x 13, x 14, y15, y16, x 17, y18, x 19, y20, y21, y22, x 23, x 24, x 25]
  have e15 : ev (callN TT WF (n + 7)) (.lst (.cons (.call 41 (.cons (.bin .mul (.var 6) (.var 8)) (.cons (.var 10) .nil))) (.cons (.call 41 (.cons (.bin .mul (.var 6) (.var 8)) (.cons (.var 12) .nil))) .nil))) (P (x 15) (x 16) (x 18) (x 20) (x 21) (x 22) .no) = pur here := by
    show ev _ _ [x 0, x 1, x 2, .val (cupD w ds ls), .val (.int t), .val (.tup (ps.map pushD)), .val (.int u), x 7, .val (.int v), x 9, .val (rowT A), x 11, .val (rowT B), x 13, x 14, x 15, x 16, x 17, x 18, x 19, x 20, x 21, x 22, x 23, x 24, x 25] = _
    simp only [ev_var, ev_own, ev_con, ev_glob, ev_bin, ev_rep, ev_neg, ev_cmp, ev_chain, ev_isn, ev_notn, ev_and, ev_or, ev_not, ev_ife, ev_tup, ev_lst, ev_mkb, ev_ix, ev_slice, ev_call, ev_bf, ev_isi, ev_isi2, ev_lrng, ev_lzip, ev_sset, ev_lset, evL_nil, evL_cons, evO_none, evO_some, evC_none, evC_some, evI_seq, evI_rng, evI_zip, evI_enum, sx, getV, frzE, Sl.frz, asB, asI, List.getElem?_cons_zero, List.getElem?_cons_succ, bnd_pur, lif_some, mM, cA', cB']
    rfl
  have e16 : ev (callN TT WF (n + 7)) (.cmp .eq (.lc (.var 17) (.nm 17) (.seq (.bin .add (.ix (.var 15) (.con (.int 0))) (.ix (.var 15) (.con (.int 1))))) (.some (.cmp .gt (.bf .max (.cons (.var 17) .nil)) (.bin .pow (.con (.int 10)) (.con (.int 9))))) [17]) (.lst .nil)) (P (.val here) (x 16) (x 18) (x 20) (x 21) (x 22) .no) = pur (.bl sm) := by
    have ad := o_addT (FA.map fqD) (FB.map fqD) (by rw [List.length_map, List.length_map]; show _ ≤ 16777216; omega)
    have pw : op2 .pow (.int 10) (.int 9) = some (.int 1000000000) := o_pow 10 9 (by decide)
    have := lc_ok (Φ := callN TT WF (n + 7)) (e := .var 17) (t := .nm 17) (it := .seq (.bin .add (.ix (.var 15) (.con (.int 0))) (.ix (.var 15) (.con (.int 1))))) (c := .some (.cmp .gt (.bf .max (.cons (.var 17) .nil)) (.bin .pow (.con (.int 10)) (.con (.int 9))))) (vs := [17])
      (ρ := [x 0, x 1, x 2, .val (cupD w ds ls), .val (.int t), .val (.tup (ps.map pushD)), .val (.int u), x 7, .val (.int v), x 9, .val (rowT A), x 11, .val (rowT B), x 13, x 14, .val here, x 16, x 17, x 18, x 19, x 20, x 21, x 22, x 23, x 24, x 25]) (xs := FA ++ FB) (cv := fqD) (p := fun f => decide ((1000000000 : Int) < maxOf f.1 [f.2])) (h := fqD) (by
        simp only [ev_var, ev_own, ev_con, ev_glob, ev_bin, ev_rep, ev_neg, ev_cmp, ev_chain, ev_isn, ev_notn, ev_and, ev_or, ev_not, ev_ife, ev_tup, ev_lst, ev_mkb, ev_ix, ev_slice, ev_call, ev_bf, ev_isi, ev_isi2, ev_lrng, ev_lzip, ev_sset, ev_lset, evL_nil, evL_cons, evO_none, evO_some, evC_none, evC_some, evI_seq, evI_rng, evI_zip, evI_enum, sx, getV, frzE, Sl.frz, asB, asI, List.getElem?_cons_zero, List.getElem?_cons_succ, bnd_pur, lif_some, here, ix0l, ix1l, ad, seqOf, List.map_append]) fun f hf => ⟨_, rfl, by
        have mx : bfn .max [fqD f] = some (.int (maxOf f.1 [f.2])) := rfl
        simp [ev_var, ev_own, ev_con, ev_glob, ev_bin, ev_rep, ev_neg, ev_cmp, ev_chain, ev_isn, ev_notn, ev_and, ev_or, ev_not, ev_ife, ev_tup, ev_lst, ev_mkb, ev_ix, ev_slice, ev_call, ev_bf, ev_isi, ev_isi2, ev_lrng, ev_lzip, ev_sset, ev_lset, evL_nil, evL_cons, evO_none, evO_some, evC_none, evC_some, evI_seq, evI_rng, evI_zip, evI_enum, sx, getV, frzE, Sl.frz, asB, asI, wipeD, mx, pw, c_gt], fun _ => by simp [ev_var, ev_own, ev_con, ev_glob, ev_bin, ev_rep, ev_neg, ev_cmp, ev_chain, ev_isn, ev_notn, ev_and, ev_or, ev_not, ev_ife, ev_tup, ev_lst, ev_mkb, ev_ix, ev_slice, ev_call, ev_bf, ev_isi, ev_isi2, ev_lrng, ev_lzip, ev_sset, ev_lset, evL_nil, evL_cons, evO_none, evO_some, evC_none, evC_some, evI_seq, evI_rng, evI_zip, evI_enum, sx, getV, frzE, Sl.frz, asB, asI, wipeD]⟩
    rw [ev_cmp]
    refine (congrArg (fun z => bnd z _) this).trans ?_
    simp only [ev_var, ev_own, ev_con, ev_glob, ev_bin, ev_rep, ev_neg, ev_cmp, ev_chain, ev_isn, ev_notn, ev_and, ev_or, ev_not, ev_ife, ev_tup, ev_lst, ev_mkb, ev_ix, ev_slice, ev_call, ev_bf, ev_isi, ev_isi2, ev_lrng, ev_lzip, ev_sset, ev_lset, evL_nil, evL_cons, evO_none, evO_some, evC_none, evC_some, evI_seq, evI_rng, evI_zip, evI_enum, sx, getV, frzE, Sl.frz, asB, asI, bnd_pur, c_eq]
    rw [es] <;> rfl
  have st15 : evS (callN TT WF (n + 7)) WF (.set 15 _) (P (x 15) (x 16) (x 18) (x 20) (x 21) (x 22) .no) s = .nx (P (.val here) (x 16) (x 18) (x 20) (x 21) (x 22) .no) s := S_set e15
  have st16 : evS (callN TT WF (n + 7)) WF (.set 16 _) (P (.val here) (x 16) (x 18) (x 20) (x 21) (x 22) .no) s = .nx (P (.val here) (.val (.bl sm)) (x 18) (x 20) (x 21) (x 22) .no) s := S_set e16
  have c16 : ev (callN TT WF (n + 7)) (.var 16) (P (.val here) (.val (.bl sm)) (x 18) (x 20) (x 21) (x 22) .no) = pur (.bl sm) := by
    rw [ev_var] <;> rfl
  cases sm with
  | false =>
    exact ⟨fun i => (P (.val here) (.val (.bl false)) (x 18) (x 20) (x 21) (x 22) .no).getD i .no, (B_nx st15).trans ((B_nx st16).trans ((B_nx ((S_if0 c16).trans B_nil)).trans B_nil))⟩
  | true =>
    have gn : G = [] := List.map_eq_nil_iff.mp (D.lst.inj (hsm.mp rfl))
    have small : ∀ f ∈ FA ++ FB, f.1 ≤ 1000000000 ∧ f.2 ≤ 1000000000 := fun f hf => by
      have := List.filter_eq_nil_iff.mp gn f hf
      have e : ¬ (1000000000 : Int) < maxOf f.1 [f.2] := by simpa using this
      have e2 : maxOf f.1 [f.2] = if f.2 > f.1 then f.2 else f.1 := rfl
      rw [e2] at e
      split at e <;> omega
    have fA : ∀ f ∈ FA, FqOk f := fun f hf => okA f hf (small f (List.mem_append_left _ hf)).1 (small f (List.mem_append_left _ hf)).2
    have fB : ∀ f ∈ FB, FqOk f := fun f hf => okB f hf (small f (List.mem_append_right _ hf)).1 (small f (List.mem_append_right _ hf)).2
    obtain ⟨HA, bA, dA, qA⟩ := w_F27 (n := n + 1) h hs h6 pA fA kA
    obtain ⟨HB, bB, dB, qB⟩ := w_F27 (n := n + 1) h hs h6 pB fB kB
    obtain ⟨b1, y1, f1, r1, Q1, n1, up1, at1⟩ := w_F47 (n := n + 4) pA pB (fun f hf => (fA f hf).dn) (fun f hf => (fB f hf).dn) s
    obtain ⟨b2, y2, f2, r2, Q2, n2, up2, at2⟩ := w_F47 (n := n + 4) qA qB dA dB s
    obtain ⟨m1, m2⟩ := way_math h hM hs zA zB kA kB
    have less : ¬ y1 < y2 := by
      have := m1 y1 n1 up1
      rcases at2 with e | ⟨k, hk, e⟩
      · omega
      · have := this k hk
        omega
    let there : D := .lst [.tup (HA.map fqD), .tup (HB.map fqD)]
    have e18 : ev (callN TT WF (n + 7)) (.lc (.call 27 (.cons (.var 3) (.cons (.var 5) (.cons (.var 19) .nil)))) (.nm 19) (.seq (.var 15)) .none [19]) [x 0, x 1, x 2, .val (cupD w ds ls), .val (.int t), .val (.tup (ps.map pushD)), .val (.int u), x 7, .val (.int v), x 9, .val (rowT A), x 11, .val (rowT B), x 13, x 14, .val here, .val (.bl true), x 17, x 18, x 19, x 20, x 21, x 22, x 23, x 24, x 25] = pur there := by
      refine lc_map (xs := [(FA, HA), (FB, HB)]) (cv := fun p => .tup (p.1.map fqD)) (h := fun p => .tup (p.2.map fqD)) (by simp [ev_var, ev_own, ev_con, ev_glob, ev_bin, ev_rep, ev_neg, ev_cmp, ev_chain, ev_isn, ev_notn, ev_and, ev_or, ev_not, ev_ife, ev_tup, ev_lst, ev_mkb, ev_ix, ev_slice, ev_call, ev_bf, ev_isi, ev_isi2, ev_lrng, ev_lzip, ev_sset, ev_lset, evL_nil, evL_cons, evO_none, evO_some, evC_none, evC_some, evI_seq, evI_rng, evI_zip, evI_enum, sx, getV, frzE, Sl.frz, asB, asI, seqOf, here]) fun p hp => ⟨_, rfl, ?_⟩
      have c : callN TT WF (n + 7) 27 [cupD w ds ls, .tup (ps.map pushD), .tup (p.1.map fqD)] = pur (.tup (p.2.map fqD)) := by
        simp only [List.mem_cons, List.not_mem_nil, or_false] at hp
        rcases hp with rfl | rfl
        · exact bA
        · exact bB
      simp [ev_var, ev_own, ev_con, ev_glob, ev_bin, ev_rep, ev_neg, ev_cmp, ev_chain, ev_isn, ev_notn, ev_and, ev_or, ev_not, ev_ife, ev_tup, ev_lst, ev_mkb, ev_ix, ev_slice, ev_call, ev_bf, ev_isi, ev_isi2, ev_lrng, ev_lzip, ev_sset, ev_lset, evL_nil, evL_cons, evO_none, evO_some, evC_none, evC_some, evI_seq, evI_rng, evI_zip, evI_enum, sx, getV, frzE, Sl.frz, asB, asI, wipeD, c]
    have st18 : evS (callN TT WF (n + 7)) WF (.set 18 _) (P (.val here) (.val (.bl true)) (x 18) (x 20) (x 21) (x 22) .no) s = .nx (P (.val here) (.val (.bl true)) (.val there) (x 20) (x 21) (x 22) .no) s := S_set e18
    have e20 : ev (callN TT WF (n + 7)) (.call 47 (.cons (.ix (.var 15) (.con (.int 0))) (.cons (.ix (.var 15) (.con (.int 1))) .nil))) (P (.val here) (.val (.bl true)) (.val there) (x 20) (x 21) (x 22) .no) s = .ok (fqD b1) s := by
      refine ev_callS (xs := [.tup (FA.map fqD), .tup (FB.map fqD)]) ?_ f1
      show evL _ _ [x 0, x 1, x 2, .val (cupD w ds ls), .val (.int t), .val (.tup (ps.map pushD)), .val (.int u), x 7, .val (.int v), x 9, .val (rowT A), x 11, .val (rowT B), x 13, x 14, .val here, .val (.bl true), x 17, .val there, x 19, x 20, x 21, x 22, x 23, x 24, x 25] = _
      simp [ev_var, ev_own, ev_con, ev_glob, ev_bin, ev_rep, ev_neg, ev_cmp, ev_chain, ev_isn, ev_notn, ev_and, ev_or, ev_not, ev_ife, ev_tup, ev_lst, ev_mkb, ev_ix, ev_slice, ev_call, ev_bf, ev_isi, ev_isi2, ev_lrng, ev_lzip, ev_sset, ev_lset, evL_nil, evL_cons, evO_none, evO_some, evC_none, evC_some, evI_seq, evI_rng, evI_zip, evI_enum, sx, getV, frzE, Sl.frz, asB, asI, here, ix0l, ix1l]
    have e21 : ev (callN TT WF (n + 7)) (.call 47 (.cons (.ix (.var 18) (.con (.int 0))) (.cons (.ix (.var 18) (.con (.int 1))) .nil))) (P (.val here) (.val (.bl true)) (.val there) (x 20) (x 21) (x 22) .no) s = .ok (fqD b2) s := by
      refine ev_callS (xs := [.tup (HA.map fqD), .tup (HB.map fqD)]) ?_ f2
      show evL _ _ [x 0, x 1, x 2, .val (cupD w ds ls), .val (.int t), .val (.tup (ps.map pushD)), .val (.int u), x 7, .val (.int v), x 9, .val (rowT A), x 11, .val (rowT B), x 13, x 14, .val here, .val (.bl true), x 17, .val there, x 19, x 20, x 21, x 22, x 23, x 24, x 25] = _
      simp [ev_var, ev_own, ev_con, ev_glob, ev_bin, ev_rep, ev_neg, ev_cmp, ev_chain, ev_isn, ev_notn, ev_and, ev_or, ev_not, ev_ife, ev_tup, ev_lst, ev_mkb, ev_ix, ev_slice, ev_call, ev_bf, ev_isi, ev_isi2, ev_lrng, ev_lzip, ev_sset, ev_lset, evL_nil, evL_cons, evO_none, evO_some, evC_none, evC_some, evI_seq, evI_rng, evI_zip, evI_enum, sx, getV, frzE, Sl.frz, asB, asI, there, ix0l, ix1l]
    have stp : evS (callN TT WF (n + 7)) WF (.par2 20 21 false false _ _) (P (.val here) (.val (.bl true)) (.val there) (x 20) (x 21) (x 22) .no) s = .nx (P (.val here) (.val (.bl true)) (.val there) (.val (fqD b1)) (.val (fqD b2)) (x 22) .no) s := S_parS e20 e21
    have cmp : ev (callN TT WF (n + 7)) (.cmp .gt (.bin .mul (.ix (.var 21) (.con (.int 0))) (.ix (.var 20) (.con (.int 1)))) (.bin .mul (.ix (.var 20) (.con (.int 0))) (.ix (.var 21) (.con (.int 1))))) (P (.val here) (.val (.bl true)) (.val there) (.val (fqD b1)) (.val (fqD b2)) (x 22) .no) = pur (.bl false) := by
      show ev _ _ [x 0, x 1, x 2, .val (cupD w ds ls), .val (.int t), .val (.tup (ps.map pushD)), .val (.int u), x 7, .val (.int v), x 9, .val (rowT A), x 11, .val (rowT B), x 13, x 14, .val here, .val (.bl true), x 17, .val there, x 19, .val (fqD b1), .val (fqD b2), x 22, x 23, x 24, x 25] = _
      have mu1 := o_mulI b2.1 b1.2 (.inr r1.abs)
      have mu2 := o_mulI b1.1 b2.2 (.inr r2.abs)
      have lt := Q.lt hM Q1 Q2
      have e : decide (b1.1 * b2.2 < b2.1 * b1.2) = false := by
        rw [decide_eq_false_iff_not, lt]
        exact less
      simp only [ev_var, ev_own, ev_con, ev_glob, ev_bin, ev_rep, ev_neg, ev_cmp, ev_chain, ev_isn, ev_notn, ev_and, ev_or, ev_not, ev_ife, ev_tup, ev_lst, ev_mkb, ev_ix, ev_slice, ev_call, ev_bf, ev_isi, ev_isi2, ev_lrng, ev_lzip, ev_sset, ev_lset, evL_nil, evL_cons, evO_none, evO_some, evC_none, evC_some, evI_seq, evI_rng, evI_zip, evI_enum, sx, getV, frzE, Sl.frz, asB, asI, List.getElem?_cons_zero, List.getElem?_cons_succ, bnd_pur, lif_some, fqD, ix0, ix1, mu1, mu2, c_gt, e, Option.map_some]
    -- the gaps
    obtain ⟨gl, gq⟩ := gaps_q qB qA dB dA
    let gp : D := .lst ((gapsF HB HA).map fun g => .int g.1)
    have e22 : ev (callN TT WF (n + 7)) (.lc (.ix (.call 46 (.cons (.var 23) (.cons (.var 24) .nil))) (.con (.int 0))) (.tp (.cons (.nm 23) (.cons (.nm 24) .nil))) (.zip (.ix (.var 18) (.con (.int 1))) (.ix (.var 18) (.con (.int 0)))) .none [23, 24]) [x 0, x 1, x 2, .val (cupD w ds ls), .val (.int t), .val (.tup (ps.map pushD)), .val (.int u), x 7, .val (.int v), x 9, .val (rowT A), x 11, .val (rowT B), x 13, x 14, .val here, .val (.bl true), x 17, .val there, x 19, .val (fqD b1), .val (fqD b2), x 22, x 23, x 24, x 25] = pur gp := by
      have := lc_map (Φ := callN TT WF (n + 7)) (e := .ix (.call 46 (.cons (.var 23) (.cons (.var 24) .nil))) (.con (.int 0))) (t := .tp (.cons (.nm 23) (.cons (.nm 24) .nil))) (it := .zip (.ix (.var 18) (.con (.int 1))) (.ix (.var 18) (.con (.int 0)))) (vs := [23, 24]) (ρ := [x 0, x 1, x 2, .val (cupD w ds ls), .val (.int t), .val (.tup (ps.map pushD)), .val (.int u), x 7, .val (.int v), x 9, .val (rowT A), x 11, .val (rowT B), x 13, x 14, .val here, .val (.bl true), x 17, .val there, x 19, .val (fqD b1), .val (fqD b2), x 22, x 23, x 24, x 25])
        (xs := HB.zip HA) (cv := fun p => .tup [fqD p.1, fqD p.2]) (h := fun p => .int (redF (p.1.1 * p.2.2 - p.2.1 * p.1.2) (p.1.2 * p.2.2)).1) (by
          simp [ev_var, ev_own, ev_con, ev_glob, ev_bin, ev_rep, ev_neg, ev_cmp, ev_chain, ev_isn, ev_notn, ev_and, ev_or, ev_not, ev_ife, ev_tup, ev_lst, ev_mkb, ev_ix, ev_slice, ev_call, ev_bf, ev_isi, ev_isi2, ev_lrng, ev_lzip, ev_sset, ev_lset, evL_nil, evL_cons, evO_none, evO_some, evC_none, evC_some, evI_seq, evI_rng, evI_zip, evI_enum, sx, getV, frzE, Sl.frz, asB, asI, there, ix0l, ix1l, zipT]) fun r hr => ⟨_, rfl, by
          have c := w_F46 (W := WF) (n := n + 5) r.1 r.2 (dB _ (List.of_mem_zip hr).1) (dA _ (List.of_mem_zip hr).2) (by decide)
          have c' : callN TT WF (n + 7) 46 [fqD r.1, fqD r.2] = _ := c
          simp only [ev_var, ev_own, ev_con, ev_glob, ev_bin, ev_rep, ev_neg, ev_cmp, ev_chain, ev_isn, ev_notn, ev_and, ev_or, ev_not, ev_ife, ev_tup, ev_lst, ev_mkb, ev_ix, ev_slice, ev_call, ev_bf, ev_isi, ev_isi2, ev_lrng, ev_lzip, ev_sset, ev_lset, evL_nil, evL_cons, evO_none, evO_some, evC_none, evC_some, evI_seq, evI_rng, evI_zip, evI_enum, sx, getV, frzE, Sl.frz, asB, asI, wipeD, List.set_cons_zero, List.set_cons_succ, List.getElem?_cons_zero, List.getElem?_cons_succ, bnd_pur, lif_some, c']
          exact ix0 _ _⟩
      rw [this]
      show _ = pur (D.lst ((List.map _ (HB.zip HA)).map fun (g : Fq) => D.int g.1))
      rw [List.map_map] <;> rfl
    have st22 : evS (callN TT WF (n + 7)) WF (.set 22 _) (P (.val here) (.val (.bl true)) (.val there) (.val (fqD b1)) (.val (fqD b2)) (x 22) .no) s = .nx (P (.val here) (.val (.bl true)) (.val there) (.val (fqD b1)) (.val (fqD b2)) (.val gp) .no) s := S_set e22
    have fin : ev (callN TT WF (n + 7)) (.and (.cmp .eq (.bin .mod (.var 4) (.con (.int 2))) (.con (.int 0))) (.cmp .ne (.lc (.var 25) (.nm 25) (.seq (.var 22)) (.some (.cmp .lt (.var 25) (.con (.int 0)))) [25]) (.lst .nil))) [x 0, x 1, x 2, .val (cupD w ds ls), .val (.int t), .val (.tup (ps.map pushD)), .val (.int u), x 7, .val (.int v), x 9, .val (rowT A), x 11, .val (rowT B), x 13, x 14, .val here, .val (.bl true), x 17, .val there, x 19, .val (fqD b1), .val (fqD b2), .val gp, x 23, x 24, x 25] = pur (.bl false) := by
      have md := o_modI t 2 (by decide)
      by_cases ev2 : t % 2 = 0
      · have nn : ∀ g ∈ gapsF HB HA, 0 ≤ g.1 := fun g hg => by
          obtain ⟨k, hk⟩ := List.mem_iff_getElem?.mp hg
          have kl : k < ds.length := by
            have := (List.getElem?_eq_some_iff.mp hk).1
            omega
          obtain ⟨g', eg, _, hq⟩ := gq k kl
          rw [hk] at eg
          cases eg
          have := m2 (fun k _ => ord ev2 _) k kl
          exact gap_sign hM hq (by omega)
        have l25 := lc_ok (Φ := callN TT WF (n + 7)) (e := .var 25) (t := .nm 25) (it := .seq (.var 22)) (c := .some (.cmp .lt (.var 25) (.con (.int 0)))) (vs := [25]) (ρ := [x 0, x 1, x 2, .val (cupD w ds ls), .val (.int t), .val (.tup (ps.map pushD)), .val (.int u), x 7, .val (.int v), x 9, .val (rowT A), x 11, .val (rowT B), x 13, x 14, .val here, .val (.bl true), x 17, .val there, x 19, .val (fqD b1), .val (fqD b2), .val gp, x 23, x 24, x 25])
          (xs := gapsF HB HA) (cv := fun g => .int g.1) (p := fun g => decide (g.1 < 0)) (h := fun g => .int g.1) (by simp [ev_var, ev_own, ev_con, ev_glob, ev_bin, ev_rep, ev_neg, ev_cmp, ev_chain, ev_isn, ev_notn, ev_and, ev_or, ev_not, ev_ife, ev_tup, ev_lst, ev_mkb, ev_ix, ev_slice, ev_call, ev_bf, ev_isi, ev_isi2, ev_lrng, ev_lzip, ev_sset, ev_lset, evL_nil, evL_cons, evO_none, evO_some, evC_none, evC_some, evI_seq, evI_rng, evI_zip, evI_enum, sx, getV, frzE, Sl.frz, asB, asI, gp, seqOf]) fun g hg => ⟨_, rfl, by simp [ev_var, ev_own, ev_con, ev_glob, ev_bin, ev_rep, ev_neg, ev_cmp, ev_chain, ev_isn, ev_notn, ev_and, ev_or, ev_not, ev_ife, ev_tup, ev_lst, ev_mkb, ev_ix, ev_slice, ev_call, ev_bf, ev_isi, ev_isi2, ev_lrng, ev_lzip, ev_sset, ev_lset, evL_nil, evL_cons, evO_none, evO_some, evC_none, evC_some, evI_seq, evI_rng, evI_zip, evI_enum, sx, getV, frzE, Sl.frz, asB, asI, wipeD, c_lt], fun _ => by simp [ev_var, ev_own, ev_con, ev_glob, ev_bin, ev_rep, ev_neg, ev_cmp, ev_chain, ev_isn, ev_notn, ev_and, ev_or, ev_not, ev_ife, ev_tup, ev_lst, ev_mkb, ev_ix, ev_slice, ev_call, ev_bf, ev_isi, ev_isi2, ev_lrng, ev_lzip, ev_sset, ev_lset, evL_nil, evL_cons, evO_none, evO_some, evC_none, evC_some, evI_seq, evI_rng, evI_zip, evI_enum, sx, getV, frzE, Sl.frz, asB, asI, wipeD]⟩
        have fe : (gapsF HB HA).filter (fun g => decide (g.1 < 0)) = [] := List.filter_eq_nil_iff.mpr fun g hg => by
          have := nn g hg
          simp
          omega
        rw [fe] at l25
        have ne : eqD (.lst []) (.lst []) = some true := by
          obtain ⟨b, e1, e2⟩ := eqD_pl (n := 1) (m := 1) (x := .lst []) (y := .lst []) rfl rfl (by omega) (by omega)
          rw [e1, e2.mpr rfl]
        rw [ev_and]
        have e1 : ev (callN TT WF (n + 7)) (.cmp .eq (.bin .mod (.var 4) (.con (.int 2))) (.con (.int 0))) [x 0, x 1, x 2, .val (cupD w ds ls), .val (.int t), .val (.tup (ps.map pushD)), .val (.int u), x 7, .val (.int v), x 9, .val (rowT A), x 11, .val (rowT B), x 13, x 14, .val here, .val (.bl true), x 17, .val there, x 19, .val (fqD b1), .val (fqD b2), .val gp, x 23, x 24, x 25] = pur (.bl true) := by
          simp only [ev_var, ev_own, ev_con, ev_glob, ev_bin, ev_rep, ev_neg, ev_cmp, ev_chain, ev_isn, ev_notn, ev_and, ev_or, ev_not, ev_ife, ev_tup, ev_lst, ev_mkb, ev_ix, ev_slice, ev_call, ev_bf, ev_isi, ev_isi2, ev_lrng, ev_lzip, ev_sset, ev_lset, evL_nil, evL_cons, evO_none, evO_some, evC_none, evC_some, evI_seq, evI_rng, evI_zip, evI_enum, sx, getV, frzE, Sl.frz, asB, asI, List.getElem?_cons_zero, List.getElem?_cons_succ, bnd_pur, lif_some, md, c_eq, eqD_int, ev2, decide_true, Option.map_some]
        rw [e1, bnd_pur]
        show bnd (ev _ (.cmp .ne _ _) _) _ = _
        rw [ev_cmp, l25, bnd_pur]
        simp only [ev_var, ev_own, ev_con, ev_glob, ev_bin, ev_rep, ev_neg, ev_cmp, ev_chain, ev_isn, ev_notn, ev_and, ev_or, ev_not, ev_ife, ev_tup, ev_lst, ev_mkb, ev_ix, ev_slice, ev_call, ev_bf, ev_isi, ev_isi2, ev_lrng, ev_lzip, ev_sset, ev_lset, evL_nil, evL_cons, evO_none, evO_some, evC_none, evC_some, evI_seq, evI_rng, evI_zip, evI_enum, sx, getV, frzE, Sl.frz, asB, asI, List.map_nil, bnd_pur, lif_some, c_ne, ne, Option.map_some]
        rfl
      · rw [ev_and]
        have e1 : ev (callN TT WF (n + 7)) (.cmp .eq (.bin .mod (.var 4) (.con (.int 2))) (.con (.int 0))) [x 0, x 1, x 2, .val (cupD w ds ls), .val (.int t), .val (.tup (ps.map pushD)), .val (.int u), x 7, .val (.int v), x 9, .val (rowT A), x 11, .val (rowT B), x 13, x 14, .val here, .val (.bl true), x 17, .val there, x 19, .val (fqD b1), .val (fqD b2), .val gp, x 23, x 24, x 25] = pur (.bl false) := by
          simp only [ev_var, ev_own, ev_con, ev_glob, ev_bin, ev_rep, ev_neg, ev_cmp, ev_chain, ev_isn, ev_notn, ev_and, ev_or, ev_not, ev_ife, ev_tup, ev_lst, ev_mkb, ev_ix, ev_slice, ev_call, ev_bf, ev_isi, ev_isi2, ev_lrng, ev_lzip, ev_sset, ev_lset, evL_nil, evL_cons, evO_none, evO_some, evC_none, evC_some, evI_seq, evI_rng, evI_zip, evI_enum, sx, getV, frzE, Sl.frz, asB, asI, List.getElem?_cons_zero, List.getElem?_cons_succ, bnd_pur, lif_some, md, c_eq, eqD_int, ev2, decide_false, Option.map_some]
        rw [e1, bnd_pur] <;> rfl
    refine ⟨fun i => (P (.val here) (.val (.bl true)) (.val there) (.val (fqD b1)) (.val (fqD b2)) (.val gp) .no).getD i .no, (B_nx st15).trans ((B_nx st16).trans ((B_nx ((S_if1 c16).trans ((B_nx st18).trans ((B_nx stp).trans ((B_nx ((S_if0 cmp).trans B_nil)).trans ((B_nx st22).trans ((B_nx ((S_if0 fin).trans B_nil)).trans B_nil))))))).trans B_nil))⟩
end Mi
end
section
set_option Elab.async false
set_option linter.all false
set_option maxRecDepth 100000
set_option maxHeartbeats 4000000
/-! P33: the law. -/
namespace Mi
open PySem L2
theorem getD_zipm (f : Int → Int → Int) (f0 : f 0 0 = 0) : ∀ (a b : List Int) (k : Nat), a.length = b.length → ((a.zip b).map fun p => f p.1 p.2).getD k 0 = f (a.getD k 0) (b.getD k 0)
  | [], [], k, _ => by simp [f0]
  | x :: a, y :: b, 0, _ => rfl
  | x :: a, y :: b, k + 1, h => getD_zipm f f0 a b k (by simpa using h)
  | [], y :: b, k, h => by simp at h
  | x :: a, [], k, h => by simp at h
theorem getD_mapz (f : Int → Int) (f0 : f 0 = 0) : ∀ (a : List Int) (k : Nat), (a.map f).getD k 0 = f (a.getD k 0)
  | [], k => by simp [f0]
  | x :: a, 0 => rfl
  | x :: a, k + 1 => getD_mapz f f0 a k
def mnI (a b : Int) : Int := if b < a then b else a
def mxI (a b : Int) : Int := if b > a then b else a
def turnB : CB := (.cons (.set 5 (.call 39 (.cons (.var 2) (.cons (.var 3) (.cons (.con (.int 6)) .nil))))) (.cons (.asg (.tp (.cons (.nm 6) (.cons (.nm 7) .nil))) (.call 44 (.cons (.var 2) (.cons (.var 3) .nil)))) (.cons (.asg (.tp (.cons (.nm 8) (.cons (.nm 9) .nil))) (.call 44 (.cons (.var 2) (.cons (.var 3) .nil)))) (.cons (.set 10 (.bf .tuple (.cons (.lc (.bin .mul (.var 11) (.var 8)) (.nm 11) (.seq (.var 7)) .none [11]) .nil))) (.cons (.set 12 (.bf .tuple (.cons (.lc (.bin .mul (.var 11) (.var 6)) (.nm 11) (.seq (.var 9)) .none [11]) .nil))) (.cons (.iff (.cmp .eq (.bin .mod (.var 4) (.con (.int 2))) (.con (.int 0))) (.cons (.set 13 (.lzip (.var 10) (.var 12))) (.cons (.par2 10 12 false false (.bf .tuple (.cons (.lc (.bf .min (.cons (.var 14) .nil)) (.nm 14) (.seq (.var 13)) .none [14]) .nil)) (.bf .tuple (.cons (.lc (.bf .max (.cons (.var 14) .nil)) (.nm 14) (.seq (.var 13)) .none [14]) .nil))) .nil)) .nil) tailB))))))
theorem turn_nx {n : Nat} {w t T : Int} {l : Nat} {ds : List Door} {ls : List Lip} {x : Nat → Sl} {s : Sto} (h : CupOk w ds ls) (hd : Dk s l T) (hT : T < 700000000) :
    ∃ (y : Nat → Sl) (s' : Sto), evB (callN TT WF (n + 7)) WF turnB [x 0, x 1, .val (.box l), .val (cupD w ds ls), .val (.int t), x 5, x 6, x 7, x 8, x 9, x 10, x 11, x 12, x 13, x 14, x 15, x 16, x 17, x 18, x 19, x 20, x 21, x 22, x 23, x 24, x 25] s = .nx [x 0, x 1, .val (.box l), .val (cupD w ds ls), .val (.int t), y 5, y 6, y 7, y 8, y 9, y 10, y 11, y 12, y 13, y 14, y 15, y 16, y 17, y 18, y 19, y 20, y 21, y 22, y 23, y 24, y 25] s' ∧ Dk s' l (T + 60) := by
  obtain ⟨ps, s1, c1, hs, h6, d1⟩ := w_F39 (W := WF) (n := n + 3) (mo := 6) hd (by omega) h.sh (by decide) (by decide)
  obtain ⟨u, xs, s2, c2, u0, u1, lx, zx, kx, d2⟩ := w_F44 (W := WF) (n := n + 3) d1 (by omega) h
  obtain ⟨v, ys, s3, c3, v0, v1, ly, zy, ky, d3⟩ := w_F44 (W := WF) (n := n + 3) d2 (by omega) h
  let A0 : List Int := xs.map (· * v)
  let B0 : List Int := ys.map (· * u)
  have rA : ∀ i, rowP A0 i = rowP xs i * v := fun i => getD_mapz (· * v) (by simp) xs i.toNat
  have rB : ∀ i, rowP B0 i = rowP ys i * u := fun i => getD_mapz (· * u) (by simp) ys i.toNat
  have lA : A0.length = ds.length + 1 := by rw [List.length_map]; exact lx
  have lB : B0.length = ds.length + 1 := by rw [List.length_map]; exact ly
  have zA : rowP A0 0 = 0 := by rw [rA, zx]; simp
  have zB : rowP B0 0 = 0 := by rw [rB, zy]; simp
  have kA : Keeps (bndP w ds ls) (u * v) (rowP A0) := keeps_congr h.sh (fun i _ _ => (rA i).symm) (keeps_scale (by omega) kx)
  have kB : Keeps (bndP w ds ls) (u * v) (rowP B0) := by
    rw [Int.mul_comm]
    exact keeps_congr h.sh (fun i _ _ => (rB i).symm) (keeps_scale (by omega) ky)
  -- the front
  let E : Sl → Sl → Sl → Sl → Sl → Sl → Sl → Sl → Ev := fun e5 e6 e7 e8 e9 e10 e12 e13 => [x 0, x 1, .val (.box l), .val (cupD w ds ls), .val (.int t), e5, e6, e7, e8, e9, e10, x 11, e12, e13, x 14, x 15, x 16, x 17, x 18, x 19, x 20, x 21, x 22, x 23, x 24, x 25]
  let vp : Sl := .val (.tup (ps.map pushD))
  have t5 : evS (callN TT WF (n + 7)) WF (.set 5 (.call 39 (.cons (.var 2) (.cons (.var 3) (.cons (.con (.int 6)) .nil))))) (E (x 5) (x 6) (x 7) (x 8) (x 9) (x 10) (x 12) (x 13)) s = .nx (E vp (x 6) (x 7) (x 8) (x 9) (x 10) (x 12) (x 13)) s1 := by
    refine S_setS (ev_callS (xs := [.box l, cupD w ds ls, .int 6]) ?_ c1)
    show evL _ _ [x 0, x 1, .val (.box l), .val (cupD w ds ls), .val (.int t), x 5, x 6, x 7, x 8, x 9, x 10, x 11, x 12, x 13, x 14, x 15, x 16, x 17, x 18, x 19, x 20, x 21, x 22, x 23, x 24, x 25] = _
    simp [ev_var, ev_own, ev_con, ev_glob, ev_bin, ev_rep, ev_neg, ev_cmp, ev_chain, ev_isn, ev_notn, ev_and, ev_or, ev_not, ev_ife, ev_tup, ev_lst, ev_mkb, ev_ix, ev_slice, ev_call, ev_bf, ev_isi, ev_isi2, ev_lrng, ev_lzip, ev_sset, ev_lset, evL_nil, evL_cons, evO_none, evO_some, evC_none, evC_some, evI_seq, evI_rng, evI_zip, evI_enum, sx, getV, frzE, Sl.frz, asB, asI]
  have t6 : evS (callN TT WF (n + 7)) WF (.asg (.tp (.cons (.nm 6) (.cons (.nm 7) .nil))) (.call 44 (.cons (.var 2) (.cons (.var 3) .nil)))) (E vp (x 6) (x 7) (x 8) (x 9) (x 10) (x 12) (x 13)) s1 = .nx (E vp (.val (.int u)) (.val (rowT xs)) (x 8) (x 9) (x 10) (x 12) (x 13)) s2 := by
    refine S_asgS (ev_callS (xs := [.box l, cupD w ds ls]) ?_ c2) rfl
    show evL _ _ [x 0, x 1, .val (.box l), .val (cupD w ds ls), .val (.int t), vp, x 6, x 7, x 8, x 9, x 10, x 11, x 12, x 13, x 14, x 15, x 16, x 17, x 18, x 19, x 20, x 21, x 22, x 23, x 24, x 25] = _
    simp [ev_var, ev_own, ev_con, ev_glob, ev_bin, ev_rep, ev_neg, ev_cmp, ev_chain, ev_isn, ev_notn, ev_and, ev_or, ev_not, ev_ife, ev_tup, ev_lst, ev_mkb, ev_ix, ev_slice, ev_call, ev_bf, ev_isi, ev_isi2, ev_lrng, ev_lzip, ev_sset, ev_lset, evL_nil, evL_cons, evO_none, evO_some, evC_none, evC_some, evI_seq, evI_rng, evI_zip, evI_enum, sx, getV, frzE, Sl.frz, asB, asI]
  have t8 : evS (callN TT WF (n + 7)) WF (.asg (.tp (.cons (.nm 8) (.cons (.nm 9) .nil))) (.call 44 (.cons (.var 2) (.cons (.var 3) .nil)))) (E vp (.val (.int u)) (.val (rowT xs)) (x 8) (x 9) (x 10) (x 12) (x 13)) s2 = .nx (E vp (.val (.int u)) (.val (rowT xs)) (.val (.int v)) (.val (rowT ys)) (x 10) (x 12) (x 13)) s3 := by
    refine S_asgS (ev_callS (xs := [.box l, cupD w ds ls]) ?_ c3) rfl
    show evL _ _ [x 0, x 1, .val (.box l), .val (cupD w ds ls), .val (.int t), vp, .val (.int u), .val (rowT xs), x 8, x 9, x 10, x 11, x 12, x 13, x 14, x 15, x 16, x 17, x 18, x 19, x 20, x 21, x 22, x 23, x 24, x 25] = _
    simp [ev_var, ev_own, ev_con, ev_glob, ev_bin, ev_rep, ev_neg, ev_cmp, ev_chain, ev_isn, ev_notn, ev_and, ev_or, ev_not, ev_ife, ev_tup, ev_lst, ev_mkb, ev_ix, ev_slice, ev_call, ev_bf, ev_isi, ev_isi2, ev_lrng, ev_lzip, ev_sset, ev_lset, evL_nil, evL_cons, evO_none, evO_some, evC_none, evC_some, evI_seq, evI_rng, evI_zip, evI_enum, sx, getV, frzE, Sl.frz, asB, asI]
  have t10 : evS (callN TT WF (n + 7)) WF (.set 10 (.bf .tuple (.cons (.lc (.bin .mul (.var 11) (.var 8)) (.nm 11) (.seq (.var 7)) .none [11]) .nil))) (E vp (.val (.int u)) (.val (rowT xs)) (.val (.int v)) (.val (rowT ys)) (x 10) (x 12) (x 13)) s3 = .nx (E vp (.val (.int u)) (.val (rowT xs)) (.val (.int v)) (.val (rowT ys)) (.val (rowT A0)) (x 12) (x 13)) s3 := by
    refine S_set (d := rowT A0) ?_
    show ev _ _ [x 0, x 1, .val (.box l), .val (cupD w ds ls), .val (.int t), vp, .val (.int u), .val (rowT xs), .val (.int v), .val (rowT ys), x 10, x 11, x 12, x 13, x 14, x 15, x 16, x 17, x 18, x 19, x 20, x 21, x 22, x 23, x 24, x 25] = _
    rw [ev_bf, evL_cons]
    rw [lc_map (xs := xs) (cv := D.int) (h := fun a => .int (a * v)) (by simp [ev_var, ev_own, ev_con, ev_glob, ev_bin, ev_rep, ev_neg, ev_cmp, ev_chain, ev_isn, ev_notn, ev_and, ev_or, ev_not, ev_ife, ev_tup, ev_lst, ev_mkb, ev_ix, ev_slice, ev_call, ev_bf, ev_isi, ev_isi2, ev_lrng, ev_lzip, ev_sset, ev_lset, evL_nil, evL_cons, evO_none, evO_some, evC_none, evC_some, evI_seq, evI_rng, evI_zip, evI_enum, sx, getV, frzE, Sl.frz, asB, asI, rowT, seqOf]) fun a ha => ⟨_, rfl, by simp [ev_var, ev_own, ev_con, ev_glob, ev_bin, ev_rep, ev_neg, ev_cmp, ev_chain, ev_isn, ev_notn, ev_and, ev_or, ev_not, ev_ife, ev_tup, ev_lst, ev_mkb, ev_ix, ev_slice, ev_call, ev_bf, ev_isi, ev_isi2, ev_lrng, ev_lzip, ev_sset, ev_lset, evL_nil, evL_cons, evO_none, evO_some, evC_none, evC_some, evI_seq, evI_rng, evI_zip, evI_enum, sx, getV, frzE, Sl.frz, asB, asI, wipeD, o_mulI a v (.inr (by omega))]⟩]
    simp only [ev_var, ev_own, ev_con, ev_glob, ev_bin, ev_rep, ev_neg, ev_cmp, ev_chain, ev_isn, ev_notn, ev_and, ev_or, ev_not, ev_ife, ev_tup, ev_lst, ev_mkb, ev_ix, ev_slice, ev_call, ev_bf, ev_isi, ev_isi2, ev_lrng, ev_lzip, ev_sset, ev_lset, evL_nil, evL_cons, evO_none, evO_some, evC_none, evC_some, evI_seq, evI_rng, evI_zip, evI_enum, sx, getV, frzE, Sl.frz, asB, asI, bnd_pur, b_tupL, lif_some]
    show pur (D.tup _) = pur (D.tup ((xs.map (· * v)).map .int))
    rw [List.map_map] <;> rfl
  have t12 : evS (callN TT WF (n + 7)) WF (.set 12 (.bf .tuple (.cons (.lc (.bin .mul (.var 11) (.var 6)) (.nm 11) (.seq (.var 9)) .none [11]) .nil))) (E vp (.val (.int u)) (.val (rowT xs)) (.val (.int v)) (.val (rowT ys)) (.val (rowT A0)) (x 12) (x 13)) s3 = .nx (E vp (.val (.int u)) (.val (rowT xs)) (.val (.int v)) (.val (rowT ys)) (.val (rowT A0)) (.val (rowT B0)) (x 13)) s3 := by
    refine S_set (d := rowT B0) ?_
    show ev _ _ [x 0, x 1, .val (.box l), .val (cupD w ds ls), .val (.int t), vp, .val (.int u), .val (rowT xs), .val (.int v), .val (rowT ys), .val (rowT A0), x 11, x 12, x 13, x 14, x 15, x 16, x 17, x 18, x 19, x 20, x 21, x 22, x 23, x 24, x 25] = _
    rw [ev_bf, evL_cons]
    rw [lc_map (xs := ys) (cv := D.int) (h := fun a => .int (a * u)) (by simp [ev_var, ev_own, ev_con, ev_glob, ev_bin, ev_rep, ev_neg, ev_cmp, ev_chain, ev_isn, ev_notn, ev_and, ev_or, ev_not, ev_ife, ev_tup, ev_lst, ev_mkb, ev_ix, ev_slice, ev_call, ev_bf, ev_isi, ev_isi2, ev_lrng, ev_lzip, ev_sset, ev_lset, evL_nil, evL_cons, evO_none, evO_some, evC_none, evC_some, evI_seq, evI_rng, evI_zip, evI_enum, sx, getV, frzE, Sl.frz, asB, asI, rowT, seqOf]) fun a ha => ⟨_, rfl, by simp [ev_var, ev_own, ev_con, ev_glob, ev_bin, ev_rep, ev_neg, ev_cmp, ev_chain, ev_isn, ev_notn, ev_and, ev_or, ev_not, ev_ife, ev_tup, ev_lst, ev_mkb, ev_ix, ev_slice, ev_call, ev_bf, ev_isi, ev_isi2, ev_lrng, ev_lzip, ev_sset, ev_lset, evL_nil, evL_cons, evO_none, evO_some, evC_none, evC_some, evI_seq, evI_rng, evI_zip, evI_enum, sx, getV, frzE, Sl.frz, asB, asI, wipeD, o_mulI a u (.inr (by omega))]⟩]
    simp only [ev_var, ev_own, ev_con, ev_glob, ev_bin, ev_rep, ev_neg, ev_cmp, ev_chain, ev_isn, ev_notn, ev_and, ev_or, ev_not, ev_ife, ev_tup, ev_lst, ev_mkb, ev_ix, ev_slice, ev_call, ev_bf, ev_isi, ev_isi2, ev_lrng, ev_lzip, ev_sset, ev_lset, evL_nil, evL_cons, evO_none, evO_some, evC_none, evC_some, evI_seq, evI_rng, evI_zip, evI_enum, sx, getV, frzE, Sl.frz, asB, asI, bnd_pur, b_tupL, lif_some]
    show pur (D.tup _) = pur (D.tup ((ys.map (· * u)).map .int))
    rw [List.map_map] <;> rfl
  have md := o_modI t 2 (by decide)
  -- the fork
  have fork : ∃ (A B : List Int) (e13 : Sl), evS (callN TT WF (n + 7)) WF (.iff (.cmp .eq (.bin .mod (.var 4) (.con (.int 2))) (.con (.int 0))) (.cons (.set 13 (.lzip (.var 10) (.var 12))) (.cons (.par2 10 12 false false (.bf .tuple (.cons (.lc (.bf .min (.cons (.var 14) .nil)) (.nm 14) (.seq (.var 13)) .none [14]) .nil)) (.bf .tuple (.cons (.lc (.bf .max (.cons (.var 14) .nil)) (.nm 14) (.seq (.var 13)) .none [14]) .nil))) .nil)) .nil) (E vp (.val (.int u)) (.val (rowT xs)) (.val (.int v)) (.val (rowT ys)) (.val (rowT A0)) (.val (rowT B0)) (x 13)) s3 = .nx (E vp (.val (.int u)) (.val (rowT xs)) (.val (.int v)) (.val (rowT ys)) (.val (rowT A)) (.val (rowT B)) e13) s3 ∧
      A.length = ds.length + 1 ∧ B.length = ds.length + 1 ∧ rowP A 0 = 0 ∧ rowP B 0 = 0 ∧ Keeps (bndP w ds ls) (u * v) (rowP A) ∧ Keeps (bndP w ds ls) (u * v) (rowP B) ∧ (t % 2 = 0 → ∀ i, rowP A i ≤ rowP B i) := by
    have cnd : ∀ z, decide (t % 2 = 0) = z → ev (callN TT WF (n + 7)) (.cmp .eq (.bin .mod (.var 4) (.con (.int 2))) (.con (.int 0))) (E vp (.val (.int u)) (.val (rowT xs)) (.val (.int v)) (.val (rowT ys)) (.val (rowT A0)) (.val (rowT B0)) (x 13)) = pur (.bl z) := by
      intro z hz
      show ev _ _ [x 0, x 1, .val (.box l), .val (cupD w ds ls), .val (.int t), vp, .val (.int u), .val (rowT xs), .val (.int v), .val (rowT ys), .val (rowT A0), x 11, .val (rowT B0), x 13, x 14, x 15, x 16, x 17, x 18, x 19, x 20, x 21, x 22, x 23, x 24, x 25] = _
      simp only [ev_var, ev_own, ev_con, ev_glob, ev_bin, ev_rep, ev_neg, ev_cmp, ev_chain, ev_isn, ev_notn, ev_and, ev_or, ev_not, ev_ife, ev_tup, ev_lst, ev_mkb, ev_ix, ev_slice, ev_call, ev_bf, ev_isi, ev_isi2, ev_lrng, ev_lzip, ev_sset, ev_lset, evL_nil, evL_cons, evO_none, evO_some, evC_none, evC_some, evI_seq, evI_rng, evI_zip, evI_enum, sx, getV, frzE, Sl.frz, asB, asI, List.getElem?_cons_zero, List.getElem?_cons_succ, bnd_pur, lif_some, md, c_eq, eqD_int, hz, Option.map_some]
    by_cases e2 : t % 2 = 0
    · let A : List Int := (A0.zip B0).map fun p => mnI p.1 p.2
      let B : List Int := (A0.zip B0).map fun p => mxI p.1 p.2
      have qA : ∀ i, rowP A i = mnI (rowP A0 i) (rowP B0 i) := fun i => getD_zipm mnI rfl A0 B0 i.toNat (by rw [lA, lB])
      have qB : ∀ i, rowP B i = mxI (rowP A0 i) (rowP B0 i) := fun i => getD_zipm mxI rfl A0 B0 i.toNat (by rw [lA, lB])
      let pr : D := .lst ((A0.zip B0).map fun p => .tup [.int p.1, .int p.2])
      refine ⟨A, B, .val pr, (S_if1 (cnd true (by simp [e2]))).trans ((B_nx (S_set (d := pr) ?_)).trans ((B_nx (S_par (d1 := rowT A) (d2 := rowT B) ?_ ?_)).trans B_nil)), ?_, ?_, ?_, ?_, ?_, ?_, fun _ i => ?_⟩
      · show ev _ _ [x 0, x 1, .val (.box l), .val (cupD w ds ls), .val (.int t), vp, .val (.int u), .val (rowT xs), .val (.int v), .val (rowT ys), .val (rowT A0), x 11, .val (rowT B0), x 13, x 14, x 15, x 16, x 17, x 18, x 19, x 20, x 21, x 22, x 23, x 24, x 25] = _
        have z := zipT D.int D.int A0 B0
        simp only [ev_var, ev_own, ev_con, ev_glob, ev_bin, ev_rep, ev_neg, ev_cmp, ev_chain, ev_isn, ev_notn, ev_and, ev_or, ev_not, ev_ife, ev_tup, ev_lst, ev_mkb, ev_ix, ev_slice, ev_call, ev_bf, ev_isi, ev_isi2, ev_lrng, ev_lzip, ev_sset, ev_lset, evL_nil, evL_cons, evO_none, evO_some, evC_none, evC_some, evI_seq, evI_rng, evI_zip, evI_enum, sx, getV, frzE, Sl.frz, asB, asI, List.getElem?_cons_zero, List.getElem?_cons_succ, bnd_pur, lif_some, rowT, z]
        rfl
      · show ev _ _ [x 0, x 1, .val (.box l), .val (cupD w ds ls), .val (.int t), vp, .val (.int u), .val (rowT xs), .val (.int v), .val (rowT ys), .val (rowT A0), x 11, .val (rowT B0), .val pr, x 14, x 15, x 16, x 17, x 18, x 19, x 20, x 21, x 22, x 23, x 24, x 25] = _
        rw [ev_bf, evL_cons]
        rw [lc_map (xs := A0.zip B0) (cv := fun p => .tup [.int p.1, .int p.2]) (h := fun p => .int (mnI p.1 p.2)) (by simp [ev_var, ev_own, ev_con, ev_glob, ev_bin, ev_rep, ev_neg, ev_cmp, ev_chain, ev_isn, ev_notn, ev_and, ev_or, ev_not, ev_ife, ev_tup, ev_lst, ev_mkb, ev_ix, ev_slice, ev_call, ev_bf, ev_isi, ev_isi2, ev_lrng, ev_lzip, ev_sset, ev_lset, evL_nil, evL_cons, evO_none, evO_some, evC_none, evC_some, evI_seq, evI_rng, evI_zip, evI_enum, sx, getV, frzE, Sl.frz, asB, asI, pr, seqOf]) fun p hp => ⟨_, rfl, by
          have b : bfn .min [.tup [.int p.1, .int p.2]] = some (.int (mnI p.1 p.2)) := rfl
          simp [ev_var, ev_own, ev_con, ev_glob, ev_bin, ev_rep, ev_neg, ev_cmp, ev_chain, ev_isn, ev_notn, ev_and, ev_or, ev_not, ev_ife, ev_tup, ev_lst, ev_mkb, ev_ix, ev_slice, ev_call, ev_bf, ev_isi, ev_isi2, ev_lrng, ev_lzip, ev_sset, ev_lset, evL_nil, evL_cons, evO_none, evO_some, evC_none, evC_some, evI_seq, evI_rng, evI_zip, evI_enum, sx, getV, frzE, Sl.frz, asB, asI, wipeD, b]⟩]
        simp only [ev_var, ev_own, ev_con, ev_glob, ev_bin, ev_rep, ev_neg, ev_cmp, ev_chain, ev_isn, ev_notn, ev_and, ev_or, ev_not, ev_ife, ev_tup, ev_lst, ev_mkb, ev_ix, ev_slice, ev_call, ev_bf, ev_isi, ev_isi2, ev_lrng, ev_lzip, ev_sset, ev_lset, evL_nil, evL_cons, evO_none, evO_some, evC_none, evC_some, evI_seq, evI_rng, evI_zip, evI_enum, sx, getV, frzE, Sl.frz, asB, asI, bnd_pur, b_tupL, lif_some]
        show pur (D.tup _) = pur (D.tup (((A0.zip B0).map fun p => mnI p.1 p.2).map .int))
        rw [List.map_map] <;> rfl
      · show ev _ _ [x 0, x 1, .val (.box l), .val (cupD w ds ls), .val (.int t), vp, .val (.int u), .val (rowT xs), .val (.int v), .val (rowT ys), .val (rowT A0), x 11, .val (rowT B0), .val pr, x 14, x 15, x 16, x 17, x 18, x 19, x 20, x 21, x 22, x 23, x 24, x 25] = _
        rw [ev_bf, evL_cons]
        rw [lc_map (xs := A0.zip B0) (cv := fun p => .tup [.int p.1, .int p.2]) (h := fun p => .int (mxI p.1 p.2)) (by simp [ev_var, ev_own, ev_con, ev_glob, ev_bin, ev_rep, ev_neg, ev_cmp, ev_chain, ev_isn, ev_notn, ev_and, ev_or, ev_not, ev_ife, ev_tup, ev_lst, ev_mkb, ev_ix, ev_slice, ev_call, ev_bf, ev_isi, ev_isi2, ev_lrng, ev_lzip, ev_sset, ev_lset, evL_nil, evL_cons, evO_none, evO_some, evC_none, evC_some, evI_seq, evI_rng, evI_zip, evI_enum, sx, getV, frzE, Sl.frz, asB, asI, pr, seqOf]) fun p hp => ⟨_, rfl, by
          have b : bfn .max [.tup [.int p.1, .int p.2]] = some (.int (mxI p.1 p.2)) := rfl
          simp [ev_var, ev_own, ev_con, ev_glob, ev_bin, ev_rep, ev_neg, ev_cmp, ev_chain, ev_isn, ev_notn, ev_and, ev_or, ev_not, ev_ife, ev_tup, ev_lst, ev_mkb, ev_ix, ev_slice, ev_call, ev_bf, ev_isi, ev_isi2, ev_lrng, ev_lzip, ev_sset, ev_lset, evL_nil, evL_cons, evO_none, evO_some, evC_none, evC_some, evI_seq, evI_rng, evI_zip, evI_enum, sx, getV, frzE, Sl.frz, asB, asI, wipeD, b]⟩]
        simp only [ev_var, ev_own, ev_con, ev_glob, ev_bin, ev_rep, ev_neg, ev_cmp, ev_chain, ev_isn, ev_notn, ev_and, ev_or, ev_not, ev_ife, ev_tup, ev_lst, ev_mkb, ev_ix, ev_slice, ev_call, ev_bf, ev_isi, ev_isi2, ev_lrng, ev_lzip, ev_sset, ev_lset, evL_nil, evL_cons, evO_none, evO_some, evC_none, evC_some, evI_seq, evI_rng, evI_zip, evI_enum, sx, getV, frzE, Sl.frz, asB, asI, bnd_pur, b_tupL, lif_some]
        show pur (D.tup _) = pur (D.tup (((A0.zip B0).map fun p => mxI p.1 p.2).map .int))
        rw [List.map_map] <;> rfl
      · rw [List.length_map, List.length_zip]; omega
      · rw [List.length_map, List.length_zip]; omega
      · rw [qA, zA, zB] <;> rfl
      · rw [qB, zA, zB] <;> rfl
      · refine keeps_congr h.sh (fun i _ _ => ?_) (keeps_min kA kB)
        rw [qA]
        unfold mnI
        split <;> omega
      · refine keeps_congr h.sh (fun i _ _ => ?_) (keeps_max kA kB)
        rw [qB]
        unfold mxI
        split <;> omega
      · rw [qA, qB]
        unfold mnI mxI
        split <;> split <;> omega
    · exact ⟨A0, B0, x 13, (S_if0 (cnd false (by simp [e2]))).trans B_nil, lA, lB, zA, zB, kA, kB, fun q => absurd q e2⟩
  obtain ⟨A, B, e13, tf, a1, a2, a3, a4, a5, a6, a7⟩ := fork
  obtain ⟨y, ty⟩ := tail_nx (n := n) (t := t) (x := fun i => (E vp (.val (.int u)) (.val (rowT xs)) (.val (.int v)) (.val (rowT ys)) (.val (rowT A)) (.val (rowT B)) e13).getD i .no) h hs (by omega) u0 u1 v0 v1 a1 a2 a3 a4 a5 a6 a7 s3
  refine ⟨y, s3, ?_, d3.mono (by omega)⟩
  exact (B_nx t5).trans ((B_nx t6).trans ((B_nx t8).trans ((B_nx t10).trans ((B_nx t12).trans ((B_nx tf).trans ty)))))
theorem law_ok (ns : List Int) (hn : ns.length ≤ 63) : ∃ s', callN TT WF 40 48 [.lst (ns.map .int)] [] = .ok (.bl true) s' := by
  let sc : D := .lst (ns.map .int)
  let E : (Nat → Sl) → Ev := fun x => [.val sc, x 1, x 2, x 3, x 4, x 5, x 6, x 7, x 8, x 9, x 10, x 11, x 12, x 13, x 14, x 15, x 16, x 17, x 18, x 19, x 20, x 21, x 22, x 23, x 24, x 25]
  let cellB : CB := .cons (.set 2 (.call 28 (.cons (.var 1) (.cons (.con (.int 3)) .nil)))) (.cons (.set 3 (.call 37 (.cons (.var 2) (.cons (.con (.int 5)) (.cons (.con (.int 3)) .nil))))) (.cons (.for_ (.nm 4) (.rng (.cons (.con (.int 8)) .nil)) turnB) .nil))
  let cs : List D := cutD (.int 0 :: ns.map .int) none (some 10)
  have csi : ∀ d ∈ cs, ∃ c, d = .int c := fun d hd => by
    have : d ∈ D.int 0 :: ns.map .int := List.mem_of_mem_drop (List.mem_of_mem_take hd)
    rcases List.mem_cons.mp this with rfl | this
    · exact ⟨0, rfl⟩
    · obtain ⟨c, _, rfl⟩ := List.mem_map.mp this
      exact ⟨c, rfl⟩
  have lp := forL_inv (f := fun d ρ s => match tgt (.nm 1) d ρ with
      | some ρ' => evB (callN TT WF 39) WF cellB ρ' s
      | none => .stuck) (fun _ ρ _ => ∃ x, ρ = E x) cs 0 (ρ := E fun _ => .no) (s := []) ⟨fun _ => .no, rfl⟩ ?_
  · obtain ⟨ρ', s', e, x, rfl⟩ := lp
    refine ⟨s', callN_S T48 rfl ?_⟩
    show evB (callN TT WF 39) WF F48.body [.val sc, .no, .no, .no, .no, .no, .no, .no, .no, .no, .no, .no, .no, .no, .no, .no, .no, .no, .no, .no, .no, .no, .no, .no, .no, .no] [] = _
    refine (B_nx ((S_for (ds := cs) ?_).trans e)).trans (B_rt (S_ret (by rw [ev_con])))
    have ad := o_addL [.int 0] (ns.map .int) (by rw [List.length_map]; show 1 + _ ≤ 16777216; omega)
    have sl : sliceD (.lst (D.int 0 :: ns.map .int)) none (some 10) = some (.lst cs) := rfl
    have ad' : op2 .add (.lst [.int 0]) sc = some (.lst (D.int 0 :: ns.map .int)) := ad
    simp only [ev_var, ev_own, ev_con, ev_glob, ev_bin, ev_rep, ev_neg, ev_cmp, ev_chain, ev_isn, ev_notn, ev_and, ev_or, ev_not, ev_ife, ev_tup, ev_lst, ev_mkb, ev_ix, ev_slice, ev_call, ev_bf, ev_isi, ev_isi2, ev_lrng, ev_lzip, ev_sset, ev_lset, evL_nil, evL_cons, evO_none, evO_some, evC_none, evC_some, evI_seq, evI_rng, evI_zip, evI_enum, sx, getV, frzE, Sl.frz, asB, asI, List.getElem?_cons_zero, List.getElem?_cons_succ, bnd_pur, lif_some, ad', sl, seqOf]
  · rintro i d ρ s hd ⟨x, rfl⟩
    obtain ⟨c, rfl⟩ := csi d (List.mem_of_getElem? hd)
    obtain ⟨s1, c1, d1⟩ := w_F28 (W := WF) (n := 38) (s := s) c 3 (by decide)
    obtain ⟨w, ds, ls, s2, c2, ok, d2⟩ := w_F37 (W := WF) (n := 35) (mo := 5) (ma := 3) d1 (by omega) (by decide) (by decide) (by decide) (by decide)
    have hr : rngD 0 8 = _ := rng0 (m := 8) (by omega)
    let E2 : (Nat → Sl) → Ev := fun y => [.val sc, .val (.int c), .val (.box s.length), .val (cupD w ds ls), y 4, y 5, y 6, y 7, y 8, y 9, y 10, y 11, y 12, y 13, y 14, y 15, y 16, y 17, y 18, y 19, y 20, y 21, y 22, y 23, y 24, y 25]
    have lp2 := forL_inv (f := fun d ρ s => match tgt (.nm 4) d ρ with
        | some ρ' => evB (callN TT WF 39) WF turnB ρ' s
        | none => .stuck) (fun k ρ s' => Dk s' s.length (303 + 60 * (k : Int)) ∧ ∃ y, ρ = E2 y) ((List.range 8).map fun (k : Nat) => D.int (k : Int)) 0 (ρ := E2 x) (s := s2) ⟨d2.mono (by omega), x, rfl⟩ ?_
    · obtain ⟨ρ', s3, e3, _, y, rfl⟩ := lp2
      refine ⟨E2 y, s3, ?_, fun i => (E2 y).getD i .no, rfl⟩
      show evB (callN TT WF 39) WF cellB [.val sc, .val (.int c), x 2, x 3, x 4, x 5, x 6, x 7, x 8, x 9, x 10, x 11, x 12, x 13, x 14, x 15, x 16, x 17, x 18, x 19, x 20, x 21, x 22, x 23, x 24, x 25] s = _
      refine (B_nx (S_setS (d := .box s.length) (s' := s1) (ev_callS (xs := [.int c, .int 3]) (by simp [ev_var, ev_own, ev_con, ev_glob, ev_bin, ev_rep, ev_neg, ev_cmp, ev_chain, ev_isn, ev_notn, ev_and, ev_or, ev_not, ev_ife, ev_tup, ev_lst, ev_mkb, ev_ix, ev_slice, ev_call, ev_bf, ev_isi, ev_isi2, ev_lrng, ev_lzip, ev_sset, ev_lset, evL_nil, evL_cons, evO_none, evO_some, evC_none, evC_some, evI_seq, evI_rng, evI_zip, evI_enum, sx, getV, frzE, Sl.frz, asB, asI]) c1))).trans ((B_nx (S_setS (d := cupD w ds ls) (s' := s2) (ev_callS (xs := [.box s.length, .int 5, .int 3]) ?_ c2))).trans ((B_nx ((S_for (ds := (List.range 8).map fun (k : Nat) => D.int (k : Int)) ?_).trans e3)).trans B_nil))
      · show evL _ _ [.val sc, .val (.int c), .val (.box s.length), x 3, x 4, x 5, x 6, x 7, x 8, x 9, x 10, x 11, x 12, x 13, x 14, x 15, x 16, x 17, x 18, x 19, x 20, x 21, x 22, x 23, x 24, x 25] = _
        simp [ev_var, ev_own, ev_con, ev_glob, ev_bin, ev_rep, ev_neg, ev_cmp, ev_chain, ev_isn, ev_notn, ev_and, ev_or, ev_not, ev_ife, ev_tup, ev_lst, ev_mkb, ev_ix, ev_slice, ev_call, ev_bf, ev_isi, ev_isi2, ev_lrng, ev_lzip, ev_sset, ev_lset, evL_nil, evL_cons, evO_none, evO_some, evC_none, evC_some, evI_seq, evI_rng, evI_zip, evI_enum, sx, getV, frzE, Sl.frz, asB, asI]
      · simp only [ev_var, ev_own, ev_con, ev_glob, ev_bin, ev_rep, ev_neg, ev_cmp, ev_chain, ev_isn, ev_notn, ev_and, ev_or, ev_not, ev_ife, ev_tup, ev_lst, ev_mkb, ev_ix, ev_slice, ev_call, ev_bf, ev_isi, ev_isi2, ev_lrng, ev_lzip, ev_sset, ev_lset, evL_nil, evL_cons, evO_none, evO_some, evC_none, evC_some, evI_seq, evI_rng, evI_zip, evI_enum, sx, getV, frzE, Sl.frz, asB, asI, bnd_pur, hr, lif_some]
    · rintro k d ρ s' hk ⟨dk, y, rfl⟩
      have hk' : k < 8 := by
        have := (List.getElem?_eq_some_iff.mp hk).1
        simpa using this
      rw [Nat.zero_add] at *
      have ed : d = .int (k : Int) := by
        simp only [List.getElem?_map, List.getElem?_range hk'] at hk
        exact (Option.some.inj hk).symm
      subst ed
      obtain ⟨z, s3, e, d3⟩ := turn_nx (n := 32) (t := (k : Int)) (x := fun i => (E2 y).getD i .no) ok dk (by omega)
      let ff : Nat → Sl := fun i => ([.val sc, .val (.int c), .val (.box s.length), .val (cupD w ds ls), .val (.int (k : Int)), z 5, z 6, z 7, z 8, z 9, z 10, z 11, z 12, z 13, z 14, z 15, z 16, z 17, z 18, z 19, z 20, z 21, z 22, z 23, z 24, z 25] : Ev).getD i .no
      refine ⟨E2 ff, s3, ?_, d3.mono (by omega), ff, rfl⟩
      exact e
end Mi
end
section
set_option Elab.async false
set_option linter.all false
set_option maxRecDepth 100000
set_option maxHeartbeats 0
namespace HD
open PySem PySem.Spec PyProof.Rows L2 Mi
abbrev R : PySem.W.OpenRow := PySem.W.OpenLaw.row PySem.Challenge.rw_doorslide_k03_whole_scripts_that_keep_or
def topS (i : Nat) : Stmt := PySem.Challenge.pw_doorslide_k03_whole_scripts_that_keep_or.main.body.getD i (.Pass ⟨0, 0, 0, 0⟩)
def nm0 : List PySem.Str := ["SlideError", "InvalidCupboard", "InvalidPlaces", "InvalidScript", "FAR", "is_within", "has_items", "is_door", "is_lip", "has_shape", "bounds_of", "goes_left", "told_bound", "closed", "table_of", "is_cupboard_value", "divisor", "lowest", "less_by", "is_fraction", "is_places_value", "need_cupboard", "need_places", "SIDES", "MOST_PUSHES", "is_push_value", "are_pushes", "is_script_value", "plus", "is_less"]
def nm1 : List PySem.Str := ["goal_of", "pushed", "run", "need_script", "behind", "_law_deck", "_law_pick", "_law_one", "_law_bounds", "_law_moved", "_law_lows", "_law_highs", "_law_door", "_law_any_cupboard", "_law_cupboard", "_law_push", "_law_script", "_law_frac", "_law_told", "_law_keeps", "_law_grid", "_law_start", "_law_worth", "_law_frac_of", "_law_farthest"]
def loose : List PySem.Str := nm0 ++ (nm1)
def fn0 : List He.DefD := [⟨("is_within", none), "is_within", "is_within", defArgs (topS 7), defBody (topS 7), defScope (topS 7), [], []⟩,
  ⟨("has_items", none), "has_items", "has_items", defArgs (topS 8), defBody (topS 8), defScope (topS 8), [], []⟩,
  ⟨("is_door", none), "is_door", "is_door", defArgs (topS 9), defBody (topS 9), defScope (topS 9), [], []⟩,
  ⟨("is_lip", none), "is_lip", "is_lip", defArgs (topS 10), defBody (topS 10), defScope (topS 10), [], []⟩,
  ⟨("has_shape", none), "has_shape", "has_shape", defArgs (topS 11), defBody (topS 11), defScope (topS 11), [], []⟩,
  ⟨("bounds_of", none), "bounds_of", "bounds_of", defArgs (topS 12), defBody (topS 12), defScope (topS 12), [], []⟩,
  ⟨("goes_left", none), "goes_left", "goes_left", defArgs (topS 13), defBody (topS 13), defScope (topS 13), [], []⟩,
  ⟨("told_bound", none), "told_bound", "told_bound", defArgs (topS 14), defBody (topS 14), defScope (topS 14), [], []⟩,
  ⟨("closed", none), "closed", "closed", defArgs (topS 15), defBody (topS 15), defScope (topS 15), [], []⟩,
  ⟨("table_of", none), "table_of", "table_of", defArgs (topS 16), defBody (topS 16), defScope (topS 16), [], []⟩,
  ⟨("is_cupboard_value", none), "is_cupboard_value", "is_cupboard_value", defArgs (topS 17), defBody (topS 17), defScope (topS 17), [], []⟩,
  ⟨("divisor", none), "divisor", "divisor", defArgs (topS 18), defBody (topS 18), defScope (topS 18), [], []⟩,
  ⟨("lowest", none), "lowest", "lowest", defArgs (topS 19), defBody (topS 19), defScope (topS 19), [], []⟩,
  ⟨("less_by", none), "less_by", "less_by", defArgs (topS 20), defBody (topS 20), defScope (topS 20), [], []⟩,
  ⟨("is_fraction", none), "is_fraction", "is_fraction", defArgs (topS 21), defBody (topS 21), defScope (topS 21), [], []⟩,
  ⟨("is_places_value", none), "is_places_value", "is_places_value", defArgs (topS 22), defBody (topS 22), defScope (topS 22), [], []⟩,
  ⟨("need_cupboard", none), "need_cupboard", "need_cupboard", defArgs (topS 23), defBody (topS 23), defScope (topS 23), [], []⟩,
  ⟨("need_places", none), "need_places", "need_places", defArgs (topS 24), defBody (topS 24), defScope (topS 24), [], []⟩,
  ⟨("is_push_value", none), "is_push_value", "is_push_value", defArgs (topS 28), defBody (topS 28), defScope (topS 28), [], []⟩,
  ⟨("are_pushes", none), "are_pushes", "are_pushes", defArgs (topS 29), defBody (topS 29), defScope (topS 29), [], []⟩]
def fn1 : List He.DefD := [⟨("is_script_value", none), "is_script_value", "is_script_value", defArgs (topS 30), defBody (topS 30), defScope (topS 30), [], []⟩,
  ⟨("plus", none), "plus", "plus", defArgs (topS 31), defBody (topS 31), defScope (topS 31), [], []⟩,
  ⟨("is_less", none), "is_less", "is_less", defArgs (topS 32), defBody (topS 32), defScope (topS 32), [], []⟩,
  ⟨("goal_of", none), "goal_of", "goal_of", defArgs (topS 33), defBody (topS 33), defScope (topS 33), [], []⟩,
  ⟨("pushed", none), "pushed", "pushed", defArgs (topS 34), defBody (topS 34), defScope (topS 34), [], []⟩,
  ⟨("run", none), "run", "run", defArgs (topS 35), defBody (topS 35), defScope (topS 35), [], []⟩,
  ⟨("need_script", none), "need_script", "need_script", defArgs (topS 36), defBody (topS 36), defScope (topS 36), [], []⟩,
  ⟨("behind", none), "behind", "behind", defArgs (topS 37), defBody (topS 37), defScope (topS 37), [], []⟩,
  ⟨("_law_deck", none), "_law_deck", "_law_deck", defArgs (topS 39), defBody (topS 39), defScope (topS 39), [], []⟩,
  ⟨("_law_pick", none), "_law_pick", "_law_pick", defArgs (topS 40), defBody (topS 40), defScope (topS 40), [], []⟩,
  ⟨("_law_one", none), "_law_one", "_law_one", defArgs (topS 41), defBody (topS 41), defScope (topS 41), [], []⟩,
  ⟨("_law_bounds", none), "_law_bounds", "_law_bounds", defArgs (topS 42), defBody (topS 42), defScope (topS 42), [], []⟩,
  ⟨("_law_moved", none), "_law_moved", "_law_moved", defArgs (topS 43), defBody (topS 43), defScope (topS 43), [], []⟩,
  ⟨("_law_lows", none), "_law_lows", "_law_lows", defArgs (topS 44), defBody (topS 44), defScope (topS 44), [], []⟩,
  ⟨("_law_highs", none), "_law_highs", "_law_highs", defArgs (topS 45), defBody (topS 45), defScope (topS 45), [], []⟩,
  ⟨("_law_door", none), "_law_door", "_law_door", defArgs (topS 46), defBody (topS 46), defScope (topS 46), [], []⟩,
  ⟨("_law_any_cupboard", none), "_law_any_cupboard", "_law_any_cupboard", defArgs (topS 47), defBody (topS 47), defScope (topS 47), [], []⟩,
  ⟨("_law_cupboard", none), "_law_cupboard", "_law_cupboard", defArgs (topS 48), defBody (topS 48), defScope (topS 48), [], []⟩,
  ⟨("_law_push", none), "_law_push", "_law_push", defArgs (topS 49), defBody (topS 49), defScope (topS 49), [], []⟩,
  ⟨("_law_script", none), "_law_script", "_law_script", defArgs (topS 50), defBody (topS 50), defScope (topS 50), [], []⟩]
def fn2 : List He.DefD := [⟨("_law_frac", none), "_law_frac", "_law_frac", defArgs (topS 51), defBody (topS 51), defScope (topS 51), [], []⟩,
  ⟨("_law_told", none), "_law_told", "_law_told", defArgs (topS 52), defBody (topS 52), defScope (topS 52), [], []⟩,
  ⟨("_law_keeps", none), "_law_keeps", "_law_keeps", defArgs (topS 53), defBody (topS 53), defScope (topS 53), [], []⟩,
  ⟨("_law_grid", none), "_law_grid", "_law_grid", defArgs (topS 54), defBody (topS 54), defScope (topS 54), [], []⟩,
  ⟨("_law_start", none), "_law_start", "_law_start", defArgs (topS 55), defBody (topS 55), defScope (topS 55), [], []⟩,
  ⟨("_law_worth", none), "_law_worth", "_law_worth", defArgs (topS 56), defBody (topS 56), defScope (topS 56), [], []⟩,
  ⟨("_law_frac_of", none), "_law_frac_of", "_law_frac_of", defArgs (topS 57), defBody (topS 57), defScope (topS 57), [], []⟩,
  ⟨("_law_farthest", none), "_law_farthest", "_law_farthest", defArgs (topS 58), defBody (topS 58), defScope (topS 58), [], []⟩,
  ⟨("law", none), "law", "law", defArgs (topS 59), defBody (topS 59), defScope (topS 59), [], []⟩]
def fn : List He.DefD := fn0 ++ (fn1 ++ (fn2))
def fa0 : List He.Fa := [.glo "is_within", .glo "has_items", .glo "is_door", .glo "is_lip", .glo "has_shape", .glo "bounds_of", .glo "goes_left", .glo "told_bound", .glo "closed", .glo "table_of", .glo "is_cupboard_value", .glo "divisor", .glo "lowest", .glo "less_by", .glo "is_fraction", .glo "is_places_value", .glo "need_cupboard", .glo "need_places", .glo "is_push_value", .glo "are_pushes", .glo "is_script_value", .glo "plus", .glo "is_less", .glo "goal_of", .glo "pushed"]
def fa1 : List He.Fa := [.glo "run", .glo "need_script", .glo "behind", .glo "_law_deck", .glo "_law_pick", .glo "_law_one", .glo "_law_bounds", .glo "_law_moved", .glo "_law_lows", .glo "_law_highs", .glo "_law_door", .glo "_law_any_cupboard", .glo "_law_cupboard", .glo "_law_push", .glo "_law_script", .glo "_law_frac", .glo "_law_told", .glo "_law_keeps", .glo "_law_grid", .glo "_law_start", .glo "_law_worth", .glo "_law_frac_of", .glo "_law_farthest", .glo "law", .free "len"]
def fa2 : List He.Fa := [.free "tuple", .free "list", .free "all", .free "any", .free "max", .free "min", .free "sum", .free "abs", .free "int", .free "str", .free "isinstance", .free "range", .free "zip", .free "bool", .free "set", .free "sorted", .free "enumerate", .exc "InvalidCupboard", .exc "InvalidPlaces", .exc "InvalidScript", .glo "InvalidCupboard", .glo "InvalidPlaces", .glo "InvalidScript"]
def fa : List He.Fa := fa0 ++ (fa1 ++ (fa2))
def gs : List (PySem.Str × Nat) := [("FAR", 0), ("MOST_PUSHES", 1), ("SIDES", 2)]
def xs : List (PySem.Str × Nat) := [("InvalidCupboard", 0), ("InvalidPlaces", 1), ("InvalidScript", 2)]
abbrev hk : PySem.W.Hook := hookG 4 fa fn gs
def ob (s : PySem.W.SharedT) : He.AlD × Bool := obsG 4 fa fn gs (HandSHeadRun.getT s)
theorem ob_eq (s : PySem.W.SharedT) : ob s = hk.obs s.abs := obsG_eq (HandSHeadRun.getT_eq s)
theorem run (w : World) : HandSHeadRun.RunEq R (PySem.W.view R.prog [59]) hk ob 6000 loose w := by
  intro os
  kernel_rfl
def fnm : Nat → PySem.Str
  | 0 => "is_within"
  | 1 => "has_items"
  | 2 => "is_door"
  | 3 => "is_lip"
  | 4 => "has_shape"
  | 6 => "bounds_of"
  | 5 => "goes_left"
  | 7 => "told_bound"
  | 8 => "closed"
  | 9 => "table_of"
  | 10 => "is_cupboard_value"
  | 11 => "divisor"
  | 12 => "lowest"
  | 13 => "less_by"
  | 14 => "is_fraction"
  | 15 => "is_places_value"
  | 16 => "need_cupboard"
  | 17 => "need_places"
  | 18 => "is_push_value"
  | 19 => "are_pushes"
  | 20 => "is_script_value"
  | 21 => "plus"
  | 22 => "is_less"
  | 23 => "goal_of"
  | 24 => "pushed"
  | 25 => "run"
  | 26 => "need_script"
  | 27 => "behind"
  | 28 => "_law_deck"
  | 29 => "_law_pick"
  | 30 => "_law_one"
  | 31 => "_law_bounds"
  | 32 => "_law_moved"
  | 33 => "_law_lows"
  | 34 => "_law_highs"
  | 35 => "_law_door"
  | 36 => "_law_any_cupboard"
  | 37 => "_law_cupboard"
  | 38 => "_law_push"
  | 39 => "_law_script"
  | 40 => "_law_frac"
  | 41 => "_law_told"
  | 42 => "_law_keeps"
  | 43 => "_law_grid"
  | 44 => "_law_start"
  | 46 => "_law_worth"
  | 45 => "_law_frac_of"
  | 47 => "_law_farthest"
  | 48 => "law"
  | _ => ""
def far : Nat → Nat
  | 0 => 3
  | 1 => 3
  | 2 => 2
  | 3 => 3
  | 4 => 1
  | 6 => 1
  | 5 => 3
  | 7 => 3
  | 8 => 2
  | 9 => 1
  | 10 => 1
  | 11 => 2
  | 12 => 2
  | 13 => 2
  | 14 => 1
  | 15 => 2
  | 16 => 1
  | 17 => 2
  | 18 => 2
  | 19 => 3
  | 20 => 2
  | 21 => 2
  | 22 => 2
  | 23 => 4
  | 24 => 4
  | 25 => 3
  | 26 => 2
  | 27 => 3
  | 28 => 2
  | 29 => 2
  | 30 => 2
  | 31 => 1
  | 32 => 4
  | 33 => 2
  | 34 => 2
  | 35 => 2
  | 36 => 3
  | 37 => 3
  | 38 => 2
  | 39 => 3
  | 40 => 2
  | 41 => 2
  | 42 => 3
  | 43 => 2
  | 44 => 2
  | 46 => 2
  | 45 => 2
  | 47 => 2
  | 48 => 1
  | _ => 0
def fs : List Nat := [0, 1, 2, 3, 4, 6, 5, 7, 8, 9, 10, 11, 12, 13, 14, 15, 16, 17, 18, 19, 20, 21, 22, 23, 24, 25, 26, 27, 28, 29, 30, 31, 32, 33, 34, 35, 36, 37, 38, 39, 40, 41, 42, 43, 44, 46, 45, 47, 48]
def cx : Mi.Ctx := ⟨[], fs, fnm, far, gs, xs⟩
def cls (K : PySem.W.Frag) : Nat → Value
  | 0 => .ref (He.ga K "InvalidCupboard")
  | 1 => .ref (He.ga K "InvalidPlaces")
  | 2 => .ref (He.ga K "InvalidScript")
  | _ => .none
def cf (K : PySem.W.Frag) : Cfg := ⟨K, cls K, fun _ => ""⟩
section
variable {K : PySem.W.Frag} {h : Heap} {mg : PySem.Str → Option Value}
theorem s0 : FnScope ["value", "low", "high"] ["value", "low", "high"] (defScope (topS 7)) := ⟨rfl, rfl, rfl, by decide +kernel, rfl, by decide +kernel, by decide +kernel⟩
theorem c0 : chkB { cx with N := ["value", "low", "high"] } (defScope (topS 7)) F0.body (defBody (topS 7)) = true := by kernel_rfl
theorem d0 (X : K.In h) (G : h.Ns mainGlobals mg) (c : He.SaysD fa fn K) : DefOk K mg cx TT 0 := by
  obtain ⟨fd, F⟩ := c.def_ 0 (d := ⟨("is_within", none), "is_within", "is_within", defArgs (topS 7), defBody (topS 7), defScope (topS 7), [], []⟩) rfl
  exact ⟨_, fd, _, _, _, _, _, _, F0, F, s0, He.glo_ok X G (c.fact 0 (f := .glo "is_within") rfl), F.bindsN (fun _ _ _ _ _ _ us hl => match us, hl with | [_, _, _], _ => rfl), rfl, rfl, rfl, rfl, c0⟩
theorem s1 : FnScope ["value", "low", "high"] ["value", "low", "high"] (defScope (topS 8)) := ⟨rfl, rfl, rfl, by decide +kernel, rfl, by decide +kernel, by decide +kernel⟩
theorem c1 : chkB { cx with N := ["value", "low", "high"] } (defScope (topS 8)) F1.body (defBody (topS 8)) = true := by kernel_rfl
theorem d1 (X : K.In h) (G : h.Ns mainGlobals mg) (c : He.SaysD fa fn K) : DefOk K mg cx TT 1 := by
  obtain ⟨fd, F⟩ := c.def_ 1 (d := ⟨("has_items", none), "has_items", "has_items", defArgs (topS 8), defBody (topS 8), defScope (topS 8), [], []⟩) rfl
  exact ⟨_, fd, _, _, _, _, _, _, F1, F, s1, He.glo_ok X G (c.fact 1 (f := .glo "has_items") rfl), F.bindsN (fun _ _ _ _ _ _ us hl => match us, hl with | [_, _, _], _ => rfl), rfl, rfl, rfl, rfl, c1⟩
theorem s2 : FnScope ["width", "value"] ["width", "value"] (defScope (topS 9)) := ⟨rfl, rfl, rfl, by decide +kernel, rfl, by decide +kernel, by decide +kernel⟩
theorem c2 : chkB { cx with N := ["width", "value"] } (defScope (topS 9)) F2.body (defBody (topS 9)) = true := by kernel_rfl
theorem d2 (X : K.In h) (G : h.Ns mainGlobals mg) (c : He.SaysD fa fn K) : DefOk K mg cx TT 2 := by
  obtain ⟨fd, F⟩ := c.def_ 2 (d := ⟨("is_door", none), "is_door", "is_door", defArgs (topS 9), defBody (topS 9), defScope (topS 9), [], []⟩) rfl
  exact ⟨_, fd, _, _, _, _, _, _, F2, F, s2, He.glo_ok X G (c.fact 2 (f := .glo "is_door") rfl), F.bindsN (fun _ _ _ _ _ _ us hl => match us, hl with | [_, _], _ => rfl), rfl, rfl, rfl, rfl, c2⟩
theorem s3 : FnScope ["width", "many", "value", "one"] ["width", "many", "value"] (defScope (topS 10)) := ⟨rfl, rfl, rfl, by decide +kernel, rfl, by decide +kernel, by decide +kernel⟩
theorem c3 : chkB { cx with N := ["width", "many", "value", "one"] } (defScope (topS 10)) F3.body (defBody (topS 10)) = true := by kernel_rfl
theorem d3 (X : K.In h) (G : h.Ns mainGlobals mg) (c : He.SaysD fa fn K) : DefOk K mg cx TT 3 := by
  obtain ⟨fd, F⟩ := c.def_ 3 (d := ⟨("is_lip", none), "is_lip", "is_lip", defArgs (topS 10), defBody (topS 10), defScope (topS 10), [], []⟩) rfl
  exact ⟨_, fd, _, _, _, _, _, _, F3, F, s3, He.glo_ok X G (c.fact 3 (f := .glo "is_lip") rfl), F.bindsN (fun _ _ _ _ _ _ us hl => match us, hl with | [_, _, _], _ => rfl), rfl, rfl, rfl, rfl, c3⟩
theorem s4 : FnScope ["value", "width", "doors", "lips", "one", "other"] ["value"] (defScope (topS 11)) := ⟨rfl, rfl, rfl, by decide +kernel, rfl, by decide +kernel, by decide +kernel⟩
theorem c4 : chkB { cx with N := ["value", "width", "doors", "lips", "one", "other"] } (defScope (topS 11)) F4.body (defBody (topS 11)) = true := by kernel_rfl
theorem d4 (X : K.In h) (G : h.Ns mainGlobals mg) (c : He.SaysD fa fn K) : DefOk K mg cx TT 4 := by
  obtain ⟨fd, F⟩ := c.def_ 4 (d := ⟨("has_shape", none), "has_shape", "has_shape", defArgs (topS 11), defBody (topS 11), defScope (topS 11), [], []⟩) rfl
  exact ⟨_, fd, _, _, _, _, _, _, F4, F, s4, He.glo_ok X G (c.fact 4 (f := .glo "has_shape") rfl), F.bindsN (fun _ _ _ _ _ _ us hl => match us, hl with | [_], _ => rfl), rfl, rfl, rfl, rfl, c4⟩
theorem s6 : FnScope ["cupboard", "width", "doors", "lips", "numbers", "walls", "at", "pairs", "one", "other", "tracks", "most"] ["cupboard"] (defScope (topS 12)) := ⟨rfl, rfl, rfl, by decide +kernel, rfl, by decide +kernel, by decide +kernel⟩
theorem c6 : chkB { cx with N := ["cupboard", "width", "doors", "lips", "numbers", "walls", "at", "pairs", "one", "other", "tracks", "most"] } (defScope (topS 12)) F6.body (defBody (topS 12)) = true := by kernel_rfl
theorem d6 (X : K.In h) (G : h.Ns mainGlobals mg) (c : He.SaysD fa fn K) : DefOk K mg cx TT 6 := by
  obtain ⟨fd, F⟩ := c.def_ 5 (d := ⟨("bounds_of", none), "bounds_of", "bounds_of", defArgs (topS 12), defBody (topS 12), defScope (topS 12), [], []⟩) rfl
  exact ⟨_, fd, _, _, _, _, _, _, F6, F, s6, He.glo_ok X G (c.fact 5 (f := .glo "bounds_of") rfl), F.bindsN (fun _ _ _ _ _ _ us hl => match us, hl with | [_], _ => rfl), rfl, rfl, rfl, rfl, c6⟩
theorem s5 : FnScope ["doors", "one", "other"] ["doors", "one", "other"] (defScope (topS 13)) := ⟨rfl, rfl, rfl, by decide +kernel, rfl, by decide +kernel, by decide +kernel⟩
theorem c5 : chkB { cx with N := ["doors", "one", "other"] } (defScope (topS 13)) F5.body (defBody (topS 13)) = true := by kernel_rfl
theorem d5 (X : K.In h) (G : h.Ns mainGlobals mg) (c : He.SaysD fa fn K) : DefOk K mg cx TT 5 := by
  obtain ⟨fd, F⟩ := c.def_ 6 (d := ⟨("goes_left", none), "goes_left", "goes_left", defArgs (topS 13), defBody (topS 13), defScope (topS 13), [], []⟩) rfl
  exact ⟨_, fd, _, _, _, _, _, _, F5, F, s5, He.glo_ok X G (c.fact 6 (f := .glo "goes_left") rfl), F.bindsN (fun _ _ _ _ _ _ us hl => match us, hl with | [_, _, _], _ => rfl), rfl, rfl, rfl, rfl, c5⟩
theorem s7 : FnScope ["bounds", "one", "other", "told", "first", "second", "most"] ["bounds", "one", "other"] (defScope (topS 14)) := ⟨rfl, rfl, rfl, by decide +kernel, rfl, by decide +kernel, by decide +kernel⟩
theorem c7 : chkB { cx with N := ["bounds", "one", "other", "told", "first", "second", "most"] } (defScope (topS 14)) F7.body (defBody (topS 14)) = true := by kernel_rfl
theorem d7 (X : K.In h) (G : h.Ns mainGlobals mg) (c : He.SaysD fa fn K) : DefOk K mg cx TT 7 := by
  obtain ⟨fd, F⟩ := c.def_ 7 (d := ⟨("told_bound", none), "told_bound", "told_bound", defArgs (topS 14), defBody (topS 14), defScope (topS 14), [], []⟩) rfl
  exact ⟨_, fd, _, _, _, _, _, _, F7, F, s7, He.glo_ok X G (c.fact 7 (f := .glo "told_bound") rfl), F.bindsN (fun _ _ _ _ _ _ us hl => match us, hl with | [_, _, _], _ => rfl), rfl, rfl, rfl, rfl, c7⟩
theorem s8 : FnScope ["many", "bounds", "nodes", "table", "other", "one", "middle", "by", "row", "at"] ["many", "bounds"] (defScope (topS 15)) := ⟨rfl, rfl, rfl, by decide +kernel, rfl, by decide +kernel, by decide +kernel⟩
theorem c8 : chkB { cx with N := ["many", "bounds", "nodes", "table", "other", "one", "middle", "by", "row", "at"] } (defScope (topS 15)) F8.body (defBody (topS 15)) = true := by kernel_rfl
theorem d8 (X : K.In h) (G : h.Ns mainGlobals mg) (c : He.SaysD fa fn K) : DefOk K mg cx TT 8 := by
  obtain ⟨fd, F⟩ := c.def_ 8 (d := ⟨("closed", none), "closed", "closed", defArgs (topS 15), defBody (topS 15), defScope (topS 15), [], []⟩) rfl
  exact ⟨_, fd, _, _, _, _, _, _, F8, F, s8, He.glo_ok X G (c.fact 8 (f := .glo "closed") rfl), F.bindsN (fun _ _ _ _ _ _ us hl => match us, hl with | [_, _], _ => rfl), rfl, rfl, rfl, rfl, c8⟩
theorem s9 : FnScope ["cupboard"] ["cupboard"] (defScope (topS 16)) := ⟨rfl, rfl, rfl, by decide +kernel, rfl, by decide +kernel, by decide +kernel⟩
theorem c9 : chkB { cx with N := ["cupboard"] } (defScope (topS 16)) F9.body (defBody (topS 16)) = true := by kernel_rfl
theorem d9 (X : K.In h) (G : h.Ns mainGlobals mg) (c : He.SaysD fa fn K) : DefOk K mg cx TT 9 := by
  obtain ⟨fd, F⟩ := c.def_ 9 (d := ⟨("table_of", none), "table_of", "table_of", defArgs (topS 16), defBody (topS 16), defScope (topS 16), [], []⟩) rfl
  exact ⟨_, fd, _, _, _, _, _, _, F9, F, s9, He.glo_ok X G (c.fact 9 (f := .glo "table_of") rfl), F.bindsN (fun _ _ _ _ _ _ us hl => match us, hl with | [_], _ => rfl), rfl, rfl, rfl, rfl, c9⟩
theorem s10 : FnScope ["value"] ["value"] (defScope (topS 17)) := ⟨rfl, rfl, rfl, by decide +kernel, rfl, by decide +kernel, by decide +kernel⟩
theorem c10 : chkB { cx with N := ["value"] } (defScope (topS 17)) F10.body (defBody (topS 17)) = true := by kernel_rfl
theorem d10 (X : K.In h) (G : h.Ns mainGlobals mg) (c : He.SaysD fa fn K) : DefOk K mg cx TT 10 := by
  obtain ⟨fd, F⟩ := c.def_ 10 (d := ⟨("is_cupboard_value", none), "is_cupboard_value", "is_cupboard_value", defArgs (topS 17), defBody (topS 17), defScope (topS 17), [], []⟩) rfl
  exact ⟨_, fd, _, _, _, _, _, _, F10, F, s10, He.glo_ok X G (c.fact 10 (f := .glo "is_cupboard_value") rfl), F.bindsN (fun _ _ _ _ _ _ us hl => match us, hl with | [_], _ => rfl), rfl, rfl, rfl, rfl, c10⟩
theorem s11 : FnScope ["one", "other"] ["one", "other"] (defScope (topS 18)) := ⟨rfl, rfl, rfl, by decide +kernel, rfl, by decide +kernel, by decide +kernel⟩
theorem c11 : chkB { cx with N := ["one", "other"] } (defScope (topS 18)) F11.body (defBody (topS 18)) = true := by kernel_rfl
theorem d11 (X : K.In h) (G : h.Ns mainGlobals mg) (c : He.SaysD fa fn K) : DefOk K mg cx TT 11 := by
  obtain ⟨fd, F⟩ := c.def_ 11 (d := ⟨("divisor", none), "divisor", "divisor", defArgs (topS 18), defBody (topS 18), defScope (topS 18), [], []⟩) rfl
  exact ⟨_, fd, _, _, _, _, _, _, F11, F, s11, He.glo_ok X G (c.fact 11 (f := .glo "divisor") rfl), F.bindsN (fun _ _ _ _ _ _ us hl => match us, hl with | [_, _], _ => rfl), rfl, rfl, rfl, rfl, c11⟩
theorem s12 : FnScope ["top", "below", "part"] ["top", "below"] (defScope (topS 19)) := ⟨rfl, rfl, rfl, by decide +kernel, rfl, by decide +kernel, by decide +kernel⟩
theorem c12 : chkB { cx with N := ["top", "below", "part"] } (defScope (topS 19)) F12.body (defBody (topS 19)) = true := by kernel_rfl
theorem d12 (X : K.In h) (G : h.Ns mainGlobals mg) (c : He.SaysD fa fn K) : DefOk K mg cx TT 12 := by
  obtain ⟨fd, F⟩ := c.def_ 12 (d := ⟨("lowest", none), "lowest", "lowest", defArgs (topS 19), defBody (topS 19), defScope (topS 19), [], []⟩) rfl
  exact ⟨_, fd, _, _, _, _, _, _, F12, F, s12, He.glo_ok X G (c.fact 12 (f := .glo "lowest") rfl), F.bindsN (fun _ _ _ _ _ _ us hl => match us, hl with | [_, _], _ => rfl), rfl, rfl, rfl, rfl, c12⟩
theorem s13 : FnScope ["one", "other"] ["one", "other"] (defScope (topS 20)) := ⟨rfl, rfl, rfl, by decide +kernel, rfl, by decide +kernel, by decide +kernel⟩
theorem c13 : chkB { cx with N := ["one", "other"] } (defScope (topS 20)) F13.body (defBody (topS 20)) = true := by kernel_rfl
theorem d13 (X : K.In h) (G : h.Ns mainGlobals mg) (c : He.SaysD fa fn K) : DefOk K mg cx TT 13 := by
  obtain ⟨fd, F⟩ := c.def_ 13 (d := ⟨("less_by", none), "less_by", "less_by", defArgs (topS 20), defBody (topS 20), defScope (topS 20), [], []⟩) rfl
  exact ⟨_, fd, _, _, _, _, _, _, F13, F, s13, He.glo_ok X G (c.fact 13 (f := .glo "less_by") rfl), F.bindsN (fun _ _ _ _ _ _ us hl => match us, hl with | [_, _], _ => rfl), rfl, rfl, rfl, rfl, c13⟩
theorem s14 : FnScope ["value"] ["value"] (defScope (topS 21)) := ⟨rfl, rfl, rfl, by decide +kernel, rfl, by decide +kernel, by decide +kernel⟩
theorem c14 : chkB { cx with N := ["value"] } (defScope (topS 21)) F14.body (defBody (topS 21)) = true := by kernel_rfl
theorem d14 (X : K.In h) (G : h.Ns mainGlobals mg) (c : He.SaysD fa fn K) : DefOk K mg cx TT 14 := by
  obtain ⟨fd, F⟩ := c.def_ 14 (d := ⟨("is_fraction", none), "is_fraction", "is_fraction", defArgs (topS 21), defBody (topS 21), defScope (topS 21), [], []⟩) rfl
  exact ⟨_, fd, _, _, _, _, _, _, F14, F, s14, He.glo_ok X G (c.fact 14 (f := .glo "is_fraction") rfl), F.bindsN (fun _ _ _ _ _ _ us hl => match us, hl with | [_], _ => rfl), rfl, rfl, rfl, rfl, c14⟩
theorem s15 : FnScope ["cupboard", "value", "one", "spots", "other", "most", "top", "below"] ["cupboard", "value"] (defScope (topS 22)) := ⟨rfl, rfl, rfl, by decide +kernel, rfl, by decide +kernel, by decide +kernel⟩
theorem c15 : chkB { cx with N := ["cupboard", "value", "one", "spots", "other", "most", "top", "below"] } (defScope (topS 22)) F15.body (defBody (topS 22)) = true := by kernel_rfl
theorem d15 (X : K.In h) (G : h.Ns mainGlobals mg) (c : He.SaysD fa fn K) : DefOk K mg cx TT 15 := by
  obtain ⟨fd, F⟩ := c.def_ 15 (d := ⟨("is_places_value", none), "is_places_value", "is_places_value", defArgs (topS 22), defBody (topS 22), defScope (topS 22), [], []⟩) rfl
  exact ⟨_, fd, _, _, _, _, _, _, F15, F, s15, He.glo_ok X G (c.fact 15 (f := .glo "is_places_value") rfl), F.bindsN (fun _ _ _ _ _ _ us hl => match us, hl with | [_, _], _ => rfl), rfl, rfl, rfl, rfl, c15⟩
theorem s16 : FnScope ["value"] ["value"] (defScope (topS 23)) := ⟨rfl, rfl, rfl, by decide +kernel, rfl, by decide +kernel, by decide +kernel⟩
theorem c16 : chkB { cx with N := ["value"] } (defScope (topS 23)) F16.body (defBody (topS 23)) = true := by kernel_rfl
theorem d16 (X : K.In h) (G : h.Ns mainGlobals mg) (c : He.SaysD fa fn K) : DefOk K mg cx TT 16 := by
  obtain ⟨fd, F⟩ := c.def_ 16 (d := ⟨("need_cupboard", none), "need_cupboard", "need_cupboard", defArgs (topS 23), defBody (topS 23), defScope (topS 23), [], []⟩) rfl
  exact ⟨_, fd, _, _, _, _, _, _, F16, F, s16, He.glo_ok X G (c.fact 16 (f := .glo "need_cupboard") rfl), F.bindsN (fun _ _ _ _ _ _ us hl => match us, hl with | [_], _ => rfl), rfl, rfl, rfl, rfl, c16⟩
theorem s17 : FnScope ["cupboard", "value"] ["cupboard", "value"] (defScope (topS 24)) := ⟨rfl, rfl, rfl, by decide +kernel, rfl, by decide +kernel, by decide +kernel⟩
theorem c17 : chkB { cx with N := ["cupboard", "value"] } (defScope (topS 24)) F17.body (defBody (topS 24)) = true := by kernel_rfl
theorem d17 (X : K.In h) (G : h.Ns mainGlobals mg) (c : He.SaysD fa fn K) : DefOk K mg cx TT 17 := by
  obtain ⟨fd, F⟩ := c.def_ 17 (d := ⟨("need_places", none), "need_places", "need_places", defArgs (topS 24), defBody (topS 24), defScope (topS 24), [], []⟩) rfl
  exact ⟨_, fd, _, _, _, _, _, _, F17, F, s17, He.glo_ok X G (c.fact 17 (f := .glo "need_places") rfl), F.bindsN (fun _ _ _ _ _ _ us hl => match us, hl with | [_, _], _ => rfl), rfl, rfl, rfl, rfl, c17⟩
theorem s18 : FnScope ["cupboard", "value", "width", "doors", "lips"] ["cupboard", "value"] (defScope (topS 28)) := ⟨rfl, rfl, rfl, by decide +kernel, rfl, by decide +kernel, by decide +kernel⟩
theorem c18 : chkB { cx with N := ["cupboard", "value", "width", "doors", "lips"] } (defScope (topS 28)) F18.body (defBody (topS 28)) = true := by kernel_rfl
theorem d18 (X : K.In h) (G : h.Ns mainGlobals mg) (c : He.SaysD fa fn K) : DefOk K mg cx TT 18 := by
  obtain ⟨fd, F⟩ := c.def_ 18 (d := ⟨("is_push_value", none), "is_push_value", "is_push_value", defArgs (topS 28), defBody (topS 28), defScope (topS 28), [], []⟩) rfl
  exact ⟨_, fd, _, _, _, _, _, _, F18, F, s18, He.glo_ok X G (c.fact 18 (f := .glo "is_push_value") rfl), F.bindsN (fun _ _ _ _ _ _ us hl => match us, hl with | [_, _], _ => rfl), rfl, rfl, rfl, rfl, c18⟩
theorem s19 : FnScope ["cupboard", "value", "most", "one"] ["cupboard", "value", "most"] (defScope (topS 29)) := ⟨rfl, rfl, rfl, by decide +kernel, rfl, by decide +kernel, by decide +kernel⟩
theorem c19 : chkB { cx with N := ["cupboard", "value", "most", "one"] } (defScope (topS 29)) F19.body (defBody (topS 29)) = true := by kernel_rfl
theorem d19 (X : K.In h) (G : h.Ns mainGlobals mg) (c : He.SaysD fa fn K) : DefOk K mg cx TT 19 := by
  obtain ⟨fd, F⟩ := c.def_ 19 (d := ⟨("are_pushes", none), "are_pushes", "are_pushes", defArgs (topS 29), defBody (topS 29), defScope (topS 29), [], []⟩) rfl
  exact ⟨_, fd, _, _, _, _, _, _, F19, F, s19, He.glo_ok X G (c.fact 19 (f := .glo "are_pushes") rfl), F.bindsN (fun _ _ _ _ _ _ us hl => match us, hl with | [_, _, _], _ => rfl), rfl, rfl, rfl, rfl, c19⟩
theorem s20 : FnScope ["cupboard", "value"] ["cupboard", "value"] (defScope (topS 30)) := ⟨rfl, rfl, rfl, by decide +kernel, rfl, by decide +kernel, by decide +kernel⟩
theorem c20 : chkB { cx with N := ["cupboard", "value"] } (defScope (topS 30)) F20.body (defBody (topS 30)) = true := by kernel_rfl
theorem d20 (X : K.In h) (G : h.Ns mainGlobals mg) (c : He.SaysD fa fn K) : DefOk K mg cx TT 20 := by
  obtain ⟨fd, F⟩ := c.def_ 20 (d := ⟨("is_script_value", none), "is_script_value", "is_script_value", defArgs (topS 30), defBody (topS 30), defScope (topS 30), [], []⟩) rfl
  exact ⟨_, fd, _, _, _, _, _, _, F20, F, s20, He.glo_ok X G (c.fact 20 (f := .glo "is_script_value") rfl), F.bindsN (fun _ _ _ _ _ _ us hl => match us, hl with | [_, _], _ => rfl), rfl, rfl, rfl, rfl, c20⟩
theorem s21 : FnScope ["one", "number"] ["one", "number"] (defScope (topS 31)) := ⟨rfl, rfl, rfl, by decide +kernel, rfl, by decide +kernel, by decide +kernel⟩
theorem c21 : chkB { cx with N := ["one", "number"] } (defScope (topS 31)) F21.body (defBody (topS 31)) = true := by kernel_rfl
theorem d21 (X : K.In h) (G : h.Ns mainGlobals mg) (c : He.SaysD fa fn K) : DefOk K mg cx TT 21 := by
  obtain ⟨fd, F⟩ := c.def_ 21 (d := ⟨("plus", none), "plus", "plus", defArgs (topS 31), defBody (topS 31), defScope (topS 31), [], []⟩) rfl
  exact ⟨_, fd, _, _, _, _, _, _, F21, F, s21, He.glo_ok X G (c.fact 21 (f := .glo "plus") rfl), F.bindsN (fun _ _ _ _ _ _ us hl => match us, hl with | [_, _], _ => rfl), rfl, rfl, rfl, rfl, c21⟩
theorem s22 : FnScope ["one", "other"] ["one", "other"] (defScope (topS 32)) := ⟨rfl, rfl, rfl, by decide +kernel, rfl, by decide +kernel, by decide +kernel⟩
theorem c22 : chkB { cx with N := ["one", "other"] } (defScope (topS 32)) F22.body (defBody (topS 32)) = true := by kernel_rfl
theorem d22 (X : K.In h) (G : h.Ns mainGlobals mg) (c : He.SaysD fa fn K) : DefOk K mg cx TT 22 := by
  obtain ⟨fd, F⟩ := c.def_ 22 (d := ⟨("is_less", none), "is_less", "is_less", defArgs (topS 32), defBody (topS 32), defScope (topS 32), [], []⟩) rfl
  exact ⟨_, fd, _, _, _, _, _, _, F22, F, s22, He.glo_ok X G (c.fact 22 (f := .glo "is_less") rfl), F.bindsN (fun _ _ _ _ _ _ us hl => match us, hl with | [_, _], _ => rfl), rfl, rfl, rfl, rfl, c22⟩
theorem s23 : FnScope ["cupboard", "table", "places", "push", "word", "door", "more", "low", "high", "goal"] ["cupboard", "table", "places", "push"] (defScope (topS 33)) := ⟨rfl, rfl, rfl, by decide +kernel, rfl, by decide +kernel, by decide +kernel⟩
theorem c23 : chkB { cx with N := ["cupboard", "table", "places", "push", "word", "door", "more", "low", "high", "goal"] } (defScope (topS 33)) F23.body (defBody (topS 33)) = true := by kernel_rfl
theorem d23 (X : K.In h) (G : h.Ns mainGlobals mg) (c : He.SaysD fa fn K) : DefOk K mg cx TT 23 := by
  obtain ⟨fd, F⟩ := c.def_ 23 (d := ⟨("goal_of", none), "goal_of", "goal_of", defArgs (topS 33), defBody (topS 33), defScope (topS 33), [], []⟩) rfl
  exact ⟨_, fd, _, _, _, _, _, _, F23, F, s23, He.glo_ok X G (c.fact 23 (f := .glo "goal_of") rfl), F.bindsN (fun _ _ _ _ _ _ us hl => match us, hl with | [_, _, _, _], _ => rfl), rfl, rfl, rfl, rfl, c23⟩
theorem s24 : FnScope ["cupboard", "table", "places", "push", "door", "goal", "numbers", "least", "other", "at", "greatest"] ["cupboard", "table", "places", "push"] (defScope (topS 34)) := ⟨rfl, rfl, rfl, by decide +kernel, rfl, by decide +kernel, by decide +kernel⟩
theorem c24 : chkB { cx with N := ["cupboard", "table", "places", "push", "door", "goal", "numbers", "least", "other", "at", "greatest"] } (defScope (topS 34)) F24.body (defBody (topS 34)) = true := by kernel_rfl
theorem d24 (X : K.In h) (G : h.Ns mainGlobals mg) (c : He.SaysD fa fn K) : DefOk K mg cx TT 24 := by
  obtain ⟨fd, F⟩ := c.def_ 24 (d := ⟨("pushed", none), "pushed", "pushed", defArgs (topS 34), defBody (topS 34), defScope (topS 34), [], []⟩) rfl
  exact ⟨_, fd, _, _, _, _, _, _, F24, F, s24, He.glo_ok X G (c.fact 24 (f := .glo "pushed") rfl), F.bindsN (fun _ _ _ _ _ _ us hl => match us, hl with | [_, _, _, _], _ => rfl), rfl, rfl, rfl, rfl, c24⟩
theorem s25 : FnScope ["cupboard", "script", "places", "table", "push"] ["cupboard", "script", "places"] (defScope (topS 35)) := ⟨rfl, rfl, rfl, by decide +kernel, rfl, by decide +kernel, by decide +kernel⟩
theorem c25 : chkB { cx with N := ["cupboard", "script", "places", "table", "push"] } (defScope (topS 35)) F25.body (defBody (topS 35)) = true := by kernel_rfl
theorem d25 (X : K.In h) (G : h.Ns mainGlobals mg) (c : He.SaysD fa fn K) : DefOk K mg cx TT 25 := by
  obtain ⟨fd, F⟩ := c.def_ 25 (d := ⟨("run", none), "run", "run", defArgs (topS 35), defBody (topS 35), defScope (topS 35), [], []⟩) rfl
  exact ⟨_, fd, _, _, _, _, _, _, F25, F, s25, He.glo_ok X G (c.fact 25 (f := .glo "run") rfl), F.bindsN (fun _ _ _ _ _ _ us hl => match us, hl with | [_, _, _], _ => rfl), rfl, rfl, rfl, rfl, c25⟩
theorem s26 : FnScope ["cupboard", "value"] ["cupboard", "value"] (defScope (topS 36)) := ⟨rfl, rfl, rfl, by decide +kernel, rfl, by decide +kernel, by decide +kernel⟩
theorem c26 : chkB { cx with N := ["cupboard", "value"] } (defScope (topS 36)) F26.body (defBody (topS 36)) = true := by kernel_rfl
theorem d26 (X : K.In h) (G : h.Ns mainGlobals mg) (c : He.SaysD fa fn K) : DefOk K mg cx TT 26 := by
  obtain ⟨fd, F⟩ := c.def_ 26 (d := ⟨("need_script", none), "need_script", "need_script", defArgs (topS 36), defBody (topS 36), defScope (topS 36), [], []⟩) rfl
  exact ⟨_, fd, _, _, _, _, _, _, F26, F, s26, He.glo_ok X G (c.fact 26 (f := .glo "need_script") rfl), F.bindsN (fun _ _ _ _ _ _ us hl => match us, hl with | [_, _], _ => rfl), rfl, rfl, rfl, rfl, c26⟩
theorem s27 : FnScope ["cupboard", "script", "places"] ["cupboard", "script", "places"] (defScope (topS 37)) := ⟨rfl, rfl, rfl, by decide +kernel, rfl, by decide +kernel, by decide +kernel⟩
theorem c27 : chkB { cx with N := ["cupboard", "script", "places"] } (defScope (topS 37)) F27.body (defBody (topS 37)) = true := by kernel_rfl
theorem d27 (X : K.In h) (G : h.Ns mainGlobals mg) (c : He.SaysD fa fn K) : DefOk K mg cx TT 27 := by
  obtain ⟨fd, F⟩ := c.def_ 27 (d := ⟨("behind", none), "behind", "behind", defArgs (topS 37), defBody (topS 37), defScope (topS 37), [], []⟩) rfl
  exact ⟨_, fd, _, _, _, _, _, _, F27, F, s27, He.glo_ok X G (c.fact 27 (f := .glo "behind") rfl), F.bindsN (fun _ _ _ _ _ _ us hl => match us, hl with | [_, _, _], _ => rfl), rfl, rfl, rfl, rfl, c27⟩
theorem s28 : FnScope ["_law_cell", "_law_turn"] ["_law_cell", "_law_turn"] (defScope (topS 39)) := ⟨rfl, rfl, rfl, by decide +kernel, rfl, by decide +kernel, by decide +kernel⟩
theorem c28 : chkB { cx with N := ["_law_cell", "_law_turn"] } (defScope (topS 39)) F28.body (defBody (topS 39)) = true := by kernel_rfl
theorem d28 (X : K.In h) (G : h.Ns mainGlobals mg) (c : He.SaysD fa fn K) : DefOk K mg cx TT 28 := by
  obtain ⟨fd, F⟩ := c.def_ 28 (d := ⟨("_law_deck", none), "_law_deck", "_law_deck", defArgs (topS 39), defBody (topS 39), defScope (topS 39), [], []⟩) rfl
  exact ⟨_, fd, _, _, _, _, _, _, F28, F, s28, He.glo_ok X G (c.fact 28 (f := .glo "_law_deck") rfl), F.bindsN (fun _ _ _ _ _ _ us hl => match us, hl with | [_, _], _ => rfl), rfl, rfl, rfl, rfl, c28⟩
theorem s29 : FnScope ["_law_deck_here", "_law_size", "_law_found", "_law_number"] ["_law_deck_here", "_law_size"] (defScope (topS 40)) := ⟨rfl, rfl, rfl, by decide +kernel, rfl, by decide +kernel, by decide +kernel⟩
theorem c29 : chkB { cx with N := ["_law_deck_here", "_law_size", "_law_found", "_law_number"] } (defScope (topS 40)) F29.body (defBody (topS 40)) = true := by kernel_rfl
theorem d29 (X : K.In h) (G : h.Ns mainGlobals mg) (c : He.SaysD fa fn K) : DefOk K mg cx TT 29 := by
  obtain ⟨fd, F⟩ := c.def_ 29 (d := ⟨("_law_pick", none), "_law_pick", "_law_pick", defArgs (topS 40), defBody (topS 40), defScope (topS 40), [], []⟩) rfl
  exact ⟨_, fd, _, _, _, _, _, _, F29, F, s29, He.glo_ok X G (c.fact 29 (f := .glo "_law_pick") rfl), F.bindsN (fun _ _ _ _ _ _ us hl => match us, hl with | [_, _], _ => rfl), rfl, rfl, rfl, rfl, c29⟩
theorem s30 : FnScope ["_law_deck_here", "_law_some"] ["_law_deck_here", "_law_some"] (defScope (topS 41)) := ⟨rfl, rfl, rfl, by decide +kernel, rfl, by decide +kernel, by decide +kernel⟩
theorem c30 : chkB { cx with N := ["_law_deck_here", "_law_some"] } (defScope (topS 41)) F30.body (defBody (topS 41)) = true := by kernel_rfl
theorem d30 (X : K.In h) (G : h.Ns mainGlobals mg) (c : He.SaysD fa fn K) : DefOk K mg cx TT 30 := by
  obtain ⟨fd, F⟩ := c.def_ 30 (d := ⟨("_law_one", none), "_law_one", "_law_one", defArgs (topS 41), defBody (topS 41), defScope (topS 41), [], []⟩) rfl
  exact ⟨_, fd, _, _, _, _, _, _, F30, F, s30, He.glo_ok X G (c.fact 30 (f := .glo "_law_one") rfl), F.bindsN (fun _ _ _ _ _ _ us hl => match us, hl with | [_, _], _ => rfl), rfl, rfl, rfl, rfl, c30⟩
theorem s31 : FnScope ["_law_cupboard_here", "_law_width", "_law_doors", "_law_lips", "_law_found", "_law_k", "_law_j", "_law_lip"] ["_law_cupboard_here"] (defScope (topS 42)) := ⟨rfl, rfl, rfl, by decide +kernel, rfl, by decide +kernel, by decide +kernel⟩
theorem c31 : chkB { cx with N := ["_law_cupboard_here", "_law_width", "_law_doors", "_law_lips", "_law_found", "_law_k", "_law_j", "_law_lip"] } (defScope (topS 42)) F31.body (defBody (topS 42)) = true := by kernel_rfl
theorem d31 (X : K.In h) (G : h.Ns mainGlobals mg) (c : He.SaysD fa fn K) : DefOk K mg cx TT 31 := by
  obtain ⟨fd, F⟩ := c.def_ 31 (d := ⟨("_law_bounds", none), "_law_bounds", "_law_bounds", defArgs (topS 42), defBody (topS 42), defScope (topS 42), [], []⟩) rfl
  exact ⟨_, fd, _, _, _, _, _, _, F31, F, s31, He.glo_ok X G (c.fact 31 (f := .glo "_law_bounds") rfl), F.bindsN (fun _ _ _ _ _ _ us hl => match us, hl with | [_], _ => rfl), rfl, rfl, rfl, rfl, c31⟩
theorem s32 : FnScope ["_law_bounds_here", "_law_unit", "_law_spots", "_law_kind_so", "_law_now", "_law_turn", "_law_good", "_law_one_here", "_law_other", "_law_most"] ["_law_bounds_here", "_law_unit", "_law_spots", "_law_kind_so"] (defScope (topS 43)) := ⟨rfl, rfl, rfl, by decide +kernel, rfl, by decide +kernel, by decide +kernel⟩
theorem c32 : chkB { cx with N := ["_law_bounds_here", "_law_unit", "_law_spots", "_law_kind_so", "_law_now", "_law_turn", "_law_good", "_law_one_here", "_law_other", "_law_most"] } (defScope (topS 43)) F32.body (defBody (topS 43)) = true := by kernel_rfl
theorem d32 (X : K.In h) (G : h.Ns mainGlobals mg) (c : He.SaysD fa fn K) : DefOk K mg cx TT 32 := by
  obtain ⟨fd, F⟩ := c.def_ 32 (d := ⟨("_law_moved", none), "_law_moved", "_law_moved", defArgs (topS 43), defBody (topS 43), defScope (topS 43), [], []⟩) rfl
  exact ⟨_, fd, _, _, _, _, _, _, F32, F, s32, He.glo_ok X G (c.fact 32 (f := .glo "_law_moved") rfl), F.bindsN (fun _ _ _ _ _ _ us hl => match us, hl with | [_, _, _, _], _ => rfl), rfl, rfl, rfl, rfl, c32⟩
theorem s33 : FnScope ["_law_cupboard_here", "_law_unit"] ["_law_cupboard_here", "_law_unit"] (defScope (topS 44)) := ⟨rfl, rfl, rfl, by decide +kernel, rfl, by decide +kernel, by decide +kernel⟩
theorem c33 : chkB { cx with N := ["_law_cupboard_here", "_law_unit"] } (defScope (topS 44)) F33.body (defBody (topS 44)) = true := by kernel_rfl
theorem d33 (X : K.In h) (G : h.Ns mainGlobals mg) (c : He.SaysD fa fn K) : DefOk K mg cx TT 33 := by
  obtain ⟨fd, F⟩ := c.def_ 33 (d := ⟨("_law_lows", none), "_law_lows", "_law_lows", defArgs (topS 44), defBody (topS 44), defScope (topS 44), [], []⟩) rfl
  exact ⟨_, fd, _, _, _, _, _, _, F33, F, s33, He.glo_ok X G (c.fact 33 (f := .glo "_law_lows") rfl), F.bindsN (fun _ _ _ _ _ _ us hl => match us, hl with | [_, _], _ => rfl), rfl, rfl, rfl, rfl, c33⟩
theorem s34 : FnScope ["_law_cupboard_here", "_law_unit"] ["_law_cupboard_here", "_law_unit"] (defScope (topS 45)) := ⟨rfl, rfl, rfl, by decide +kernel, rfl, by decide +kernel, by decide +kernel⟩
theorem c34 : chkB { cx with N := ["_law_cupboard_here", "_law_unit"] } (defScope (topS 45)) F34.body (defBody (topS 45)) = true := by kernel_rfl
theorem d34 (X : K.In h) (G : h.Ns mainGlobals mg) (c : He.SaysD fa fn K) : DefOk K mg cx TT 34 := by
  obtain ⟨fd, F⟩ := c.def_ 34 (d := ⟨("_law_highs", none), "_law_highs", "_law_highs", defArgs (topS 45), defBody (topS 45), defScope (topS 45), [], []⟩) rfl
  exact ⟨_, fd, _, _, _, _, _, _, F34, F, s34, He.glo_ok X G (c.fact 34 (f := .glo "_law_highs") rfl), F.bindsN (fun _ _ _ _ _ _ us hl => match us, hl with | [_, _], _ => rfl), rfl, rfl, rfl, rfl, c34⟩
theorem s35 : FnScope ["_law_deck_here", "_law_width"] ["_law_deck_here", "_law_width"] (defScope (topS 46)) := ⟨rfl, rfl, rfl, by decide +kernel, rfl, by decide +kernel, by decide +kernel⟩
theorem c35 : chkB { cx with N := ["_law_deck_here", "_law_width"] } (defScope (topS 46)) F35.body (defBody (topS 46)) = true := by kernel_rfl
theorem d35 (X : K.In h) (G : h.Ns mainGlobals mg) (c : He.SaysD fa fn K) : DefOk K mg cx TT 35 := by
  obtain ⟨fd, F⟩ := c.def_ 35 (d := ⟨("_law_door", none), "_law_door", "_law_door", defArgs (topS 46), defBody (topS 46), defScope (topS 46), [], []⟩) rfl
  exact ⟨_, fd, _, _, _, _, _, _, F35, F, s35, He.glo_ok X G (c.fact 35 (f := .glo "_law_door") rfl), F.bindsN (fun _ _ _ _ _ _ us hl => match us, hl with | [_, _], _ => rfl), rfl, rfl, rfl, rfl, c35⟩
theorem s36 : FnScope ["_law_deck_here", "_law_width", "_law_many", "_law_doors", "_law_lips", "_law_k", "_law_turn", "_law_one_here", "_law_other"] ["_law_deck_here", "_law_width", "_law_many"] (defScope (topS 47)) := ⟨rfl, rfl, rfl, by decide +kernel, rfl, by decide +kernel, by decide +kernel⟩
theorem c36 : chkB { cx with N := ["_law_deck_here", "_law_width", "_law_many", "_law_doors", "_law_lips", "_law_k", "_law_turn", "_law_one_here", "_law_other"] } (defScope (topS 47)) F36.body (defBody (topS 47)) = true := by kernel_rfl
theorem d36 (X : K.In h) (G : h.Ns mainGlobals mg) (c : He.SaysD fa fn K) : DefOk K mg cx TT 36 := by
  obtain ⟨fd, F⟩ := c.def_ 36 (d := ⟨("_law_any_cupboard", none), "_law_any_cupboard", "_law_any_cupboard", defArgs (topS 47), defBody (topS 47), defScope (topS 47), [], []⟩) rfl
  exact ⟨_, fd, _, _, _, _, _, _, F36, F, s36, He.glo_ok X G (c.fact 36 (f := .glo "_law_any_cupboard") rfl), F.bindsN (fun _ _ _ _ _ _ us hl => match us, hl with | [_, _, _], _ => rfl), rfl, rfl, rfl, rfl, c36⟩
theorem s37 : FnScope ["_law_deck_here", "_law_most", "_law_many", "_law_turn", "_law_found"] ["_law_deck_here", "_law_most", "_law_many"] (defScope (topS 48)) := ⟨rfl, rfl, rfl, by decide +kernel, rfl, by decide +kernel, by decide +kernel⟩
theorem c37 : chkB { cx with N := ["_law_deck_here", "_law_most", "_law_many", "_law_turn", "_law_found"] } (defScope (topS 48)) F37.body (defBody (topS 48)) = true := by kernel_rfl
theorem d37 (X : K.In h) (G : h.Ns mainGlobals mg) (c : He.SaysD fa fn K) : DefOk K mg cx TT 37 := by
  obtain ⟨fd, F⟩ := c.def_ 37 (d := ⟨("_law_cupboard", none), "_law_cupboard", "_law_cupboard", defArgs (topS 48), defBody (topS 48), defScope (topS 48), [], []⟩) rfl
  exact ⟨_, fd, _, _, _, _, _, _, F37, F, s37, He.glo_ok X G (c.fact 37 (f := .glo "_law_cupboard") rfl), F.bindsN (fun _ _ _ _ _ _ us hl => match us, hl with | [_, _, _], _ => rfl), rfl, rfl, rfl, rfl, c37⟩
theorem s38 : FnScope ["_law_deck_here", "_law_cupboard_here", "_law_width", "_law_door_here", "_law_kind_so", "_law_more"] ["_law_deck_here", "_law_cupboard_here"] (defScope (topS 49)) := ⟨rfl, rfl, rfl, by decide +kernel, rfl, by decide +kernel, by decide +kernel⟩
theorem c38 : chkB { cx with N := ["_law_deck_here", "_law_cupboard_here", "_law_width", "_law_door_here", "_law_kind_so", "_law_more"] } (defScope (topS 49)) F38.body (defBody (topS 49)) = true := by kernel_rfl
theorem d38 (X : K.In h) (G : h.Ns mainGlobals mg) (c : He.SaysD fa fn K) : DefOk K mg cx TT 38 := by
  obtain ⟨fd, F⟩ := c.def_ 38 (d := ⟨("_law_push", none), "_law_push", "_law_push", defArgs (topS 49), defBody (topS 49), defScope (topS 49), [], []⟩) rfl
  exact ⟨_, fd, _, _, _, _, _, _, F38, F, s38, He.glo_ok X G (c.fact 38 (f := .glo "_law_push") rfl), F.bindsN (fun _ _ _ _ _ _ us hl => match us, hl with | [_, _], _ => rfl), rfl, rfl, rfl, rfl, c38⟩
theorem s39 : FnScope ["_law_deck_here", "_law_cupboard_here", "_law_most", "_law_turn"] ["_law_deck_here", "_law_cupboard_here", "_law_most"] (defScope (topS 50)) := ⟨rfl, rfl, rfl, by decide +kernel, rfl, by decide +kernel, by decide +kernel⟩
theorem c39 : chkB { cx with N := ["_law_deck_here", "_law_cupboard_here", "_law_most", "_law_turn"] } (defScope (topS 50)) F39.body (defBody (topS 50)) = true := by kernel_rfl
theorem d39 (X : K.In h) (G : h.Ns mainGlobals mg) (c : He.SaysD fa fn K) : DefOk K mg cx TT 39 := by
  obtain ⟨fd, F⟩ := c.def_ 39 (d := ⟨("_law_script", none), "_law_script", "_law_script", defArgs (topS 50), defBody (topS 50), defScope (topS 50), [], []⟩) rfl
  exact ⟨_, fd, _, _, _, _, _, _, F39, F, s39, He.glo_ok X G (c.fact 39 (f := .glo "_law_script") rfl), F.bindsN (fun _ _ _ _ _ _ us hl => match us, hl with | [_, _, _], _ => rfl), rfl, rfl, rfl, rfl, c39⟩
theorem s40 : FnScope ["_law_top", "_law_below", "_law_one_here", "_law_other"] ["_law_top", "_law_below"] (defScope (topS 51)) := ⟨rfl, rfl, rfl, by decide +kernel, rfl, by decide +kernel, by decide +kernel⟩
theorem c40 : chkB { cx with N := ["_law_top", "_law_below", "_law_one_here", "_law_other"] } (defScope (topS 51)) F40.body (defBody (topS 51)) = true := by kernel_rfl
theorem d40 (X : K.In h) (G : h.Ns mainGlobals mg) (c : He.SaysD fa fn K) : DefOk K mg cx TT 40 := by
  obtain ⟨fd, F⟩ := c.def_ 40 (d := ⟨("_law_frac", none), "_law_frac", "_law_frac", defArgs (topS 51), defBody (topS 51), defScope (topS 51), [], []⟩) rfl
  exact ⟨_, fd, _, _, _, _, _, _, F40, F, s40, He.glo_ok X G (c.fact 40 (f := .glo "_law_frac") rfl), F.bindsN (fun _ _ _ _ _ _ us hl => match us, hl with | [_, _], _ => rfl), rfl, rfl, rfl, rfl, c40⟩
theorem s41 : FnScope ["_law_unit", "_law_spots", "_law_spot"] ["_law_unit", "_law_spots"] (defScope (topS 52)) := ⟨rfl, rfl, rfl, by decide +kernel, rfl, by decide +kernel, by decide +kernel⟩
theorem c41 : chkB { cx with N := ["_law_unit", "_law_spots", "_law_spot"] } (defScope (topS 52)) F41.body (defBody (topS 52)) = true := by kernel_rfl
theorem d41 (X : K.In h) (G : h.Ns mainGlobals mg) (c : He.SaysD fa fn K) : DefOk K mg cx TT 41 := by
  obtain ⟨fd, F⟩ := c.def_ 41 (d := ⟨("_law_told", none), "_law_told", "_law_told", defArgs (topS 52), defBody (topS 52), defScope (topS 52), [], []⟩) rfl
  exact ⟨_, fd, _, _, _, _, _, _, F41, F, s41, He.glo_ok X G (c.fact 41 (f := .glo "_law_told") rfl), F.bindsN (fun _ _ _ _ _ _ us hl => match us, hl with | [_, _], _ => rfl), rfl, rfl, rfl, rfl, c41⟩
theorem s42 : FnScope ["_law_cupboard_here", "_law_unit", "_law_spots", "_law_bad", "_law_one_here", "_law_other", "_law_most"] ["_law_cupboard_here", "_law_unit", "_law_spots"] (defScope (topS 53)) := ⟨rfl, rfl, rfl, by decide +kernel, rfl, by decide +kernel, by decide +kernel⟩
theorem c42 : chkB { cx with N := ["_law_cupboard_here", "_law_unit", "_law_spots", "_law_bad", "_law_one_here", "_law_other", "_law_most"] } (defScope (topS 53)) F42.body (defBody (topS 53)) = true := by kernel_rfl
theorem d42 (X : K.In h) (G : h.Ns mainGlobals mg) (c : He.SaysD fa fn K) : DefOk K mg cx TT 42 := by
  obtain ⟨fd, F⟩ := c.def_ 42 (d := ⟨("_law_keeps", none), "_law_keeps", "_law_keeps", defArgs (topS 53), defBody (topS 53), defScope (topS 53), [], []⟩) rfl
  exact ⟨_, fd, _, _, _, _, _, _, F42, F, s42, He.glo_ok X G (c.fact 42 (f := .glo "_law_keeps") rfl), F.bindsN (fun _ _ _ _ _ _ us hl => match us, hl with | [_, _, _], _ => rfl), rfl, rfl, rfl, rfl, c42⟩
theorem s43 : FnScope ["_law_cupboard_here", "_law_unit", "_law_rows", "_law_track", "_law_wide", "_law_more_rows", "_law_row", "_law_spot"] ["_law_cupboard_here", "_law_unit"] (defScope (topS 54)) := ⟨rfl, rfl, rfl, by decide +kernel, rfl, by decide +kernel, by decide +kernel⟩
theorem c43 : chkB { cx with N := ["_law_cupboard_here", "_law_unit", "_law_rows", "_law_track", "_law_wide", "_law_more_rows", "_law_row", "_law_spot"] } (defScope (topS 54)) F43.body (defBody (topS 54)) = true := by kernel_rfl
theorem d43 (X : K.In h) (G : h.Ns mainGlobals mg) (c : He.SaysD fa fn K) : DefOk K mg cx TT 43 := by
  obtain ⟨fd, F⟩ := c.def_ 43 (d := ⟨("_law_grid", none), "_law_grid", "_law_grid", defArgs (topS 54), defBody (topS 54), defScope (topS 54), [], []⟩) rfl
  exact ⟨_, fd, _, _, _, _, _, _, F43, F, s43, He.glo_ok X G (c.fact 43 (f := .glo "_law_grid") rfl), F.bindsN (fun _ _ _ _ _ _ us hl => match us, hl with | [_, _], _ => rfl), rfl, rfl, rfl, rfl, c43⟩
theorem s44 : FnScope ["_law_deck_here", "_law_cupboard_here", "_law_every", "_law_unit", "_law_some", "_law_k", "_law_first", "_law_second", "_law_parts", "_law_found", "_law_part", "_law_row"] ["_law_deck_here", "_law_cupboard_here"] (defScope (topS 55)) := ⟨rfl, rfl, rfl, by decide +kernel, rfl, by decide +kernel, by decide +kernel⟩
theorem c44 : chkB { cx with N := ["_law_deck_here", "_law_cupboard_here", "_law_every", "_law_unit", "_law_some", "_law_k", "_law_first", "_law_second", "_law_parts", "_law_found", "_law_part", "_law_row"] } (defScope (topS 55)) F44.body (defBody (topS 55)) = true := by kernel_rfl
theorem d44 (X : K.In h) (G : h.Ns mainGlobals mg) (c : He.SaysD fa fn K) : DefOk K mg cx TT 44 := by
  obtain ⟨fd, F⟩ := c.def_ 44 (d := ⟨("_law_start", none), "_law_start", "_law_start", defArgs (topS 55), defBody (topS 55), defScope (topS 55), [], []⟩) rfl
  exact ⟨_, fd, _, _, _, _, _, _, F44, F, s44, He.glo_ok X G (c.fact 44 (f := .glo "_law_start") rfl), F.bindsN (fun _ _ _ _ _ _ us hl => match us, hl with | [_, _], _ => rfl), rfl, rfl, rfl, rfl, c44⟩
theorem s46 : FnScope ["_law_one_here", "_law_other"] ["_law_one_here", "_law_other"] (defScope (topS 56)) := ⟨rfl, rfl, rfl, by decide +kernel, rfl, by decide +kernel, by decide +kernel⟩
theorem c46 : chkB { cx with N := ["_law_one_here", "_law_other"] } (defScope (topS 56)) F46.body (defBody (topS 56)) = true := by kernel_rfl
theorem d46 (X : K.In h) (G : h.Ns mainGlobals mg) (c : He.SaysD fa fn K) : DefOk K mg cx TT 46 := by
  obtain ⟨fd, F⟩ := c.def_ 45 (d := ⟨("_law_worth", none), "_law_worth", "_law_worth", defArgs (topS 56), defBody (topS 56), defScope (topS 56), [], []⟩) rfl
  exact ⟨_, fd, _, _, _, _, _, _, F46, F, s46, He.glo_ok X G (c.fact 45 (f := .glo "_law_worth") rfl), F.bindsN (fun _ _ _ _ _ _ us hl => match us, hl with | [_, _], _ => rfl), rfl, rfl, rfl, rfl, c46⟩
theorem s45 : FnScope ["_law_top", "_law_below", "_law_one_here", "_law_other"] ["_law_top", "_law_below"] (defScope (topS 57)) := ⟨rfl, rfl, rfl, by decide +kernel, rfl, by decide +kernel, by decide +kernel⟩
theorem c45 : chkB { cx with N := ["_law_top", "_law_below", "_law_one_here", "_law_other"] } (defScope (topS 57)) F45.body (defBody (topS 57)) = true := by kernel_rfl
theorem d45 (X : K.In h) (G : h.Ns mainGlobals mg) (c : He.SaysD fa fn K) : DefOk K mg cx TT 45 := by
  obtain ⟨fd, F⟩ := c.def_ 46 (d := ⟨("_law_frac_of", none), "_law_frac_of", "_law_frac_of", defArgs (topS 57), defBody (topS 57), defScope (topS 57), [], []⟩) rfl
  exact ⟨_, fd, _, _, _, _, _, _, F45, F, s45, He.glo_ok X G (c.fact 46 (f := .glo "_law_frac_of") rfl), F.bindsN (fun _ _ _ _ _ _ us hl => match us, hl with | [_, _], _ => rfl), rfl, rfl, rfl, rfl, c45⟩
theorem s47 : FnScope ["_law_one_here", "_law_other", "_law_gaps_so", "_law_mine", "_law_yours", "_law_best", "_law_top", "_law_below"] ["_law_one_here", "_law_other"] (defScope (topS 58)) := ⟨rfl, rfl, rfl, by decide +kernel, rfl, by decide +kernel, by decide +kernel⟩
theorem c47 : chkB { cx with N := ["_law_one_here", "_law_other", "_law_gaps_so", "_law_mine", "_law_yours", "_law_best", "_law_top", "_law_below"] } (defScope (topS 58)) F47.body (defBody (topS 58)) = true := by kernel_rfl
theorem d47 (X : K.In h) (G : h.Ns mainGlobals mg) (c : He.SaysD fa fn K) : DefOk K mg cx TT 47 := by
  obtain ⟨fd, F⟩ := c.def_ 47 (d := ⟨("_law_farthest", none), "_law_farthest", "_law_farthest", defArgs (topS 58), defBody (topS 58), defScope (topS 58), [], []⟩) rfl
  exact ⟨_, fd, _, _, _, _, _, _, F47, F, s47, He.glo_ok X G (c.fact 47 (f := .glo "_law_farthest") rfl), F.bindsN (fun _ _ _ _ _ _ us hl => match us, hl with | [_, _], _ => rfl), rfl, rfl, rfl, rfl, c47⟩
theorem s48 : FnScope ["_law_script_here", "_law_cell", "_law_deck_here", "_law_cupboard_here", "_law_turn", "_law_pushes_so", "_law_unit", "_law_first", "_law_part", "_law_second", "_law_one_here", "_law_spot", "_law_other", "_law_pair", "_law_row", "_law_here", "_law_small", "_law_place", "_law_there", "_law_places", "_law_before", "_law_later", "_law_gaps_so", "_law_mine", "_law_yours", "_law_gap"] ["_law_script_here"] (defScope (topS 59)) := ⟨rfl, rfl, rfl, by decide +kernel, rfl, by decide +kernel, by decide +kernel⟩
theorem c48 : chkB { cx with N := ["_law_script_here", "_law_cell", "_law_deck_here", "_law_cupboard_here", "_law_turn", "_law_pushes_so", "_law_unit", "_law_first", "_law_part", "_law_second", "_law_one_here", "_law_spot", "_law_other", "_law_pair", "_law_row", "_law_here", "_law_small", "_law_place", "_law_there", "_law_places", "_law_before", "_law_later", "_law_gaps_so", "_law_mine", "_law_yours", "_law_gap"] } (defScope (topS 59)) F48.body (defBody (topS 59)) = true := by kernel_rfl
theorem d48 (X : K.In h) (G : h.Ns mainGlobals mg) (c : He.SaysD fa fn K) : DefOk K mg cx TT 48 := by
  obtain ⟨fd, F⟩ := c.def_ 48 (d := ⟨("law", none), "law", "law", defArgs (topS 59), defBody (topS 59), defScope (topS 59), [], []⟩) rfl
  exact ⟨_, fd, _, _, _, _, _, _, F48, F, s48, He.glo_ok X G (c.fact 48 (f := .glo "law") rfl), F.bindsN (fun _ _ _ _ _ _ us hl => match us, hl with | [_], _ => rfl), rfl, rfl, rfl, rfl, c48⟩
theorem dall (X : K.In h) (G : h.Ns mainGlobals mg) (c : He.SaysD fa fn K) : ∀ f ∈ cx.fs, DefOk K mg cx TT f := by
  intro f hf
  have hf : f ∈ fs := hf
  simp only [fs, List.mem_cons, List.not_mem_nil, or_false] at hf
  rcases hf with rfl | rfl | rfl | rfl | rfl | rfl | rfl | rfl | rfl | rfl | rfl | rfl | rfl | rfl | rfl | rfl | rfl | rfl | rfl | rfl | rfl | rfl | rfl | rfl | rfl | rfl | rfl | rfl | rfl | rfl | rfl | rfl | rfl | rfl | rfl | rfl | rfl | rfl | rfl | rfl | rfl | rfl | rfl | rfl | rfl | rfl | rfl | rfl | rfl
  · exact d0 X G c
  · exact d1 X G c
  · exact d2 X G c
  · exact d3 X G c
  · exact d4 X G c
  · exact d6 X G c
  · exact d5 X G c
  · exact d7 X G c
  · exact d8 X G c
  · exact d9 X G c
  · exact d10 X G c
  · exact d11 X G c
  · exact d12 X G c
  · exact d13 X G c
  · exact d14 X G c
  · exact d15 X G c
  · exact d16 X G c
  · exact d17 X G c
  · exact d18 X G c
  · exact d19 X G c
  · exact d20 X G c
  · exact d21 X G c
  · exact d22 X G c
  · exact d23 X G c
  · exact d24 X G c
  · exact d25 X G c
  · exact d26 X G c
  · exact d27 X G c
  · exact d28 X G c
  · exact d29 X G c
  · exact d30 X G c
  · exact d31 X G c
  · exact d32 X G c
  · exact d33 X G c
  · exact d34 X G c
  · exact d35 X G c
  · exact d36 X G c
  · exact d37 X G c
  · exact d38 X G c
  · exact d39 X G c
  · exact d40 X G c
  · exact d41 X G c
  · exact d42 X G c
  · exact d43 X G c
  · exact d44 X G c
  · exact d46 X G c
  · exact d45 X G c
  · exact d47 X G c
  · exact d48 X G c
theorem ball (X : K.In h) (G : h.Ns mainGlobals mg) (c : He.SaysD fa fn K) : ∀ x ∈ bltNames, mg x = none := by
  intro x hx
  simp only [bltNames, List.mem_cons, List.not_mem_nil, or_false] at hx
  rcases hx with rfl | rfl | rfl | rfl | rfl | rfl | rfl | rfl | rfl | rfl | rfl | rfl | rfl | rfl | rfl | rfl | rfl | rfl
  · exact He.free_ok X G (c.fact 49 (f := .free "len") rfl)
  · exact He.free_ok X G (c.fact 50 (f := .free "tuple") rfl)
  · exact He.free_ok X G (c.fact 51 (f := .free "list") rfl)
  · exact He.free_ok X G (c.fact 52 (f := .free "all") rfl)
  · exact He.free_ok X G (c.fact 53 (f := .free "any") rfl)
  · exact He.free_ok X G (c.fact 54 (f := .free "max") rfl)
  · exact He.free_ok X G (c.fact 55 (f := .free "min") rfl)
  · exact He.free_ok X G (c.fact 56 (f := .free "sum") rfl)
  · exact He.free_ok X G (c.fact 57 (f := .free "abs") rfl)
  · exact He.free_ok X G (c.fact 58 (f := .free "int") rfl)
  · exact He.free_ok X G (c.fact 59 (f := .free "str") rfl)
  · exact He.free_ok X G (c.fact 60 (f := .free "isinstance") rfl)
  · exact He.free_ok X G (c.fact 61 (f := .free "range") rfl)
  · exact He.free_ok X G (c.fact 62 (f := .free "zip") rfl)
  · exact He.free_ok X G (c.fact 63 (f := .free "bool") rfl)
  · exact He.free_ok X G (c.fact 64 (f := .free "set") rfl)
  · exact He.free_ok X G (c.fact 65 (f := .free "sorted") rfl)
  · exact He.free_ok X G (c.fact 66 (f := .free "enumerate") rfl)
theorem xall (X : K.In h) (G : h.Ns mainGlobals mg) (c : He.SaysD fa fn K) : ∀ p ∈ cx.xs, ExOk K mg (cf K) p := by
  intro p hp
  have hp : p ∈ xs := hp
  simp only [xs, List.mem_cons, List.not_mem_nil, or_false] at hp
  rcases hp with rfl | rfl | rfl
  · exact ex_ok X G (c.fact 67 (f := .exc "InvalidCupboard") rfl) (c.fact 70 (f := .glo "InvalidCupboard") rfl) rfl
  · exact ex_ok X G (c.fact 68 (f := .exc "InvalidPlaces") rfl) (c.fact 71 (f := .glo "InvalidPlaces") rfl) rfl
  · exact ex_ok X G (c.fact 69 (f := .exc "InvalidScript") rfl) (c.fact 72 (f := .glo "InvalidScript") rfl) rfl
theorem hlaw {w : World} (hp : ∀ ns : List Int, ns.length ≤ 63 → ∃ s', callN TT 1000000000000000000000000000000 40 48 [.lst (ns.map .int)] [] = .ok (.bl true) s') {fa : Addr} (X : K.In h) (G : h.Ns mainGlobals mg) (hfa : mg ("law" : PySem.Str) = some (.ref fa)) (c : He.SaysD HD.fa fn K) (cg : gsB gs K = true) :
    ∃ (fd : FuncData) (sp : Sp), (∀ (s : Shared) (u : Value), BindsTo s fd ⟨[u], []⟩ [("_law_script_here", u)]) ∧ (∀ (H : Hp) (a : Addr) (ns : List Int), ns.length ≤ 63 → Only H → SqL K H a (ns.map V.int) → sp [.ref a] H (fun v _ => v = .bl true) fun _ _ _ => False) ∧
      ∀ base : Heap, K.In base → base.Ns mainGlobals mg → FnOk (PySem.Challenge.rw_doorslide_k03_whole_scripts_that_keep_or).prog w K mg base (L2.CX (PySem.Challenge.rw_doorslide_k03_whole_scripts_that_keep_or).prog w) 40 fa fd ["_law_script_here"] sp := by
  obtain ⟨fd, F⟩ := c.def_ 48 (d := ⟨("law", none), "law", "law", defArgs (topS 59), defBody (topS 59), defScope (topS 59), [], []⟩) rfl
  have e := hfa.symm.trans (He.glo_ok X G (c.fact 48 (f := .glo "law") rfl))
  cases e
  have b := FunD.bindsA (ps := ["_law_script_here"]) F fun _ _ _ _ _ _ us hl => match us, hl with | [_], _ => rfl
  refine ⟨fd, spD (cf K) 1 (callN TT 1000000000000000000000000000000 40 48), fun s v => b s [v] rfl, fun H a ns hl _ hS => law_sp (C := cf K) rfl (by decide) hp H a ns hl hS, fun base _ _ => ?_⟩
  have all := fns_ok (P := (PySem.Challenge.rw_doorslide_k03_whole_scripts_that_keep_or).prog) (w := w) (K := K) (mg := mg) (base := base) (C := cf K) (c := cx) (T := TT) (W := 1000000000000000000000000000000) rfl (dall X G c) (ball X G c) (gs_ok (C := cf K) rfl X G cg) (xall X G c) 39
  exact fn_step (C := cf K) (c := cx) (T := TT) (f := 48) rfl (ball X G c) (gs_ok (C := cf K) rfl X G cg) (xall X G c) all F s48 rfl rfl rfl rfl c48
end
end HD
end
section
set_option Elab.async false
set_option linter.all false
set_option maxRecDepth 100000
set_option maxHeartbeats 0
open PySem PySem.W PySem.Calls PyProof.Rows
theorem HD.holds (hp : ∀ ns : List Int, ns.length ≤ 63 → ∃ s', Mi.callN Mi.TT 1000000000000000000000000000000 40 48 [.lst (ns.map .int)] [] = .ok (.bl true) s') : PySem.Challenge.rw_doorslide_k03_whole_scripts_that_keep_or.Holds := by
  w_on; o_law
  refine HandSHeadRun.head_any (r := OpenLaw.row PySem.Challenge.rw_doorslide_k03_whole_scripts_that_keep_or) (q := view (OpenLaw.row PySem.Challenge.rw_doorslide_k03_whole_scripts_that_keep_or).prog [59]) (H := HD.hk) (ob := HD.ob) (M := 6000) (loose := HD.loose) (d := HandSHeadRun.topDef (OpenLaw.row PySem.Challenge.rw_doorslide_k03_whole_scripts_that_keep_or).prog 59) (kwd := []) HD.ob_eq
    (by kernel_rfl) (fun s => by kernel_rfl) HD.run (by kernel_rfl) (by kernel_rfl) (by kernel_rfl) (by rfl) (by first | assumption | decide +kernel) (by decide +kernel) ⟨rfl, rfl, rfl, rfl, rfl, by decide +kernel⟩ ?hw ?hc
  case hw => w_witness2
  case hc =>
    refine Mi.walk_ofW (l := PySem.Challenge.rw_doorslide_k03_whole_scripts_that_keep_or) (n := 63) (k := 40) (x := "_law_script_here") rfl (by decide) (by kernel_rfl) ⟨rfl, by decide, by decide⟩ ?F
    intro w mg fa h Y G hmg0
    obtain ⟨K, KX, c, cg⟩ := Y
    have hmg : mg ("law" : PySem.Str) = some (.ref fa) := by
      have e : (HandSHeadRun.topDef (OpenLaw.row PySem.Challenge.rw_doorslide_k03_whole_scripts_that_keep_or).prog 59).name = ("law" : PySem.Str) := by kernel_rfl
      rw [← e]
      exact hmg0
    obtain ⟨fd, sp, h1, h2, h3⟩ := HD.hlaw (w := w) hp KX G hmg c cg
    exact ⟨K, fd, sp, KX, h1, h2, h3⟩
end
theorem PySem.Challenge.cw_doorslide_k03_whole_scripts_that_keep_or_holds : PySem.Challenge.rw_doorslide_k03_whole_scripts_that_keep_or.Holds :=
  HD.holds Mi.law_ok
