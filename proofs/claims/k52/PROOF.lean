import PyProof.Rows.All
import Wide.All
import OpenK.AllK
import Wide.FinOn
import HandS.HeadHook4
import HandS.ForMost
import HandS.ForExc
import HandS.TupAny
import HandS.TupMul
import HandS.Style
import HandS.IsInst
import HandS.Conv
import HandS.Zip
import HandS.Lambda
import KE.DataEq
import HandS.SetFor
import HandS.ExcCtx
import HandS.CallSlots
import PyProof.Draws
import PyProof.EnumMake
import HandS.HotCalls
import PyProof.ZipIter
import HandS.ExcIs
import HandS.Strs
import HandS.StrSplit
import HandS.Words
import HandS.WordsExc
import HandS.Defaults
import HandS.EndTab
import KE.KStateDown
import HandS.Head0
import HandS.Head1
import HandS.Head2
import PySem.Challenge.RW_nearanswer_k52_whole_cells_let_go_and_ri
set_option Elab.async false
section
/-! Nv0: plain data, the small language, its evaluator. Core Lean alone. -/
namespace Nv

/-- plain data: lst is a list that nobody changes, frz the script, ref a list that is changed -/
inductive D where
  | non
  | bl (b : Bool)
  | int (i : Int)
  | str (s : List Nat)
  | tup (xs : List D)
  | lst (xs : List D)
  | frz (xs : List D)
  | ref (n : Nat)
  deriving Inhabited

/-- the lists that are changed -/
abbrev Sto := List (List D)

/-- an error: its class, what it tells -/
structure Xc where
  cls : Nat
  fld : Option D

inductive R (α : Type) where
  | ok (a : α) (S : Sto)
  | ex (x : Xc) (S : Sto)
  | no

@[inline] def R.bind {α β : Type} (r : R α) (f : α → Sto → R β) : R β :=
  match r with
  | .ok a S => f a S
  | .ex x S => .ex x S
  | .no => .no

def nox {α : Type} (r : R α) : R α :=
  match r with
  | .ok a S => .ok a S
  | _ => .no

inductive Bop where
  | add | sub | mul | mod | fdiv | pow
  deriving DecidableEq
inductive Cop where
  | eq | ne | lt | le | gt | ge | isN | isntN | isB | isntB | isin | notin
  deriving DecidableEq
inductive Ty where
  | int | bool | str | tuple | list
  deriving DecidableEq
/-- built-ins by name -/
inductive Bf where
  | len | abs | int | tuple | list | sorted | all | any | max2 | min2 | maxL | minL | sum
  deriving DecidableEq
/-- methods -/
inductive Mf where
  | append | pop | count
  deriving DecidableEq

mutual
inductive E where
  | c (d : D)
  | v (i : Nat)
  | g (i : Nat)
  | bin (op : Bop) (m : Bool) (a b : E)
  | neg (a : E)
  | nt (a : E)
  | an (a b : E)
  | or (a b : E)
  | cmp (op : Cop) (a b : E)
  | ch (op op' : Cop) (a b d : E)
  | ite (a b d : E)
  | tup (es : List E)
  | lst (m : Bool) (es : List E)
  | ix (a b : E)
  | sl (m : Bool) (a : E) (lo hi : Option E)
  | rv (m : Bool) (a : E)
  | isi (a : E) (t : Ty)
  | call (f : Nat) (es : List E)
  | bf (f : Bf) (m : Bool) (es : List E)
  | mt (f : Mf) (a : E) (es : List E)
  | lc (m : Bool) (e : E) (t : T) (own : List Nat) (i : I) (ifs : Option E)
  | lam (k : Nat) (e : E)
  | nev
inductive T where
  | nm (i : Nat)
  | tp (ts : List T)
  | ix (a b : E)
inductive I where
  | seq (a : E)
  | rng1 (a : E)
  | rng2 (a b : E)
  | enum (a : E)
  | zip (a b : E)
end

inductive S where
  | asg (t : T) (e : E)
  | par (is : List Nat) (es : List E)
  | lcs (i : Nat) (e : E)
  | ret (e : E)
  | retN
  | ex (e : E)
  | iff (c : E) (a b : List S)
  | for_ (t : T) (i : I) (b : List S)
  | whl (c : E) (b : List S)
  | pass
  | brk
  | rai (k : Nat)
  | nev

structure Fn where
  par : Nat
  n : Nat
  body : List S

/-- a def that calls a lambda: what it answers behind a value (none: the value), behind an error -/
structure Lm where
  okv : Option D
  exv : Nat → Option D → Option D

structure Pg where
  fns : List Fn
  glb : List D
  lms : List Lm

abbrev Sl := List (Option D)
inductive Fl where
  | nx (sl : Sl)
  | rt (d : D)
  | bk (sl : Sl)

/-! ### values -/
def sizeMax : Nat := 16777216

/-- the items of a list, of whatever kind -/
def seqL (S : Sto) : D → Option (List D)
  | .lst xs => some xs
  | .ref n => S[n]?
  | _ => none
/-- the items of a list or a tuple -/
def seqOf (S : Sto) : D → Option (List D)
  | .lst xs => some xs
  | .tup xs => some xs
  | .ref n => S[n]?
  | _ => none

def newL (m : Bool) (xs : List D) (S : Sto) : R D :=
  match m with
  | true => .ok (.ref S.length) (S ++ [xs])
  | false => .ok (.lst xs) S

mutual
/-- data without lists that are changed -/
def pureD : D → Bool
  | .ref _ => false
  | .frz _ => false
  | .tup xs => pureDs xs
  | .lst xs => pureDs xs
  | .non => true
  | .bl _ => true
  | .int _ => true
  | .str _ => true
def pureDs : List D → Bool
  | [] => true
  | x :: r => pureD x && pureDs r
end

mutual
/-- == of such data -/
def deq : D → D → Bool
  | .non, .non => true
  | .bl a, .bl b => a == b
  | .bl a, .int j => (if a then 1 else 0) == j
  | .int i, .bl b => i == (if b then 1 else 0)
  | .int i, .int j => i == j
  | .str a, .str b => a == b
  | .tup xs, .tup ys => deqs xs ys
  | .lst xs, .lst ys => deqs xs ys
  | _, _ => false
def deqs : List D → List D → Bool
  | [], [] => true
  | x :: r, y :: t => deq x y && deqs r t
  | _, _ => false
end

mutual
/-- at most so deep -/
def dle : Nat → D → Bool
  | n, .tup xs => match n with
    | 0 => false
    | k + 1 => dles k xs
  | n, .lst xs => match n with
    | 0 => false
    | k + 1 => dles k xs
  | _, .non => true
  | _, .bl _ => true
  | _, .int _ => true
  | _, .str _ => true
  | _, .frz _ => false
  | _, .ref _ => false
def dles : Nat → List D → Bool
  | _, [] => true
  | n, x :: r => dle n x && dles n r
end
/-- a changed list as it stands -/
def now (S : Sto) : D → Option D
  | .ref n => match S[n]? with
    | some xs => if pureDs xs then some (.lst xs) else none
    | none => none
  | d => if pureD d then some d else none

def ixN (n : Nat) (i : Int) : Option Nat := if 0 ≤ i then (if i < n then some i.toNat else none) else if -(n : Int) ≤ i then some (i + n).toNat else none
def atI {α : Type} (xs : List α) (i : Int) : Option α := (ixN xs.length i).bind fun j => xs[j]?
def sIx (n d : Nat) : Option Int → Nat
  | none => d
  | some v => if v < 0 then (v + (n : Int)).toNat else min v.toNat n
def cutD {α : Type} (xs : List α) (lo hi : Option Int) : List α := (xs.drop (sIx xs.length 0 lo)).take (sIx xs.length xs.length hi - sIx xs.length 0 lo)

def lim64 (i : Int) : Bool := decide (-(2 ^ 64) < i) && decide (i < 2 ^ 64)
def repL {α : Type} (xs : List α) : Nat → List α
  | 0 => []
  | n + 1 => xs ++ repL xs n

def addD (m : Bool) (a b : D) (S : Sto) : R D :=
  match a, b with
  | .int i, .int j => .ok (.int (i + j)) S
  | .str x, .str y => if x.length + y.length ≤ sizeMax then .ok (.str (x ++ y)) S else .no
  | .tup xs, .tup ys => if xs.length + ys.length ≤ sizeMax then .ok (.tup (xs ++ ys)) S else .no
  | a, b => match seqL S a, seqL S b with
    | some xs, some ys => if xs.length + ys.length ≤ sizeMax then newL m (xs ++ ys) S else .no
    | _, _ => .no
def mulD (m : Bool) (a b : D) (S : Sto) : R D :=
  match a, b with
  | .int i, .int j => if lim64 i || lim64 j then .ok (.int (i * j)) S else .no
  | .tup xs, .int k => if !xs.isEmpty && decide (xs.length ≤ 1000) && decide (1 ≤ k) && decide (k ≤ 1000) then .ok (.tup (repL xs k.toNat)) S else .no
  | a, .int k => match seqL S a with
    | some xs => if decide (xs.length * k.toNat ≤ sizeMax) && decide (-(2 ^ 63) ≤ k) && decide (k < 2 ^ 63) then newL m (repL xs k.toNat) S else .no
    | none => .no
  | _, _ => .no
def binD (op : Bop) (m : Bool) (a b : D) (S : Sto) : R D :=
  match op with
  | .add => addD m a b S
  | .mul => mulD m a b S
  | .sub => match a, b with
    | .int i, .int j => .ok (.int (i - j)) S
    | _, _ => .no
  | .mod => match a, b with
    | .int i, .int j => if 0 < j then .ok (.int (i % j)) S else .no
    | _, _ => .no
  | .fdiv => match a, b with
    | .int i, .int j => if 0 < j ∧ j < 1073741824 then .ok (.int (i / j)) S else .no
    | _, _ => .no
  | .pow => match a, b with
    | .int i, .int j => if 0 ≤ j ∧ j ≤ 1000 ∧ i.natAbs < 2 ^ 64 then .ok (.int (i ^ j.toNat)) S else .no
    | _, _ => .no

def memD (x : D) : List D → Bool
  | [] => false
  | y :: r => deq y x || memD x r
/-- min of the depths at most 100 -/
def near (a b : D) : Bool := dle 100 a || dle 100 b
def inD (a b : D) (S : Sto) : Option Bool :=
  match a, b with
  | .str [q], .str y => some (decide (q ∈ y))
  | a, b => if dle 100 a && pureD a then match seqOf S b with
    | some ys => if pureDs ys then some (memD a ys) else none
    | none => none else none
def isNon : D → Bool
  | .non => true
  | _ => false
def isBl (k : Bool) : D → Bool
  | .bl q => q == k
  | _ => false
def cmpB (op : Cop) (a b : D) (S : Sto) : Option Bool :=
  match op with
  | .eq => match now S a, now S b with
    | some x, some y => if near x y then some (deq x y) else none
    | _, _ => none
  | .ne => match now S a, now S b with
    | some x, some y => if near x y then some (!deq x y) else none
    | _, _ => none
  | .lt => match a, b with
    | .int i, .int j => some (decide (i < j))
    | _, _ => none
  | .le => match a, b with
    | .int i, .int j => some (decide (i ≤ j))
    | _, _ => none
  | .gt => match a, b with
    | .int i, .int j => some (decide (j < i))
    | _, _ => none
  | .ge => match a, b with
    | .int i, .int j => some (decide (j ≤ i))
    | _, _ => none
  | .isN => match b with
    | .non => some (isNon a)
    | _ => none
  | .isntN => match b with
    | .non => some (!isNon a)
    | _ => none
  | .isB => match b with
    | .bl k => some (isBl k a)
    | _ => none
  | .isntB => match b with
    | .bl k => some (!isBl k a)
    | _ => none
  | .isin => inD a b S
  | .notin => (inD a b S).map (!·)
def cmpD (op : Cop) (a b : D) (S : Sto) : R D :=
  match cmpB op a b S with
  | some k => .ok (.bl k) S
  | none => .no

def truD (S : Sto) : D → Option Bool
  | .non => some false
  | .bl b => some b
  | .int i => some (i != 0)
  | .str s => some (!s.isEmpty)
  | .tup xs => some (!xs.isEmpty)
  | .lst xs => some (!xs.isEmpty)
  | .frz xs => some (!xs.isEmpty)
  | .ref n => (S[n]?).map (!·.isEmpty)

def ixD (a b : D) (S : Sto) : R D :=
  match b with
  | .int i => match a with
    | .str s => match atI s i with
      | some q => .ok (.str [q]) S
      | none => .no
    | a => match seqOf S a with
      | some xs => match atI xs i with
        | some d => .ok d S
        | none => .no
      | none => .no
  | _ => .no
def slD (m : Bool) (a : D) (l h : Option Int) (S : Sto) : R D :=
  match a with
  | .str s => .ok (.str (cutD s l h)) S
  | .tup xs => .ok (.tup (cutD xs l h)) S
  | a => match seqL S a with
    | some xs => newL m (cutD xs l h) S
    | none => .no
def rvD (m : Bool) (a : D) (S : Sto) : R D :=
  match seqL S a with
  | some xs => newL m xs.reverse S
  | none => .no

def isiD (a : D) (t : Ty) : Bool :=
  match t, a with
  | .int, .int _ => true
  | .int, .bl _ => true
  | .bool, .bl _ => true
  | .str, .str _ => true
  | .tuple, .tup _ => true
  | .list, .lst _ => true
  | .list, .ref _ => true
  | .list, .frz _ => true
  | _, _ => false

def intsD : List D → Option (List Int)
  | [] => some []
  | .int i :: r => (intsD r).map (i :: ·)
  | _ => none
def blsD : List D → Option (List Bool)
  | [] => some []
  | .bl i :: r => (blsD r).map (i :: ·)
  | _ => none
def insI (x : Int) : List Int → List Int
  | [] => [x]
  | y :: r => if x ≤ y then x :: y :: r else y :: insI x r
def sortI : List Int → List Int
  | [] => []
  | x :: r => insI x (sortI r)
def maxI (x : Int) : List Int → Int
  | [] => x
  | y :: r => maxI (if y > x then y else x) r
def minI (x : Int) : List Int → Int
  | [] => x
  | y :: r => minI (if y < x then y else x) r
def sumI : List Int → Int
  | [] => 0
  | x :: r => x + sumI r

def lenD (ds : List D) (S : Sto) : R D :=
  match ds with
  | [.str s] => .ok (.int s.length) S
  | [a] => match seqOf S a with
    | some xs => .ok (.int xs.length) S
    | none => .no
  | _ => .no
def absD (ds : List D) (S : Sto) : R D :=
  match ds with
  | [.int i] => .ok (.int (if i < 0 then -i else i)) S
  | _ => .no
def intD (ds : List D) (S : Sto) : R D :=
  match ds with
  | [.int i] => .ok (.int i) S
  | [.bl b] => .ok (.int (if b then 1 else 0)) S
  | _ => .no
def tupleD (ds : List D) (S : Sto) : R D :=
  match ds with
  | [a] => match seqOf S a with
    | some xs => .ok (.tup xs) S
    | none => .no
  | _ => .no
def seqF (S : Sto) : D → Option (List D)
  | .frz xs => some xs
  | d => seqOf S d
def listD (m : Bool) (ds : List D) (S : Sto) : R D :=
  match ds with
  | [a] => match seqF S a with
    | some xs => newL m xs S
    | none => .no
  | _ => .no
def intsOf (S : Sto) (ds : List D) : Option (List Int) :=
  match ds with
  | [a] => match seqL S a with
    | some xs => intsD xs
    | none => none
  | _ => none
def blsOf (S : Sto) (ds : List D) : Option (List Bool) :=
  match ds with
  | [a] => match seqL S a with
    | some xs => blsD xs
    | none => none
  | _ => none
def sortedD (m : Bool) (ds : List D) (S : Sto) : R D :=
  match intsOf S ds with
  | some ns => if ns.length < 64 then newL m ((sortI ns).map .int) S else .no
  | none => .no
def allD (ds : List D) (S : Sto) : R D :=
  match blsOf S ds with
  | some bs => .ok (.bl (bs.all id)) S
  | none => .no
def anyD (ds : List D) (S : Sto) : R D :=
  match blsOf S ds with
  | some bs => .ok (.bl (bs.any id)) S
  | none => .no
def maxLD (ds : List D) (S : Sto) : R D :=
  match intsOf S ds with
  | some (x :: r) => .ok (.int (maxI x r)) S
  | _ => .no
def minLD (ds : List D) (S : Sto) : R D :=
  match intsOf S ds with
  | some (x :: r) => .ok (.int (minI x r)) S
  | _ => .no
def max2D (ds : List D) (S : Sto) : R D :=
  match ds with
  | [.int i, .int j] => .ok (.int (if j > i then j else i)) S
  | _ => .no
def min2D (ds : List D) (S : Sto) : R D :=
  match ds with
  | [.int i, .int j] => .ok (.int (if j < i then j else i)) S
  | _ => .no
def sumD (ds : List D) (S : Sto) : R D :=
  match intsOf S ds with
  | some ns => .ok (.int (sumI ns)) S
  | none => .no
def bfD (f : Bf) (m : Bool) (ds : List D) (S : Sto) : R D :=
  match f with
  | .len => lenD ds S
  | .abs => absD ds S
  | .int => intD ds S
  | .tuple => tupleD ds S
  | .list => listD m ds S
  | .sorted => sortedD m ds S
  | .all => allD ds S
  | .any => anyD ds S
  | .max2 => max2D ds S
  | .min2 => min2D ds S
  | .maxL => maxLD ds S
  | .minL => minLD ds S
  | .sum => sumD ds S

def appendD (a : D) (ds : List D) (S : Sto) : R D :=
  match a, ds with
  | .ref n, [d] => match S[n]? with
    | some xs => if xs.length < sizeMax then .ok .non (S.set n (xs ++ [d])) else .no
    | none => .no
  | _, _ => .no
def popD (a : D) (ds : List D) (S : Sto) : R D :=
  match a, ds with
  | .ref n, [] => match S[n]? with
    | some xs => match xs[xs.length - 1]? with
      | some y => .ok y (S.set n xs.dropLast)
      | none => .no
    | none => .no
  | _, _ => .no
def countD (a : D) (ds : List D) (S : Sto) : R D :=
  match ds with
  | [.int k] => match intsOf S [a] with
    | some ns => .ok (.int (ns.count k : Nat)) S
    | none => .no
  | _ => .no
def isLst : D → Bool
  | .lst _ => true
  | .ref _ => true
  | _ => false
def mtD (f : Mf) (a : D) (ds : List D) (S : Sto) : R D :=
  match f with
  | .append => appendD a ds S
  | .pop => popD a ds S
  | .count => countD a ds S

/-! ### stores -/
def setIx (a b d : D) (S : Sto) : R Unit :=
  match a, b with
  | .ref n, .int i => match S[n]? with
    | some xs => match ixN xs.length i with
      | some j => .ok () (S.set n (xs.set j d))
      | none => .no
    | none => .no
  | _, _ => .no

def evEs (ev : E → Sto → R D) : List E → Sto → R (List D)
  | [], S => .ok [] S
  | e :: r, S => (ev e S).bind fun d S1 => (evEs ev r S1).bind fun ds S2 => .ok (d :: ds) S2
def evO (ev : E → Sto → R D) : Option E → Sto → R (Option Int)
  | none, S => .ok none S
  | some e, S => (ev e S).bind fun d S1 => match d with
    | .int i => .ok (some i) S1
    | _ => .no

def setTs (st : T → D → Sl → Sto → R Sl) : List T → List D → Sl → Sto → R Sl
  | [], [], sl, S => .ok sl S
  | t :: ts, d :: ds, sl, S => (st t d sl S).bind fun sl1 S1 => setTs st ts ds sl1 S1
  | _, _, _, _ => .no
def setT (ev : E → Sl → Sto → R D) : Nat → T → D → Sl → Sto → R Sl
  | 0, _, _, _, _ => .no
  | _ + 1, .nm i, d, sl, S => .ok (sl.set i (some d)) S
  | n + 1, .tp ts, d, sl, S => match d with
    | .tup xs => if xs.length = ts.length then setTs (setT ev n) ts xs sl S else .no
    | _ => .no
  | _ + 1, .ix a b, d, sl, S => (ev a sl S).bind fun o S1 => (ev b sl S1).bind fun i S2 => (nox (setIx o i d S2)).bind fun _ S3 => .ok sl S3

mutual
/-- the same data, to the letter -/
def sameD : D → D → Bool
  | .non, .non => true
  | .bl a, .bl b => a == b
  | .int i, .int j => i == j
  | .str a, .str b => a == b
  | .tup xs, .tup ys => sameDs xs ys
  | .lst xs, .lst ys => sameDs xs ys
  | .frz xs, .frz ys => sameDs xs ys
  | .ref m, .ref n => m == n
  | _, _ => false
def sameDs : List D → List D → Bool
  | [], [] => true
  | x :: r, y :: t => sameD x y && sameDs r t
  | _, _ => false
end
/-- what a loop walks: the items; the changed list that must stay as it is meanwhile -/
structure Wk where
  ds : List D
  gd : Option (Nat × List D)
def gdOk (S : Sto) : Option (Nat × List D) → Bool
  | none => true
  | some (n, xs) => match S[n]? with
    | some ys => sameDs ys xs
    | none => false
def rngI : Int → Nat → List D
  | _, 0 => []
  | i, n + 1 => .int i :: rngI (i + 1) n
def enumD : Int → List D → List D
  | _, [] => []
  | i, x :: r => .tup [.int i, x] :: enumD (i + 1) r
def zipD : List D → List D → List D
  | x :: r, y :: t => .tup [x, y] :: zipD r t
  | _, _ => []
def lim62 (i : Int) : Bool := decide (-(2 ^ 62) ≤ i) && decide (i < 2 ^ 62)
/-- a list or a tuple that is walked -/
def walkD (S : Sto) : D → Option Wk
  | .tup xs => some ⟨xs, none⟩
  | .lst xs => some ⟨xs, none⟩
  | .ref n => match S[n]? with
    | some xs => some ⟨xs, some (n, xs)⟩
    | none => none
  | _ => none
/-- the items that a loop walks -/
def itD (ev : E → Sto → R D) (i : I) (S : Sto) : R Wk :=
  match i with
  | .seq a => (ev a S).bind fun d S1 => match d with
    | .str s => .ok ⟨s.map fun q => .str [q], none⟩ S1
    | d => match walkD S1 d with
      | some w => .ok w S1
      | none => .no
  | .rng1 a => (ev a S).bind fun d S1 => match d with
    | .int n => if lim62 n then .ok ⟨rngI 0 n.toNat, none⟩ S1 else .no
    | _ => .no
  | .rng2 a b => (ev a S).bind fun d S1 => (ev b S1).bind fun e S2 => match d, e with
    | .int i, .int j => if lim62 i && lim62 j then .ok ⟨rngI i (j - i).toNat, none⟩ S2 else .no
    | _, _ => .no
  | .enum a => (ev a S).bind fun d S1 => match d with
    | .tup xs => .ok ⟨enumD 0 xs, none⟩ S1
    | d => match walkD S1 d with
      | some w => .ok ⟨enumD 0 w.ds, w.gd⟩ S1
      | none => .no
  | .zip a b => (ev a S).bind fun d S1 => (ev b S1).bind fun e S2 => match d, e with
    | .lst xs, .lst ys => .ok ⟨zipD xs ys, none⟩ S2
    | .tup xs, .tup ys => .ok ⟨zipD xs ys, none⟩ S2
    | _, _ => .no

def forL (g : Option (Nat × List D)) (st : D → Sl → Sto → R Sl) (bd : Sl → Sto → R Fl) : List D → Sl → Sto → R Fl
  | [], sl, S => if gdOk S g then .ok (.nx sl) S else .no
  | d :: r, sl, S => if gdOk S g then (st d sl S).bind fun sl1 S1 => (bd sl1 S1).bind fun f S2 => match f with
    | .nx sl2 => forL g st bd r sl2 S2
    | .bk sl2 => .ok (.nx sl2) S2
    | .rt x => .ok (.rt x) S2 else .no
/-- the items of a list display -/
def lcL (g : Option (Nat × List D)) (st : D → Sto → R Sl) (tt : Sl → Sto → R Bool) (el : Sl → Sto → R D) : List D → List D → Sto → R (List D)
  | [], acc, S => if gdOk S g then .ok acc S else .no
  | d :: r, acc, S => if gdOk S g then (st d S).bind fun sl S1 => (tt sl S1).bind fun k S2 =>
    if k then (el sl S2).bind fun y S3 => if acc.length < sizeMax then lcL g st tt el r (acc ++ [y]) S3 else .no else lcL g st tt el r acc S2 else .no
def wipeD (sl : Sl) : List Nat → Sl
  | [] => sl
  | i :: r => wipeD (sl.set i none) r

def evSs (ev : S → Sl → Sto → R Fl) : List S → Sl → Sto → R Fl
  | [], sl, S => .ok (.nx sl) S
  | s :: r, sl, S => (ev s sl S).bind fun f S1 => match f with
    | .nx sl1 => evSs ev r sl1 S1
    | f => .ok f S1

/-- what is known of the evaluator one turn deeper -/
structure Ev where
  e : Nat → E → Sl → Sto → R D
  t : Nat → E → Sl → Sto → R Bool
  s : Nat → S → Sl → Sto → R Fl

def fnD (ev : Ev) (b : Nat) (f : Fn) (ds : List D) (S : Sto) : R D :=
  if ds.length = f.par then
    match evSs (ev.s b) f.body (ds.map some ++ List.replicate (f.n - f.par) none) S with
    | .ok (.rt d) S1 => .ok d S1
    | .ok (.nx _) S1 => .ok .non S1
    | .ok (.bk _) _ => .no
    | .ex x S1 => .ex x S1
    | .no => .no
  else .no

def blD (r : R D) : R Bool := r.bind fun d S => match d with
  | .bl k => .ok k S
  | _ => .no

/-- a written answer -/
def conD : D → Bool
  | .non => true
  | .bl _ => true
  | .int _ => true
  | .str s => decide (s.length ≤ sizeMax)
  | _ => false
def lmR (L : Lm) (r : R D) : R D :=
  match r with
  | .ok d S => match L.okv with
    | some c => if conD c then .ok c S else .no
    | none => .ok d S
  | .ex x S => match L.exv x.cls x.fld with
    | some c => if conD c then .ok c S else .no
    | none => .no
  | .no => .no
def ifsD (t : E → Sl → Sto → R Bool) : Option E → Sl → Sto → R Bool
  | some c, sl, S => t c sl S
  | none, _, S => .ok true S
section
variable (P : Pg) (ev : Ev) (b : Nat)
def stE (e : E) (sl : Sl) (S : Sto) : R D :=
  match e with
  | .c d => .ok d S
  | .v i => match sl[i]? with
    | some (some d) => .ok d S
    | _ => .no
  | .g i => match P.glb[i]? with
    | some d => .ok d S
    | none => .no
  | .bin op m x y => (ev.e b x sl S).bind fun p S1 => (ev.e b y sl S1).bind fun q S2 => nox (binD op m p q S2)
  | .neg x => (ev.e b x sl S).bind fun p S1 => match p with
    | .int i => .ok (.int (-i)) S1
    | _ => .no
  | .nt x => (blD (ev.e b x sl S)).bind fun k S1 => .ok (.bl (!k)) S1
  | .an x y => (blD (ev.e b x sl S)).bind fun k S1 => match k with
    | true => ev.e b y sl S1
    | false => .ok (.bl false) S1
  | .or x y => (blD (ev.e b x sl S)).bind fun k S1 => match k with
    | false => ev.e b y sl S1
    | true => .ok (.bl true) S1
  | .cmp op x y => (ev.e b x sl S).bind fun p S1 => (ev.e b y sl S1).bind fun q S2 => nox (cmpD op p q S2)
  | .ch op op' x y z => (ev.e b x sl S).bind fun p S1 => (ev.e b y sl S1).bind fun q S2 => (blD (nox (cmpD op p q S2))).bind fun k S3 => match k with
    | true => (ev.e b z sl S3).bind fun r S4 => nox (cmpD op' q r S4)
    | false => .ok (.bl false) S3
  | .ite x y z => (ev.t b x sl S).bind fun k S1 => match k with
    | true => ev.e b y sl S1
    | false => ev.e b z sl S1
  | .tup es => (evEs (fun e S => ev.e b e sl S) es S).bind fun ds S1 => if ds.length ≤ sizeMax then .ok (.tup ds) S1 else .no
  | .lst m es => (evEs (fun e S => ev.e b e sl S) es S).bind fun ds S1 => if ds.length ≤ sizeMax then newL m ds S1 else .no
  | .ix x y => (ev.e b x sl S).bind fun p S1 => (ev.e b y sl S1).bind fun q S2 => nox (ixD p q S2)
  | .sl m x lo hi => (ev.e b x sl S).bind fun p S1 => (evO (fun e S => ev.e b e sl S) lo S1).bind fun l S2 => (evO (fun e S => ev.e b e sl S) hi S2).bind fun h S3 => nox (slD m p l h S3)
  | .rv m x => (ev.e b x sl S).bind fun p S1 => nox (rvD m p S1)
  | .isi x t => (ev.e b x sl S).bind fun p S1 => .ok (.bl (isiD p t)) S1
  | .call f es => match b, P.fns[f]? with
    | b' + 1, some fn => (evEs (fun e S => ev.e (b' + 1) e sl S) es S).bind fun ds S1 => fnD ev b' fn ds S1
    | _, _ => .no
  | .bf f m es => (evEs (fun e S => ev.e b e sl S) es S).bind fun ds S1 => nox (bfD f m ds S1)
  | .mt f x es => (ev.e b x sl S).bind fun p S1 => if isLst p = true then (evEs (fun e S => ev.e b e sl S) es S1).bind fun ds S2 => nox (mtD f p ds S2) else .no
  | .lc m e t own i ifs => (itD (fun e S => ev.e b e sl S) i S).bind fun w S1 =>
    (nox (lcL w.gd (fun d S => setT (ev.e b) 9 t d (wipeD sl own) S) (fun sl S => ifsD (ev.t b) ifs sl S) (fun sl S => ev.e b e sl S) w.ds [] S1)).bind fun ys S2 => newL m ys S2
  | .lam k x => match b, P.lms[k]? with
    | b' + 3, some L => lmR L (ev.e (b' + 1) x sl S)
    | _, _ => .no
  | .nev => .no
def stT (e : E) (sl : Sl) (S : Sto) : R Bool :=
  match e with
  | .nt x => (ev.t b x sl S).bind fun k S1 => .ok (!k) S1
  | .an x y => (ev.t b x sl S).bind fun k S1 => match k with
    | true => ev.t b y sl S1
    | false => .ok false S1
  | .or x y => (ev.t b x sl S).bind fun k S1 => match k with
    | false => ev.t b y sl S1
    | true => .ok true S1
  | .cmp op x y => blD (stE P ev b (.cmp op x y) sl S)
  | .ch op op' x y z => blD (stE P ev b (.ch op op' x y z) sl S)
  | .ite _ _ _ => .no
  | e => (ev.e b e sl S).bind fun d S1 => match truD S1 d with
    | some k => .ok k S1
    | none => .no
def stS (s : S) (sl : Sl) (S : Sto) : R Fl :=
  match s with
  | .asg t e => (ev.e b e sl S).bind fun d S1 => (setT (ev.e b) 9 t d sl S1).bind fun sl1 S2 => .ok (.nx sl1) S2
  | .par is es => (evEs (fun e S => ev.e b e sl S) es S).bind fun ds S1 =>
    if ds.length = is.length ∧ is.all (· < sl.length) = true then .ok (.nx ((is.zip ds).foldl (fun sl p => sl.set p.1 (some p.2)) sl)) S1 else .no
  | .lcs i e => (stE P ev b e sl S).bind fun d S1 => .ok (.nx (sl.set i (some d))) S1
  | .ret e => (ev.e b e sl S).bind fun d S1 => .ok (.rt d) S1
  | .retN => .ok (.rt .non) S
  | .ex e => (ev.e b e sl S).bind fun _ S1 => .ok (.nx sl) S1
  | .iff c x y => (ev.t b c sl S).bind fun k S1 => match k with
    | true => evSs (ev.s b) x sl S1
    | false => evSs (ev.s b) y sl S1
  | .for_ t i bd => (itD (fun e S => ev.e b e sl S) i S).bind fun w S1 => forL w.gd (fun d sl S => setT (ev.e b) 9 t d sl S) (fun sl S => evSs (ev.s b) bd sl S) w.ds sl S1
  | .whl c bd => (ev.t b c sl S).bind fun k S1 => match k with
    | true => (evSs (ev.s b) bd sl S1).bind fun f S2 => match f with
      | .nx sl2 => ev.s b (.whl c bd) sl2 S2
      | .bk sl2 => .ok (.nx sl2) S2
      | .rt x => .ok (.rt x) S2
    | false => .ok (.nx sl) S1
  | .pass => .ok (.nx sl) S
  | .brk => .ok (.bk sl) S
  | .rai k => .ex ⟨k, none⟩ S
  | .nev => .no
end

/-- the evaluator: n turns deep -/
def evN (P : Pg) : Nat → Ev
  | 0 => ⟨fun _ _ _ _ => .no, fun _ _ _ _ => .no, fun _ _ _ _ => .no⟩
  | n + 1 => ⟨fun b e sl S => stE P (evN P n) b e sl S, fun b e sl S => stT P (evN P n) b e sl S, fun b s sl S => stS P (evN P n) b s sl S⟩

/-- a def called -/
def run (P : Pg) (n b : Nat) (f : Nat) (ds : List D) (S : Sto) : R D :=
  match P.fns[f]? with
  | some fn => fnD (evN P n) b fn ds S
  | none => .no
end Nv

end

section
/-! NvC: what the texts must know of the one law: the defs in which lambdas stand. -/
namespace Nv
def tfL : List He.Defn := [("law", none)]
end Nv

end

section
set_option linter.all false
set_option maxRecDepth 100000
set_option maxHeartbeats 1000000
/-! Nv1: how plain data stands in the model's heap; the operations by values. -/
namespace Nv
open PySem PySem.Spec PyProof.Rows L2

abbrev toStr (s : List Nat) : Str := ⟨s.toArray⟩
theorem sizeMax_eq : sizeMax = sizeLine := by rw [sizeLine_eq]; rfl

/-- a tuple of the written part -/
def KT (K : PySem.W.Frag) (a : Addr) (vs : List V) : Prop :=
  ∃ (o : Obj) (its : Array Value) (n : Nat), K.lookup a = some o ∧ o.cls = .type "tuple" ∧ o.data = .seq its n ∧ its.size ≤ sizeLine ∧ Vals vs its.toList

/-- a list of the written part -/
def KL (K : PySem.W.Frag) (a : Addr) (vs : List V) : Prop :=
  ∃ (o : Obj) (its : Array Value) (n : Nat), K.lookup a = some o ∧ o.cls = .type "list" ∧ o.dict = none ∧ o.data = .seq its n ∧ its.size ≤ sizeLine ∧ Vals vs its.toList
/-- a list that nobody changes, or a list -/
def FrL (vs : List V) (u : HO) : Prop := u = .lst vs ∨ ∃ o, u = .frz o (.lst vs)
theorem FrL.nt {vs : List V} {u : HO} (h : FrL vs u) : ∀ ps, u ≠ .tbl ps := by
  rcases h with rfl | ⟨o, rfl⟩ <;> simp
theorem FrL.rd {vs : List V} {u : HO} {H : Hp} {a : Addr} (h : FrL vs u) (e : H a = some u) : Rd H a (.lst vs) := by
  rcases h with rfl | ⟨o, rfl⟩
  · exact .inl e
  · exact .inr ⟨o, e⟩
/-- where the changed lists stand; the lists that are being filled -/
structure Rh where
  ix : List Addr
  fb : List Addr
def Rh.has (ρ : Rh) (a : Addr) : Prop := a ∈ ρ.ix ∨ a ∈ ρ.fb
def Rh.push (ρ : Rh) (a : Addr) : Rh := ⟨ρ.ix ++ [a], ρ.fb⟩
def Rh.bar (ρ : Rh) (a : Addr) : Rh := ⟨ρ.ix, ρ.fb ++ [a]⟩

mutual
def RV (K : PySem.W.Frag) (ρ : Rh) (H : Hp) : D → V → Prop
  | .non, v => v = .non
  | .bl b, v => v = .bl b
  | .int i, v => v = .int i
  | .str s, v => v = .str (toStr s) ∧ s.length ≤ sizeLine
  | .tup xs, v => ∃ a vs, v = .ref a ∧ ((H a = some (.tup vs) ∧ ¬ ρ.has a) ∨ KT K a vs) ∧ RVs K ρ H xs vs
  | .lst xs, v => ∃ a vs, v = .ref a ∧ (H a = some (.lst vs) ∧ ¬ ρ.has a) ∧ RVs K ρ H xs vs
  | .frz xs, v => ∃ a vs, v = .ref a ∧ ((∃ u, FrL vs u ∧ H a = some u ∧ ¬ ρ.has a) ∨ KL K a vs) ∧ RVs K ρ H xs vs
  | .ref n, v => ∃ a, v = .ref a ∧ ρ.ix[n]? = some a
def RVs (K : PySem.W.Frag) (ρ : Rh) (H : Hp) : List D → List V → Prop
  | [], vs => vs = []
  | x :: r, vs => ∃ v t, vs = v :: t ∧ RV K ρ H x v ∧ RVs K ρ H r t
end

/-- the tables of the code objects that are made on the way -/
def lamQ (d : He.Defn) : Str := (d.1 ++ ".<locals>.") ++ "<lambda>"
def tbK (K : PySem.W.Frag) : List (Addr × Str) := tfL.map fun d => ((He.cT K d).2, lamQ d)
/-- the lists that are changed stand at ρ -/
structure StR (K : PySem.W.Frag) (ρ : Rh) (S : Sto) (H : Hp) : Prop where
  len : ρ.ix.length = S.length
  nd : ρ.ix.Nodup
  fbs : ∀ a ∈ ρ.fb, ∃ vs, H a = some (.lst vs)
  tab : LamX.Tabs (tbK K) H
  at_ : ∀ (n : Nat) (xs : List D), S[n]? = some xs → ∃ a vs, ρ.ix[n]? = some a ∧ H a = some (.lst vs) ∧ RVs K ρ H xs vs

/-- a tracked thing that is no table of code objects -/
def NT (H : Hp) (a : Addr) : Prop := ∃ o, H a = some o ∧ ∀ ps, o ≠ .tbl ps
theorem NT.none {H : Hp} {a : Addr} (h : H a = none) : ¬ NT H a := fun ⟨o, e, _⟩ => by rw [h] at e; cases e
/-- the heap grew: what was not a changed list stands as before -/
structure Ext (ρ : Rh) (H : Hp) (ρ' : Rh) (H' : Hp) : Prop where
  pre : ∃ ext, ρ'.ix = ρ.ix ++ ext ∧ ∀ a ∈ ext, ¬ NT H a
  fbe : ρ'.fb = ρ.fb
  keep : ∀ a o, H a = some o → a ∉ ρ.ix → (∀ ps, o ≠ .tbl ps) → H' a = some o
  ref : ∀ a ∈ ρ.ix, NT H a → NT H' a

theorem Ext.refl {ρ : Rh} {H : Hp} : Ext ρ H ρ H := ⟨⟨[], by simp, by simp⟩, rfl, fun _ _ h _ _ => h, fun _ _ h => h⟩
theorem Ext.isSome {ρ ρ' : Rh} {H H' : Hp} (e : Ext ρ H ρ' H') {a : Addr} (h : NT H a) : NT H' a := by
  by_cases hr : a ∈ ρ.ix
  · exact e.ref a hr h
  · obtain ⟨o, q, t⟩ := h
    exact ⟨o, e.keep a o q hr t, t⟩
theorem Ext.notix {ρ ρ' : Rh} {H H' : Hp} (e : Ext ρ H ρ' H') {a : Addr} (h : NT H a) (hr : a ∉ ρ.ix) : a ∉ ρ'.ix := by
  obtain ⟨ext, q, hx⟩ := e.pre
  rw [q]
  intro m
  rcases List.mem_append.mp m with m | m
  · exact hr m
  · exact hx a m h
theorem Ext.notin {ρ ρ' : Rh} {H H' : Hp} (e : Ext ρ H ρ' H') {a : Addr} (h : NT H a) (hr : ¬ ρ.has a) : ¬ ρ'.has a := by
  intro m
  rcases m with m | m
  · exact e.notix h (fun z => hr (.inl z)) m
  · rw [e.fbe] at m
    exact hr (.inr m)
theorem Ext.trans {ρ ρ1 ρ2 : Rh} {H H1 H2 : Hp} (a : Ext ρ H ρ1 H1) (b : Ext ρ1 H1 ρ2 H2) : Ext ρ H ρ2 H2 := by
  obtain ⟨x, hx, hx'⟩ := a.pre
  obtain ⟨y, hy, hy'⟩ := b.pre
  refine ⟨⟨x ++ y, by rw [hy, hx, List.append_assoc], fun c hc => ?_⟩, b.fbe.trans a.fbe, fun c o h n t => ?_, fun c hc h => b.isSome (a.isSome h)⟩
  · rcases List.mem_append.mp hc with hc | hc
    · exact hx' c hc
    · exact fun z => hy' c hc (a.isSome z)
  · exact b.keep c o (a.keep c o h n t) (a.notix ⟨o, h, t⟩ n) t
theorem Ext.get {ρ ρ' : Rh} {H H' : Hp} (e : Ext ρ H ρ' H') {n : Nat} {a : Addr} (h : ρ.ix[n]? = some a) : ρ'.ix[n]? = some a := by
  obtain ⟨ext, q, _⟩ := e.pre
  rw [q, List.getElem?_append_left (List.getElem?_eq_some_iff.mp h).1]
  exact h

section
variable {K : PySem.W.Frag} {ρ ρ' : Rh} {H H' : Hp}
mutual
theorem RV.mono (e : Ext ρ H ρ' H') : ∀ (d : D) (v : V), RV K ρ H d v → RV K ρ' H' d v
  | .non, v, h => h
  | .bl _, v, h => h
  | .int _, v, h => h
  | .str _, v, h => h
  | .tup xs, v, h => by
    obtain ⟨a, vs, rfl, hp, hs⟩ := h
    refine ⟨a, vs, rfl, ?_, RVs.mono e xs vs hs⟩
    rcases hp with ⟨h1, h2⟩ | hk
    · exact .inl ⟨e.keep a _ h1 (fun z => h2 (.inl z)) (by simp), e.notin ⟨_, h1, by simp⟩ h2⟩
    · exact .inr hk
  | .lst xs, v, h => by
    obtain ⟨a, vs, rfl, ⟨h1, h2⟩, hs⟩ := h
    exact ⟨a, vs, rfl, ⟨e.keep a _ h1 (fun z => h2 (.inl z)) (by simp), e.notin ⟨_, h1, by simp⟩ h2⟩, RVs.mono e xs vs hs⟩
  | .frz xs, v, h => by
    obtain ⟨a, vs, rfl, hp, hs⟩ := h
    refine ⟨a, vs, rfl, ?_, RVs.mono e xs vs hs⟩
    rcases hp with ⟨u, hu, h1, h2⟩ | hk
    · exact .inl ⟨u, hu, e.keep a _ h1 (fun z => h2 (.inl z)) hu.nt, e.notin ⟨_, h1, hu.nt⟩ h2⟩
    · exact .inr hk
  | .ref n, v, h => by
    obtain ⟨a, rfl, h1⟩ := h
    exact ⟨a, rfl, e.get h1⟩
theorem RVs.mono (e : Ext ρ H ρ' H') : ∀ (ds : List D) (vs : List V), RVs K ρ H ds vs → RVs K ρ' H' ds vs
  | [], vs, h => h
  | x :: r, vs, h => by
    obtain ⟨v, t, rfl, h1, h2⟩ := h
    exact ⟨v, t, rfl, RV.mono e x v h1, RVs.mono e r t h2⟩
end

theorem RVs.length : ∀ {ds : List D} {vs : List V}, RVs K ρ H ds vs → vs.length = ds.length
  | [], vs, h => by cases (show vs = [] from h); rfl
  | x :: r, vs, h => by
    obtain ⟨v, t, rfl, h1, h2⟩ := h
    simp [RVs.length h2]
theorem RVs.get : ∀ {ds : List D} {vs : List V} {i : Nat} {d : D}, RVs K ρ H ds vs → ds[i]? = some d → ∃ v, vs[i]? = some v ∧ RV K ρ H d v
  | [], vs, i, d, h, e => by simp at e
  | x :: r, vs, 0, d, h, e => by
    obtain ⟨v, t, rfl, h1, h2⟩ := h
    simp at e; subst e
    exact ⟨v, rfl, h1⟩
  | x :: r, vs, i + 1, d, h, e => by
    obtain ⟨v, t, rfl, h1, h2⟩ := h
    obtain ⟨u, q1, q2⟩ := RVs.get (i := i) h2 (by simpa using e)
    exact ⟨u, by simpa using q1, q2⟩
theorem RVs.append : ∀ {ds es : List D} {vs us : List V}, RVs K ρ H ds vs → RVs K ρ H es us → RVs K ρ H (ds ++ es) (vs ++ us)
  | [], es, vs, us, h, h' => by cases (show vs = [] from h); exact h'
  | x :: r, es, vs, us, h, h' => by
    obtain ⟨v, t, rfl, h1, h2⟩ := h
    exact ⟨v, t ++ us, rfl, h1, RVs.append h2 h'⟩
theorem RVs.drop : ∀ {ds : List D} {vs : List V} (n : Nat), RVs K ρ H ds vs → RVs K ρ H (ds.drop n) (vs.drop n)
  | _, _, 0, h => h
  | [], vs, n + 1, h => by cases (show vs = [] from h); exact h
  | x :: r, vs, n + 1, h => by
    obtain ⟨v, t, rfl, h1, h2⟩ := h
    exact RVs.drop n h2
theorem RVs.take : ∀ {ds : List D} {vs : List V} (n : Nat), RVs K ρ H ds vs → RVs K ρ H (ds.take n) (vs.take n)
  | ds, vs, 0, h => by simp; exact (show ([] : List V) = [] from rfl)
  | [], vs, n + 1, h => by cases (show vs = [] from h); exact h
  | x :: r, vs, n + 1, h => by
    obtain ⟨v, t, rfl, h1, h2⟩ := h
    exact ⟨v, t.take n, rfl, h1, RVs.take n h2⟩
theorem RVs.set : ∀ {ds : List D} {vs : List V} (i : Nat) {d : D} {v : V}, RVs K ρ H ds vs → RV K ρ H d v → RVs K ρ H (ds.set i d) (vs.set i v)
  | [], vs, i, d, v, h, h' => by cases (show vs = [] from h); exact (show ([] : List V).set i v = [] from rfl)
  | x :: r, vs, 0, d, v, h, h' => by
    obtain ⟨u, t, rfl, h1, h2⟩ := h
    exact ⟨v, t, rfl, h', h2⟩
  | x :: r, vs, i + 1, d, v, h, h' => by
    obtain ⟨u, t, rfl, h1, h2⟩ := h
    exact ⟨u, t.set i v, rfl, h1, RVs.set i h2 h'⟩
theorem RVs.dropLast {ds : List D} {vs : List V} (h : RVs K ρ H ds vs) : RVs K ρ H ds.dropLast vs.dropLast := by
  rw [List.dropLast_eq_take, List.dropLast_eq_take, h.length]
  exact h.take _
theorem RVs.one {d : D} {v : V} (h : RV K ρ H d v) : RVs K ρ H [d] [v] := ⟨v, [], rfl, h, rfl⟩
theorem RVs.reverse : ∀ {ds : List D} {vs : List V}, RVs K ρ H ds vs → RVs K ρ H ds.reverse vs.reverse
  | [], vs, h => by cases (show vs = [] from h); exact (show ([] : List V).reverse = [] from rfl)
  | x :: r, vs, h => by
    obtain ⟨v, t, rfl, h1, h2⟩ := h
    rw [List.reverse_cons, List.reverse_cons]
    exact RVs.append (RVs.reverse h2) (RVs.one h1)
theorem RVs.cut {ds : List D} {vs : List V} (h : RVs K ρ H ds vs) (lo hi : Option Int) : RVs K ρ H (cutD ds lo hi) (cutV vs lo hi) := by
  have e : ∀ (n d : Nat) (o : Option Int), sIx n d o = HT.sIx n d o := fun n d o => by cases o <;> rfl
  unfold cutD cutV
  rw [h.length, e, e]
  exact (h.drop _).take _
theorem RVs.rep {ds : List D} {vs : List V} (h : RVs K ρ H ds vs) : ∀ k : Nat, RVs K ρ H (repL ds k) (List.replicate k vs).flatten
  | 0 => rfl
  | k + 1 => by
    rw [List.replicate_succ, List.flatten_cons]
    exact h.append (RVs.rep h k)

/-- the items of a list -/
theorem seqL_ok {S : Sto} {d : D} {v : V} {xs : List D} (st : StR K ρ S H) (r : RV K ρ H d v) (e : seqL S d = some xs) : ∃ a vs, v = .ref a ∧ H a = some (.lst vs) ∧ RVs K ρ H xs vs := by
  cases d with
  | lst ys =>
    cases (show some ys = some xs from e)
    obtain ⟨a, vs, rfl, h1, h2⟩ := r
    exact ⟨a, vs, rfl, h1.1, h2⟩
  | ref n =>
    obtain ⟨a, rfl, h1⟩ := r
    obtain ⟨a', vs, h2, h3, h4⟩ := st.at_ n xs e
    rw [h1] at h2; cases h2
    exact ⟨a, vs, rfl, h3, h4⟩
  | _ => cases e
theorem tup_sq {a : Addr} {vs : List V} (h : (H a = some (.tup vs) ∧ ¬ ρ.has a) ∨ KT K a vs) : SqT K H a vs := by
  rcases h with ⟨h, _⟩ | h
  · exact .inl (.inl h)
  · exact .inr h
theorem seqOf_ok {S : Sto} {d : D} {v : V} {xs : List D} (st : StR K ρ S H) (r : RV K ρ H d v) (e : seqOf S d = some xs) : ∃ a vs, v = .ref a ∧ (SqL K H a vs ∨ SqT K H a vs) ∧ RVs K ρ H xs vs := by
  cases d with
  | lst ys =>
    obtain ⟨a, vs, h1, h2, h3⟩ := seqL_ok st r (d := .lst ys) e
    exact ⟨a, vs, h1, .inl (SqL.of h2), h3⟩
  | ref n =>
    obtain ⟨a, vs, h1, h2, h3⟩ := seqL_ok st r (d := .ref n) e
    exact ⟨a, vs, h1, .inl (SqL.of h2), h3⟩
  | tup ys =>
    cases (show some ys = some xs from e)
    obtain ⟨a, vs, rfl, h1, h2⟩ := r
    exact ⟨a, vs, rfl, .inr (tup_sq h1), h2⟩
  | _ => cases e

/-- a new thing that nobody changes -/
theorem Ext.new {p : Addr} (o : HO) (h : H p = none) : Ext ρ H ρ (upd H p o) :=
  ⟨⟨[], by simp, by simp⟩, rfl, fun a u q _ _ => by rw [upd_ne (ne_of_none q h)]; exact q, fun a _ ⟨u, q, t⟩ => ⟨u, by rw [upd_ne (ne_of_none q h)]; exact q, t⟩⟩
theorem Ext.newRef {p : Addr} (o : HO) (h : H p = none) : Ext ρ H (ρ.push p) (upd H p o) :=
  ⟨⟨[p], rfl, fun a ha => by
    have z : a = p := by simpa using ha
    rw [z]
    exact NT.none h⟩, rfl, (Ext.new (ρ := ρ) o h).keep, (Ext.new (ρ := ρ) o h).ref⟩
theorem StR.ne {S : Sto} (st : StR K ρ S H) : ∀ a ∈ ρ.ix, ∃ vs, H a = some (.lst vs) := fun a ha => by
  obtain ⟨n, hn, e⟩ := List.getElem_of_mem ha
  have hn' : n < S.length := by rw [← st.len]; exact hn
  obtain ⟨a', vs, h1, h2, _⟩ := st.at_ n S[n] (List.getElem?_eq_getElem hn')
  rw [List.getElem?_eq_getElem hn, e] at h1
  cases h1
  exact ⟨vs, h2⟩
theorem StR.fresh {S : Sto} (st : StR K ρ S H) {p : Addr} (h : H p = none) : ¬ ρ.has p := fun m => by
  rcases m with m | m
  · obtain ⟨vs, q⟩ := st.ne p m
    rw [h] at q; cases q
  · obtain ⟨vs, q⟩ := st.fbs p m
    rw [h] at q; cases q
theorem Tabs.upd {T : List (Addr × Str)} {p : Addr} {o : HO} (t : LamX.Tabs T H) (h : H p = none ∨ ∃ vs, H p = some (.lst vs)) : LamX.Tabs T (upd H p o) := fun q hq => by
  obtain ⟨ps, h1, h2, h3⟩ := t q hq
  have ne : ∀ {b : Addr} {x : HO}, H b = some x → (∀ vs, x ≠ .lst vs) → b ≠ p := fun {b x} hb hx z => by
    subst z
    rcases h with h | ⟨vs, h⟩
    · rw [h] at hb; cases hb
    · rw [h] at hb; cases hb; exact hx vs rfl
  refine ⟨ps, by rw [upd_ne (ne h1 (by simp))]; exact h1, h2, fun pos cv hc => ?_⟩
  obtain ⟨c, e1, e2⟩ := h3 pos cv hc
  exact ⟨c, e1, by rw [upd_ne (ne e2 (by simp [LamX.CodeO]))]; exact e2⟩
theorem StR.new {S : Sto} (st : StR K ρ S H) {p : Addr} (o : HO) (h : H p = none) : StR K ρ S (upd H p o) :=
  ⟨st.len, st.nd, fun a ha => by
    obtain ⟨vs, q⟩ := st.fbs a ha
    exact ⟨vs, by rw [upd_ne (ne_of_none q h)]; exact q⟩, Tabs.upd st.tab (.inl h), fun n xs e => by
    obtain ⟨a, vs, h1, h2, h3⟩ := st.at_ n xs e
    exact ⟨a, vs, h1, by rw [upd_ne (ne_of_none h2 h)]; exact h2, RVs.mono (Ext.new o h) _ _ h3⟩⟩
theorem StR.newRef {S : Sto} (st : StR K ρ S H) {p : Addr} {xs : List D} {vs : List V} (h : H p = none) (r : RVs K ρ H xs vs) : StR K (ρ.push p) (S ++ [xs]) (upd H p (.lst vs)) := by
  have e := Ext.newRef (ρ := ρ) (.lst vs) h
  refine ⟨by simp [Rh.push, st.len], ?_, fun a ha => ?_, Tabs.upd st.tab (.inl h), fun n ys q => ?_⟩
  · show (ρ.ix ++ [p]).Nodup
    rw [List.nodup_append]
    refine ⟨st.nd, by simp, fun a ha b hb => ?_⟩
    have : b = p := by simpa using hb
    subst this
    rintro rfl
    exact st.fresh h (.inl ha)
  · obtain ⟨us, q⟩ := st.fbs a ha
    exact ⟨us, by rw [upd_ne (ne_of_none q h)]; exact q⟩
  · by_cases hn : n < S.length
    · rw [List.getElem?_append_left hn] at q
      obtain ⟨a, us, h1, h2, h3⟩ := st.at_ n ys q
      exact ⟨a, us, e.get h1, by rw [upd_ne (ne_of_none h2 h)]; exact h2, RVs.mono e _ _ h3⟩
    · have hn' : n = S.length := by
        have := (List.getElem?_eq_some_iff.mp q).1
        simp at this; omega
      subst hn'
      rw [List.getElem?_append_right (Nat.le_refl _)] at q
      simp at q
      subst q
      refine ⟨p, vs, ?_, upd_same, RVs.mono e _ _ r⟩
      show (ρ.ix ++ [p])[S.length]? = some p
      rw [← st.len, List.getElem?_append_right (Nat.le_refl _)]
      simp
theorem nodup_ix_addr {l : List Addr} (nd : l.Nodup) {i j : Nat} {x : Addr} (a : l[i]? = some x) (b : l[j]? = some x) : i = j := by
  obtain ⟨h1, e1⟩ := List.getElem?_eq_some_iff.mp a
  obtain ⟨h2, e2⟩ := List.getElem?_eq_some_iff.mp b
  exact (List.getElem_inj nd).mp (e1.trans e2.symm)
/-- a changed list is changed -/
theorem StR.change {S : Sto} (st : StR K ρ S H) {n : Nat} {a : Addr} {xs : List D} {vs : List V} (hn : ρ.ix[n]? = some a) (r : RVs K ρ H xs vs) : StR K ρ (S.set n xs) (upd H a (.lst vs)) ∧ Ext ρ H ρ (upd H a (.lst vs)) := by
  have ha : a ∈ ρ.ix := List.mem_of_getElem? hn
  have e : Ext ρ H ρ (upd H a (.lst vs)) := ⟨⟨[], by simp, by simp⟩, rfl, fun b o q hb _ => by rw [upd_ne (fun z : b = a => hb (by rw [z]; exact ha))]; exact q, fun b _ ⟨o, q, t⟩ => by
    by_cases z : b = a
    · exact ⟨.lst vs, by rw [z]; exact upd_same, by simp⟩
    · exact ⟨o, by rw [upd_ne z]; exact q, t⟩⟩
  refine ⟨⟨by simpa using st.len, st.nd, fun b hb => ?_, Tabs.upd st.tab (.inr (st.ne a ha)), fun m ys q => ?_⟩, e⟩
  · by_cases z : b = a
    · exact ⟨vs, by rw [z]; exact upd_same⟩
    · obtain ⟨us, q⟩ := st.fbs b hb
      exact ⟨us, by rw [upd_ne z]; exact q⟩
  by_cases hm : m = n
  · subst hm
    have hl : m < S.length := by rw [← st.len]; exact (List.getElem?_eq_some_iff.mp hn).1
    rw [List.getElem?_set_self hl] at q
    cases q
    exact ⟨a, vs, hn, upd_same, RVs.mono e _ _ r⟩
  · rw [List.getElem?_set_ne (Ne.symm hm)] at q
    obtain ⟨b, us, h1, h2, h3⟩ := st.at_ m ys q
    refine ⟨b, us, h1, ?_, RVs.mono e _ _ h3⟩
    rw [upd_ne]
    · exact h2
    · rintro rfl
      exact hm (nodup_ix_addr st.nd h1 hn)
mutual
/-- a list that is being filled is none of the data's -/
theorem RV.bar {p : Addr} {o : HO} (h : H p = none) : ∀ (d : D) (v : V), RV K ρ H d v → RV K (ρ.bar p) (upd H p o) d v
  | .non, v, r => r
  | .bl _, v, r => r
  | .int _, v, r => r
  | .str _, v, r => r
  | .tup xs, v, r => by
    obtain ⟨a, vs, rfl, hp, hs⟩ := r
    refine ⟨a, vs, rfl, ?_, RVs.bar h xs vs hs⟩
    rcases hp with ⟨h1, h2⟩ | hk
    · exact .inl ⟨by rw [upd_ne (ne_of_none h1 h)]; exact h1, bar_has h1 h h2⟩
    · exact .inr hk
  | .lst xs, v, r => by
    obtain ⟨a, vs, rfl, ⟨h1, h2⟩, hs⟩ := r
    exact ⟨a, vs, rfl, ⟨by rw [upd_ne (ne_of_none h1 h)]; exact h1, bar_has h1 h h2⟩, RVs.bar h xs vs hs⟩
  | .frz xs, v, r => by
    obtain ⟨a, vs, rfl, hp, hs⟩ := r
    refine ⟨a, vs, rfl, ?_, RVs.bar h xs vs hs⟩
    rcases hp with ⟨u, hu, h1, h2⟩ | hk
    · exact .inl ⟨u, hu, by rw [upd_ne (ne_of_none h1 h)]; exact h1, bar_has h1 h h2⟩
    · exact .inr hk
  | .ref n, v, r => r
theorem RVs.bar {p : Addr} {o : HO} (h : H p = none) : ∀ (ds : List D) (vs : List V), RVs K ρ H ds vs → RVs K (ρ.bar p) (upd H p o) ds vs
  | [], vs, r => r
  | x :: t, vs, r => by
    obtain ⟨v, u, rfl, h1, h2⟩ := r
    exact ⟨v, u, rfl, RV.bar h x v h1, RVs.bar h t u h2⟩
theorem bar_has {p a : Addr} {o : HO} (h1 : H a = some o) (h : H p = none) (h2 : ¬ ρ.has a) : ¬ (ρ.bar p).has a := by
  intro m
  rcases m with m | m
  · exact h2 (.inl m)
  · rcases List.mem_append.mp m with m | m
    · exact h2 (.inr m)
    · have : a = p := by simpa using m
      subst this
      rw [h] at h1
      cases h1
end
theorem StR.bar {S : Sto} (st : StR K ρ S H) {p : Addr} {l : List V} (h : H p = none) : StR K (ρ.bar p) S (upd H p (.lst l)) :=
  ⟨st.len, st.nd, fun a ha => by
    rcases List.mem_append.mp ha with m | m
    · obtain ⟨vs, q⟩ := st.fbs a m
      exact ⟨vs, by rw [upd_ne (ne_of_none q h)]; exact q⟩
    · have : a = p := by simpa using m
      exact ⟨l, by rw [this]; exact upd_same⟩, Tabs.upd st.tab (.inl h), fun n xs e => by
    obtain ⟨a, vs, h1, h2, h3⟩ := st.at_ n xs e
    exact ⟨a, vs, h1, by rw [upd_ne (ne_of_none h2 h)]; exact h2, RVs.bar h _ _ h3⟩⟩
mutual
theorem RV.unbar {p : Addr} : ∀ (d : D) (v : V), RV K (ρ.bar p) H d v → RV K ρ H d v
  | .non, v, r => r
  | .bl _, v, r => r
  | .int _, v, r => r
  | .str _, v, r => r
  | .tup xs, v, r => by
    obtain ⟨a, vs, rfl, hp, hs⟩ := r
    refine ⟨a, vs, rfl, ?_, RVs.unbar xs vs hs⟩
    rcases hp with ⟨h1, h2⟩ | hk
    · exact .inl ⟨h1, unbar_has h2⟩
    · exact .inr hk
  | .lst xs, v, r => by
    obtain ⟨a, vs, rfl, ⟨h1, h2⟩, hs⟩ := r
    exact ⟨a, vs, rfl, ⟨h1, unbar_has h2⟩, RVs.unbar xs vs hs⟩
  | .frz xs, v, r => by
    obtain ⟨a, vs, rfl, hp, hs⟩ := r
    refine ⟨a, vs, rfl, ?_, RVs.unbar xs vs hs⟩
    rcases hp with ⟨u, hu, h1, h2⟩ | hk
    · exact .inl ⟨u, hu, h1, unbar_has h2⟩
    · exact .inr hk
  | .ref n, v, r => r
theorem RVs.unbar {p : Addr} : ∀ (ds : List D) (vs : List V), RVs K (ρ.bar p) H ds vs → RVs K ρ H ds vs
  | [], vs, r => r
  | x :: t, vs, r => by
    obtain ⟨v, u, rfl, h1, h2⟩ := r
    exact ⟨v, u, rfl, RV.unbar x v h1, RVs.unbar t u h2⟩
theorem unbar_has {p a : Addr} (h2 : ¬ (ρ.bar p).has a) : ¬ ρ.has a := fun m => by
  rcases m with m | m
  · exact h2 (.inl m)
  · exact h2 (.inr (List.mem_append_left _ m))
end
theorem StR.unbar {S : Sto} {p : Addr} (st : StR K (ρ.bar p) S H) : StR K ρ S H :=
  ⟨st.len, st.nd, fun a ha => st.fbs a (List.mem_append_left _ ha), st.tab, fun n xs e => by
    obtain ⟨a, vs, h1, h2, h3⟩ := st.at_ n xs e
    exact ⟨a, vs, h1, h2, RVs.unbar _ _ h3⟩⟩
mutual
/-- the list that is being filled is filled on -/
theorem RV.fill {p : Addr} {o : HO} (hb : p ∈ ρ.fb) : ∀ (d : D) (v : V), RV K ρ H d v → RV K ρ (upd H p o) d v
  | .non, v, r => r
  | .bl _, v, r => r
  | .int _, v, r => r
  | .str _, v, r => r
  | .tup xs, v, r => by
    obtain ⟨a, vs, rfl, hp, hs⟩ := r
    refine ⟨a, vs, rfl, ?_, RVs.fill hb xs vs hs⟩
    rcases hp with ⟨h1, h2⟩ | hk
    · exact .inl ⟨by rw [upd_ne (fun z => h2 (.inr (by rw [z]; exact hb)))]; exact h1, h2⟩
    · exact .inr hk
  | .lst xs, v, r => by
    obtain ⟨a, vs, rfl, ⟨h1, h2⟩, hs⟩ := r
    exact ⟨a, vs, rfl, ⟨by rw [upd_ne (fun z => h2 (.inr (by rw [z]; exact hb)))]; exact h1, h2⟩, RVs.fill hb xs vs hs⟩
  | .frz xs, v, r => by
    obtain ⟨a, vs, rfl, hp, hs⟩ := r
    refine ⟨a, vs, rfl, ?_, RVs.fill hb xs vs hs⟩
    rcases hp with ⟨u, hu, h1, h2⟩ | hk
    · exact .inl ⟨u, hu, by rw [upd_ne (fun z => h2 (.inr (by rw [z]; exact hb)))]; exact h1, h2⟩
    · exact .inr hk
  | .ref n, v, r => r
theorem RVs.fill {p : Addr} {o : HO} (hb : p ∈ ρ.fb) : ∀ (ds : List D) (vs : List V), RVs K ρ H ds vs → RVs K ρ (upd H p o) ds vs
  | [], vs, r => r
  | x :: t, vs, r => by
    obtain ⟨v, u, rfl, h1, h2⟩ := r
    exact ⟨v, u, rfl, RV.fill hb x v h1, RVs.fill hb t u h2⟩
end
theorem StR.fill {S : Sto} {p : Addr} {l : List V} (st : StR K ρ S H) (hb : p ∈ ρ.fb) (hi : p ∉ ρ.ix) : StR K ρ S (upd H p (.lst l)) :=
  ⟨st.len, st.nd, fun a ha => by
    by_cases e : a = p
    · exact ⟨l, by rw [e]; exact upd_same⟩
    · obtain ⟨vs, q⟩ := st.fbs a ha
      exact ⟨vs, by rw [upd_ne e]; exact q⟩, Tabs.upd st.tab (.inr (st.fbs p hb)), fun n xs e => by
    obtain ⟨a, vs, h1, h2, h3⟩ := st.at_ n xs e
    exact ⟨a, vs, h1, by rw [upd_ne (fun z : a = p => hi (by rw [← z]; exact List.mem_of_getElem? h1))]; exact h2, RVs.fill hb _ _ h3⟩⟩
end

section
variable {K : PySem.W.Frag} {ρ ρ' : Rh} {H : Hp}
mutual
theorem RV.cong (h1 : ∀ a, ρ'.has a → ρ.has a) (h2 : ∀ (n : Nat) (a : Addr), ρ.ix[n]? = some a → ρ'.ix[n]? = some a) : ∀ (d : D) (v : V), RV K ρ H d v → RV K ρ' H d v
  | .non, v, r => r
  | .bl _, v, r => r
  | .int _, v, r => r
  | .str _, v, r => r
  | .tup xs, v, r => by
    obtain ⟨a, vs, rfl, hp, hs⟩ := r
    refine ⟨a, vs, rfl, ?_, RVs.cong h1 h2 xs vs hs⟩
    rcases hp with ⟨q1, q2⟩ | hk
    · exact .inl ⟨q1, fun z => q2 (h1 a z)⟩
    · exact .inr hk
  | .lst xs, v, r => by
    obtain ⟨a, vs, rfl, ⟨q1, q2⟩, hs⟩ := r
    exact ⟨a, vs, rfl, ⟨q1, fun z => q2 (h1 a z)⟩, RVs.cong h1 h2 xs vs hs⟩
  | .frz xs, v, r => by
    obtain ⟨a, vs, rfl, hp, hs⟩ := r
    refine ⟨a, vs, rfl, ?_, RVs.cong h1 h2 xs vs hs⟩
    rcases hp with ⟨u, hu, q1, q2⟩ | hk
    · exact .inl ⟨u, hu, q1, fun z => q2 (h1 a z)⟩
    · exact .inr hk
  | .ref n, v, r => by
    obtain ⟨a, rfl, q⟩ := r
    exact ⟨a, rfl, h2 n a q⟩
theorem RVs.cong (h1 : ∀ a, ρ'.has a → ρ.has a) (h2 : ∀ (n : Nat) (a : Addr), ρ.ix[n]? = some a → ρ'.ix[n]? = some a) : ∀ (ds : List D) (vs : List V), RVs K ρ H ds vs → RVs K ρ' H ds vs
  | [], vs, r => r
  | x :: t, vs, r => by
    obtain ⟨v, u, rfl, q1, q2⟩ := r
    exact ⟨v, u, rfl, RV.cong h1 h2 x v q1, RVs.cong h1 h2 t u q2⟩
end
end
/-! ### the heap grew, lists that are being filled among the new ones -/
structure ExtB (ρ : Rh) (H : Hp) (ρ' : Rh) (H' : Hp) : Prop where
  pre : ∃ ext, ρ'.ix = ρ.ix ++ ext ∧ ∀ a ∈ ext, ¬ NT H a
  fbe : ∃ ext, ρ'.fb = ρ.fb ++ ext ∧ ∀ a ∈ ext, ¬ NT H a
  keep : ∀ a o, H a = some o → a ∉ ρ.ix → (∀ ps, o ≠ .tbl ps) → H' a = some o
  ref : ∀ a ∈ ρ.ix, NT H a → NT H' a
section
variable {K : PySem.W.Frag} {ρ ρ' ρ1 ρ2 : Rh} {H H' H1 H2 : Hp}
theorem Ext.b (e : Ext ρ H ρ' H') : ExtB ρ H ρ' H' := ⟨e.pre, ⟨[], by rw [e.fbe]; simp, by simp⟩, e.keep, e.ref⟩
theorem ExtB.isSome (e : ExtB ρ H ρ' H') {a : Addr} (h : NT H a) : NT H' a := by
  by_cases hr : a ∈ ρ.ix
  · exact e.ref a hr h
  · obtain ⟨o, q, t⟩ := h
    exact ⟨o, e.keep a o q hr t, t⟩
theorem ExtB.notix (e : ExtB ρ H ρ' H') {a : Addr} (h : NT H a) (hr : a ∉ ρ.ix) : a ∉ ρ'.ix := by
  obtain ⟨ext, q, hx⟩ := e.pre
  rw [q]
  intro m
  rcases List.mem_append.mp m with m | m
  · exact hr m
  · exact hx a m h
theorem ExtB.notin (e : ExtB ρ H ρ' H') {a : Addr} (h : NT H a) (hr : ¬ ρ.has a) : ¬ ρ'.has a := by
  intro m
  rcases m with m | m
  · exact e.notix h (fun z => hr (.inl z)) m
  · obtain ⟨ext, q, hx⟩ := e.fbe
    rw [q] at m
    rcases List.mem_append.mp m with m | m
    · exact hr (.inr m)
    · exact hx a m h
theorem ExtB.trans (a : ExtB ρ H ρ1 H1) (b : ExtB ρ1 H1 ρ2 H2) : ExtB ρ H ρ2 H2 := by
  obtain ⟨x, hx, hx'⟩ := a.pre
  obtain ⟨y, hy, hy'⟩ := b.pre
  obtain ⟨x2, kx, kx'⟩ := a.fbe
  obtain ⟨y2, ky, ky'⟩ := b.fbe
  refine ⟨⟨x ++ y, by rw [hy, hx, List.append_assoc], fun c hc => ?_⟩, ⟨x2 ++ y2, by rw [ky, kx, List.append_assoc], fun c hc => ?_⟩, fun c o h n t => ?_, fun c hc h => b.isSome (a.isSome h)⟩
  · rcases List.mem_append.mp hc with hc | hc
    · exact hx' c hc
    · exact fun z => hy' c hc (a.isSome z)
  · rcases List.mem_append.mp hc with hc | hc
    · exact kx' c hc
    · exact fun z => ky' c hc (a.isSome z)
  · exact b.keep c o (a.keep c o h n t) (a.notix ⟨o, h, t⟩ n) t
theorem ExtB.get (e : ExtB ρ H ρ' H') {n : Nat} {a : Addr} (h : ρ.ix[n]? = some a) : ρ'.ix[n]? = some a := by
  obtain ⟨ext, q, _⟩ := e.pre
  rw [q, List.getElem?_append_left (List.getElem?_eq_some_iff.mp h).1]
  exact h
theorem ExtB.bar {p : Addr} (o : HO) (h : H p = none) : ExtB ρ H (ρ.bar p) (upd H p o) :=
  ⟨⟨[], by simp [Rh.bar], by simp⟩, ⟨[p], rfl, fun a ha => by
    have z : a = p := by simpa using ha
    rw [z]
    exact NT.none h⟩, (Ext.new (ρ := ρ) o h).keep, (Ext.new (ρ := ρ) o h).ref⟩
/-- what was not there is filled on -/
theorem ExtB.fill {p : Addr} {l : List V} (e : ExtB ρ H ρ' H') (h : H p = none) : ExtB ρ H ρ' (upd H' p (.lst l)) :=
  ⟨e.pre, e.fbe, fun a u q n t => by rw [upd_ne (ne_of_none q h)]; exact e.keep a u q n t, fun a ha q => by
    by_cases z : a = p
    · exact ⟨.lst l, by rw [z]; exact upd_same, by simp⟩
    · obtain ⟨o, q1, q2⟩ := e.ref a ha q
      exact ⟨o, by rw [upd_ne z]; exact q1, q2⟩⟩
mutual
theorem RV.monoB (e : ExtB ρ H ρ' H') : ∀ (d : D) (v : V), RV K ρ H d v → RV K ρ' H' d v
  | .non, v, h => h
  | .bl _, v, h => h
  | .int _, v, h => h
  | .str _, v, h => h
  | .tup xs, v, h => by
    obtain ⟨a, vs, rfl, hp, hs⟩ := h
    refine ⟨a, vs, rfl, ?_, RVs.monoB e xs vs hs⟩
    rcases hp with ⟨h1, h2⟩ | hk
    · exact .inl ⟨e.keep a _ h1 (fun z => h2 (.inl z)) (by simp), e.notin ⟨_, h1, by simp⟩ h2⟩
    · exact .inr hk
  | .lst xs, v, h => by
    obtain ⟨a, vs, rfl, ⟨h1, h2⟩, hs⟩ := h
    exact ⟨a, vs, rfl, ⟨e.keep a _ h1 (fun z => h2 (.inl z)) (by simp), e.notin ⟨_, h1, by simp⟩ h2⟩, RVs.monoB e xs vs hs⟩
  | .frz xs, v, h => by
    obtain ⟨a, vs, rfl, hp, hs⟩ := h
    refine ⟨a, vs, rfl, ?_, RVs.monoB e xs vs hs⟩
    rcases hp with ⟨u, hu, h1, h2⟩ | hk
    · exact .inl ⟨u, hu, e.keep a _ h1 (fun z => h2 (.inl z)) hu.nt, e.notin ⟨_, h1, hu.nt⟩ h2⟩
    · exact .inr hk
  | .ref n, v, h => by
    obtain ⟨a, rfl, h1⟩ := h
    exact ⟨a, rfl, e.get h1⟩
theorem RVs.monoB (e : ExtB ρ H ρ' H') : ∀ (ds : List D) (vs : List V), RVs K ρ H ds vs → RVs K ρ' H' ds vs
  | [], vs, h => h
  | x :: r, vs, h => by
    obtain ⟨v, t, rfl, h1, h2⟩ := h
    exact ⟨v, t, rfl, RV.monoB e x v h1, RVs.monoB e r t h2⟩
end
end

/-! ### what is wanted behind -/
section
variable (K : PySem.W.Frag)
/-- of a value -/
def OutV (r : R D) (ρ : Rh) (H : Hp) (Q : VK) : Prop :=
  match r with
  | .ok d S => ∀ ρ' H' v, Ext ρ H ρ' H' → StR K ρ' S H' → RV K ρ' H' d v → Q v H'
  | _ => False
end
section
variable {K : PySem.W.Frag} {ρ ρ' : Rh} {H H' : Hp} {Q : VK} {S : Sto}
theorem OutV.here {d : D} {v : V} (h : OutV K (.ok d S) ρ H Q) (st : StR K ρ S H) (r : RV K ρ H d v) : Q v H := h ρ H v Ext.refl st r
/-- a new list -/
theorem OutV.newL {m : Bool} {xs : List D} {vs : List V} (h : OutV K (Nv.newL m xs S) ρ H Q) (st : StR K ρ S H) (r : RVs K ρ H xs vs) : ∀ p, H p = none → Q (.ref p) (upd H p (.lst vs)) := fun p hp => by
  cases m with
  | true =>
    refine h (ρ.push p) _ _ (Ext.newRef _ hp) (st.newRef hp r) ⟨p, rfl, ?_⟩
    show (ρ.ix ++ [p])[S.length]? = some p
    rw [← st.len, List.getElem?_append_right (Nat.le_refl _)]
    simp
  | false =>
    refine h ρ _ _ (Ext.new _ hp) (st.new _ hp) ⟨p, vs, rfl, ⟨upd_same, st.fresh hp⟩, RVs.mono (Ext.new _ hp) _ _ r⟩
/-- a new tuple -/
theorem OutV.newT {xs : List D} {vs : List V} (h : OutV K (.ok (.tup xs) S) ρ H Q) (st : StR K ρ S H) (r : RVs K ρ H xs vs) : ∀ p, H p = none → Q (.ref p) (upd H p (.tup vs)) := fun p hp =>
  h ρ _ _ (Ext.new _ hp) (st.new _ hp) ⟨p, vs, rfl, .inl ⟨upd_same, st.fresh hp⟩, RVs.mono (Ext.new _ hp) _ _ r⟩
end
end Nv

end

section
set_option linter.all false
set_option maxRecDepth 100000
set_option maxHeartbeats 1000000
/-! Nv2: the operations by values. -/
namespace Nv
open PySem PySem.Spec PyProof.Rows L2

section
variable (K : PySem.W.Frag)
/-- two values in, by the evaluator's own operation -/
def r2 (g : D → D → Sto → R D) : R2 := fun x y H Q => ∃ ρ S a b, StR K ρ S H ∧ RV K ρ H a x ∧ RV K ρ H b y ∧ OutV K (g a b S) ρ H Q
def r1 (g : D → Sto → R D) : V → Hp → VK → Prop := fun x H Q => ∃ ρ S a, StR K ρ S H ∧ RV K ρ H a x ∧ OutV K (g a S) ρ H Q
def rN (g : List D → Sto → R D) : List V → Hp → VK → Prop := fun xs H Q => ∃ ρ S ds, StR K ρ S H ∧ RVs K ρ H ds xs ∧ OutV K (g ds S) ρ H Q
def rM (g : D → List D → Sto → R D) : V → List V → Hp → VK → Prop := fun x xs H Q => ∃ ρ S a ds, StR K ρ S H ∧ RV K ρ H a x ∧ RVs K ρ H ds xs ∧ OutV K (g a ds S) ρ H Q
end

theorem OpR.imp {X : Cx} {f : Value → Value → Sem Value} {r r' : R2} (h : OpR X f r) (i : ∀ x y H Q, r' x y H Q → r x y H Q) : OpR X f r' := fun pins s σ H x y v u Q I rx ry q => h pins s σ H x y v u Q I rx ry (i _ _ _ _ q)
theorem CallR.imp {X : Cx} {f : Value} {r r' : List V → Hp → VK → Prop} (h : CallR X f r) (i : ∀ x H Q, r' x H Q → r x H Q) : CallR X f r' := fun pins s σ H x u Q I rx q => h pins s σ H x u Q I rx (i _ _ _ q)
theorem IxR.imp {X : Cx} {r r' : R2} (h : IxR X r) (i : ∀ x y H Q, r' x y H Q → r x y H Q) : IxR X r' := fun value slice pins s σ H x y v u Q I rx ry q hs => h value slice pins s σ H x y v u Q I rx ry (i _ _ _ _ q) hs
theorem MtR.imp {X : Cx} {id : String} {r r' : V → List V → Hp → VK → Prop} (h : MtR X id r) (i : ∀ x xs H Q, r' x xs H Q → r x xs H Q) : MtR X id r' := fun pins s σ H x xs v us Q I rx rs q => h pins s σ H x xs v us Q I rx rs (i _ _ _ _ q)
theorem SlR.imp {X : Cx} {r r' : V → Option Int → Option Int → Hp → VK → Prop} (h : SlR X r) (i : ∀ x lo hi H Q, r' x lo hi H Q → r x lo hi H Q) : SlR X r' := fun pins s σ H x v vl vu lo hi sl Q I rx hs pl pu q => h pins s σ H x v vl vu lo hi sl Q I rx hs pl pu (i _ _ _ _ _ q)

section
variable {K : PySem.W.Frag} {ρ : Rh} {H : Hp} {Q : VK} {S : Sto} {a b : D} {x y : V} {X : Cx}

theorem outV_if {c : Prop} [Decidable c] {r : R D} (h : OutV K (if c then r else .no) ρ H Q) : c ∧ OutV K r ρ H Q := by
  by_cases hc : c
  · rw [if_pos hc] at h; exact ⟨hc, h⟩
  · rw [if_neg hc] at h; exact h.elim
theorem outV_nox {r : R D} (h : OutV K (nox r) ρ H Q) : OutV K r ρ H Q := by
  cases r with
  | ok d S => exact h
  | ex x S => exact h.elim
  | no => exact h.elim

/-! ### + -/
theorem add_ways {m : Bool} (h : OutV K (addD m a b S) ρ H Q) :
    (∃ i j, a = .int i ∧ b = .int j ∧ OutV K (.ok (.int (i + j)) S) ρ H Q) ∨ (∃ s t, a = .str s ∧ b = .str t ∧ s.length + t.length ≤ sizeMax ∧ OutV K (.ok (.str (s ++ t)) S) ρ H Q) ∨
    (∃ xs ys, a = .tup xs ∧ b = .tup ys ∧ xs.length + ys.length ≤ sizeMax ∧ OutV K (.ok (.tup (xs ++ ys)) S) ρ H Q) ∨
    (∃ xs ys, seqL S a = some xs ∧ seqL S b = some ys ∧ xs.length + ys.length ≤ sizeMax ∧ OutV K (newL m (xs ++ ys) S) ρ H Q) := by
  unfold addD at h
  split at h
  · exact .inl ⟨_, _, rfl, rfl, h⟩
  · obtain ⟨h1, h2⟩ := outV_if h
    exact .inr (.inl ⟨_, _, rfl, rfl, h1, h2⟩)
  · obtain ⟨h1, h2⟩ := outV_if h
    exact .inr (.inr (.inl ⟨_, _, rfl, rfl, h1, h2⟩))
  · split at h
    · rename_i e1 e2
      obtain ⟨h1, h2⟩ := outV_if h
      exact .inr (.inr (.inr ⟨_, _, e1, e2, h1, h2⟩))
    · exact h.elim
theorem str_app (s t : List Nat) : toStr s ++ toStr t = toStr (s ++ t) := by
  show Str.mk (s.toArray ++ t.toArray) = _
  simp
theorem opd_add {m : Bool} : OpR X (binaryOp .Add) (r2 X.K (addD m)) := by
  refine OpR.imp ((op_add.or op_add_str).or (op_catA.or op_cat)) fun x y H Q h => ?_
  obtain ⟨ρ, S, a, b, st, ra, rb, q⟩ := h
  rcases add_ways q with ⟨i, j, rfl, rfl, q⟩ | ⟨s, t, rfl, rfl, hz, q⟩ | ⟨xs, ys, rfl, rfl, hz, q⟩ | ⟨xs, ys, e1, e2, hz, q⟩
  · cases ra; cases rb
    exact .inl (.inl ⟨i, j, rfl, rfl, q.here st rfl⟩)
  · obtain ⟨rfl, h1⟩ := ra
    obtain ⟨rfl, h2⟩ := rb
    rw [sizeMax_eq] at hz
    refine .inl (.inr ⟨_, _, rfl, rfl, by simpa [Str.length] using hz, ?_⟩)
    rw [str_app]
    exact q.here st ⟨rfl, by simpa using hz⟩
  · obtain ⟨a, vs, rfl, h1, h2⟩ := ra
    obtain ⟨b, us, rfl, h3, h4⟩ := rb
    have l1 := h2.length
    have l2 := h4.length
    rw [sizeMax_eq] at hz
    refine .inr (.inl ⟨a, b, vs, us, rfl, rfl, tup_sq h1, tup_sq h3, by omega, fun e => ?_, fun _ e => ?_, fun _ _ => q.newT st (h2.append h4)⟩)
    · refine q.here st ⟨b, us, rfl, h3, ?_⟩
      subst e
      have : xs = [] := by cases xs with
        | nil => rfl
        | cons => simp at l1
      subst this
      exact h4
    · refine q.here st ⟨a, vs, rfl, h1, ?_⟩
      subst e
      have : ys = [] := by cases ys with
        | nil => rfl
        | cons => simp at l2
      subst this
      rw [List.append_nil]
      exact h2
  · obtain ⟨a, vs, rfl, h1, h2⟩ := seqL_ok st ra e1
    obtain ⟨b, us, rfl, h3, h4⟩ := seqL_ok st rb e2
    have l1 := h2.length
    have l2 := h4.length
    rw [sizeMax_eq] at hz
    exact .inr (.inr ⟨a, b, vs, us, rfl, rfl, h1, h3, by omega, q.newL st (h2.append h4)⟩)

/-! ### - % // ** -/
theorem opd_sub {m : Bool} : OpR X (binaryOp .Sub) (r2 X.K (binD .sub m)) := by
  refine OpR.imp op_sub fun x y H Q h => ?_
  obtain ⟨ρ, S, a, b, st, ra, rb, q⟩ := h
  unfold binD at q
  dsimp only at q
  split at q
  · cases ra; cases rb
    exact ⟨_, _, rfl, rfl, q.here st rfl⟩
  · exact q.elim
theorem opd_mod {m : Bool} : OpR X (binaryOp .Mod) (r2 X.K (binD .mod m)) := by
  refine OpR.imp op_mod fun x y H Q h => ?_
  obtain ⟨ρ, S, a, b, st, ra, rb, q⟩ := h
  unfold binD at q
  dsimp only at q
  split at q
  · cases ra; cases rb
    obtain ⟨h1, q⟩ := outV_if q
    exact ⟨_, _, rfl, rfl, h1, q.here st rfl⟩
  · exact q.elim
theorem opd_fdiv {m : Bool} : OpR X (binaryOp .FloorDiv) (r2 X.K (binD .fdiv m)) := by
  refine OpR.imp op_fdiv fun x y H Q h => ?_
  obtain ⟨ρ, S, a, b, st, ra, rb, q⟩ := h
  unfold binD at q
  dsimp only at q
  split at q
  · cases ra; cases rb
    obtain ⟨h1, q⟩ := outV_if q
    exact ⟨_, _, rfl, rfl, h1, q.here st rfl⟩
  · exact q.elim
theorem opd_pow {m : Bool} : OpR X (binaryOp .Pow) (r2 X.K (binD .pow m)) := by
  refine OpR.imp op_pow fun x y H Q h => ?_
  obtain ⟨ρ, S, a, b, st, ra, rb, q⟩ := h
  unfold binD at q
  dsimp only at q
  split at q
  · cases ra; cases rb
    obtain ⟨h1, q⟩ := outV_if q
    exact ⟨_, _, rfl, rfl, ⟨h1.1, by omega, h1.2.2⟩, q.here st rfl⟩
  · exact q.elim

/-! ### * -/
theorem mul_ways {m : Bool} (h : OutV K (mulD m a b S) ρ H Q) :
    (∃ i j, a = .int i ∧ b = .int j ∧ (lim64 i || lim64 j) = true ∧ OutV K (.ok (.int (i * j)) S) ρ H Q) ∨
    (∃ xs k, a = .tup xs ∧ b = .int k ∧ xs ≠ [] ∧ xs.length ≤ 1000 ∧ 1 ≤ k ∧ k ≤ 1000 ∧ OutV K (.ok (.tup (repL xs k.toNat)) S) ρ H Q) ∨
    (∃ xs k, seqL S a = some xs ∧ b = .int k ∧ xs.length * k.toNat ≤ sizeMax ∧ -(2 ^ 63) ≤ k ∧ k < 2 ^ 63 ∧ OutV K (newL m (repL xs k.toNat) S) ρ H Q) := by
  unfold mulD at h
  split at h
  · obtain ⟨h1, h2⟩ := outV_if h
    exact .inl ⟨_, _, rfl, rfl, h1, h2⟩
  · obtain ⟨h1, h2⟩ := outV_if h
    simp only [Bool.and_eq_true, decide_eq_true_eq, Bool.not_eq_true'] at h1
    refine .inr (.inl ⟨_, _, rfl, rfl, ?_, h1.1.1.2, h1.1.2, h1.2, h2⟩)
    intro e
    rw [e] at h1
    simp at h1
  · split at h
    · rename_i e1
      obtain ⟨h1, h2⟩ := outV_if h
      simp only [Bool.and_eq_true, decide_eq_true_eq] at h1
      exact .inr (.inr ⟨_, _, e1, rfl, h1.1.1, h1.1.2, h1.2, h2⟩)
    · exact h.elim
  · exact h.elim
theorem lim64_ok {i : Int} (h : lim64 i = true) : -(2 ^ 64) < i ∧ i < 2 ^ 64 := by
  unfold lim64 at h
  simpa using h

/-- t * 1 -/
theorem tuple_mul1 (l : Addr) (items : Array Value) (n : Nat) (dd : Option Addr) (sl : Array (Option Value)) (u : Tok) :
    Meets (Builtin.«tuple.__mul__» ⟨[.ref l, .int 1 u], []⟩) (fun _ R s => s.heap.get? l = some { cls := .type "tuple", dict := dd, data := .seq items n, slots := sl } ∧ R (.ok (.ret (Value.ref l))) s) :=
  .of_wp fun prog w A R s h => by
    obtain ⟨hp, g, d, tk, os⟩ := s
    obtain ⟨hl, h⟩ := h
    have f1 := AutoSeq1.idx_int
    wp_walk using wpAny_loadPart' hl
    repeat (first
      | (refine wpAny_ite_false (by decide) ?_; wp_walk using wpAny_loadPart' hl)
      | (refine wpAny_ite_true (by simp) ?_; wp_walk using wpAny_loadPart' hl))
    exact ⟨_, rfl, h⟩
def rRep1 (K : PySem.W.Frag) : R2 := fun x y H Q => ∃ l xs, x = .ref l ∧ y = .int 1 ∧ SqT K H l xs ∧ Q (.ref l) H
theorem op_rep1 : OpR X (binaryOp .Mult) (rRep1 X.K) := by
  intro pins s σ H x y v u Q I rx ry h
  obtain ⟨l, xs, rfl, rfl, hT, q⟩ := h
  cases rx
  obtain ⟨t, rfl⟩ := ry
  obtain ⟨its, r, ⟨⟨cls, dd, data, sl⟩, ho, hc, n, hd⟩, hs⟩ := I.tuple hT
  simp only at hc hd
  subst hc hd
  refine wpAny_binaryOp_repeat_ref (T := "tuple") (U := "int") (by decide) ⟨_, ho, rfl⟩ (fun s' => typeIs_int s' 1 t) noFill_tuple_mul F.fills_int_mul F.slot_int_rmul repeat_tuple F.slot_int_index.lookup
    (call_meets F.slot_int_rmul (typeIs_int s 1 t) F.entry_int_rmul (F.args_int_rmul_2 _ _) (int_rmul_tuple 1 t l its.toArray n dd sl)
      ⟨ho, rfl, ⟨_, ho, rfl⟩, call_meets F.slot_tuple_mul ⟨_, ho, rfl⟩ F.entry_tuple_mul (F.args_tuple_mul_2 _ _) (tuple_mul1 l its.toArray n dd sl t) ⟨ho, ?_⟩⟩)
  exact ⟨.ref l, H, I, rfl, q⟩
theorem repL_one {α : Type} (xs : List α) : repL xs 1 = xs := by simp [repL]
theorem opd_mul {m : Bool} : OpR X (binaryOp .Mult) (r2 X.K (mulD m)) := by
  refine OpR.imp ((op_mul.or op_rep).or (op_repT.or op_rep1)) fun x y H Q h => ?_
  obtain ⟨ρ, S, a, b, st, ra, rb, q⟩ := h
  rcases mul_ways q with ⟨i, j, rfl, rfl, hz, q⟩ | ⟨xs, k, rfl, rfl, hn, hl, h1, h2, q⟩ | ⟨xs, k, e1, rfl, hz, h1, h2, q⟩
  · cases ra; cases rb
    refine .inl (.inl ⟨i, j, rfl, rfl, ?_, q.here st rfl⟩)
    rcases Bool.or_eq_true_iff.mp hz with e | e
    · exact .inl (lim64_ok e)
    · exact .inr (lim64_ok e)
  · obtain ⟨a, vs, rfl, h3, h4⟩ := ra
    cases rb
    have l1 := h4.length
    by_cases hk : k = 1
    · subst hk
      refine .inr (.inr ⟨a, vs, rfl, rfl, tup_sq h3, q.here st ⟨a, vs, rfl, h3, ?_⟩⟩)
      show RVs X.K ρ H (repL xs 1) vs
      rw [repL_one]
      exact h4
    · refine .inr (.inl ⟨a, k, vs, rfl, rfl, tup_sq h3, ?_, by omega, h2, by omega, q.newT st (h4.rep _)⟩)
      intro e
      subst e
      apply hn
      cases xs with
      | nil => rfl
      | cons => simp at l1
  · obtain ⟨a, vs, rfl, h3, h4⟩ := seqL_ok st ra e1
    cases rb
    have l1 := h4.length
    rw [sizeMax_eq] at hz
    exact .inl (.inr ⟨a, k, vs, rfl, rfl, h3, h1, h2, by rw [l1]; exact hz, q.newL st (h4.rep _)⟩)

/-! ### == of plain data -/
mutual
def toPy : D → PyData
  | .non => .none
  | .bl b => .bool b
  | .int i => .int i
  | .str s => .str (toStr s)
  | .tup xs => .tuple (toPys xs)
  | .lst xs => .list (toPys xs)
  | .frz xs => .list (toPys xs)
  | .ref _ => .none
def toPys : List D → List PyData
  | [] => []
  | x :: r => toPy x :: toPys r
end
mutual
theorem toPy_dp (st : StR K ρ S H) : ∀ (d : D) (v : V), pureD d = true → RV K ρ H d v → Dp K H v (toPy d)
  | .non, v, _, h => by cases h; exact .non
  | .bl b, v, _, h => by cases h; exact .bl b
  | .int i, v, _, h => by cases h; exact .int i
  | .str s, v, _, h => by obtain ⟨rfl, _⟩ := h; exact .str _
  | .tup xs, v, p, h => by
    obtain ⟨a, vs, rfl, h1, h2⟩ := h
    exact .tup (tup_sq h1) (toPys_dp st xs vs p h2)
  | .lst xs, v, p, h => by
    obtain ⟨a, vs, rfl, h1, h2⟩ := h
    exact .lst (SqL.of h1.1) (toPys_dp st xs vs p h2)
  | .frz xs, v, p, h => by cases p
  | .ref n, v, p, h => by cases p
theorem toPys_dp (st : StR K ρ S H) : ∀ (ds : List D) (vs : List V), pureDs ds = true → RVs K ρ H ds vs → DpAll K H vs (toPys ds)
  | [], vs, _, h => by cases (show vs = [] from h); exact .nil
  | x :: r, vs, p, h => by
    obtain ⟨v, t, rfl, h1, h2⟩ := h
    obtain ⟨p1, p2⟩ := Bool.and_eq_true_iff.mp p
    exact .cons (toPy_dp st x v p1 h1) (toPys_dp st r t p2 h2)
end
mutual
theorem toPy_plain : ∀ d : D, (toPy d).plain = true
  | .non => rfl
  | .bl _ => rfl
  | .int _ => rfl
  | .str _ => rfl
  | .tup xs => toPys_plain xs
  | .lst xs => toPys_plain xs
  | .frz xs => toPys_plain xs
  | .ref _ => rfl
theorem toPys_plain : ∀ ds : List D, PyData.plainAll (toPys ds) = true
  | [] => rfl
  | x :: r => by
    show ((toPy x).plain && PyData.plainAll (toPys r)) = true
    rw [toPy_plain x, toPys_plain r]
    rfl
end
mutual
theorem dle_depth : ∀ (n : Nat) (d : D), dle n d = true → (toPy d).depth ≤ n
  | n, .non, _ => Nat.zero_le _
  | n, .bl _, _ => Nat.zero_le _
  | n, .int _, _ => Nat.zero_le _
  | n, .str _, _ => Nat.zero_le _
  | 0, .tup xs, h => by cases h
  | n + 1, .tup xs, h => by
    have := dles_depth n xs h
    show PyData.depthAll (toPys xs) + 1 ≤ n + 1
    omega
  | 0, .lst xs, h => by cases h
  | n + 1, .lst xs, h => by
    have := dles_depth n xs h
    show PyData.depthAll (toPys xs) + 1 ≤ n + 1
    omega
  | n, .frz xs, h => by cases h
  | n, .ref _, h => by cases h
theorem dles_depth : ∀ (n : Nat) (ds : List D), dles n ds = true → PyData.depthAll (toPys ds) ≤ n
  | n, [], _ => Nat.zero_le _
  | n, x :: r, h => by
    obtain ⟨p1, p2⟩ := Bool.and_eq_true_iff.mp h
    have h1 := dle_depth n x p1
    have h2 := dles_depth n r p2
    show max (toPy x).depth (PyData.depthAll (toPys r)) ≤ n
    omega
end
theorem str_beq (s t : List Nat) : (toStr s == toStr t) = (s == t) := by
  by_cases h : s = t
  · subst h; simp
  · have h' : toStr s ≠ toStr t := fun e => h (by simpa using congrArg (fun z : Str => z.cps.toList) e)
    rw [beq_eq_false_iff_ne.mpr h, beq_eq_false_iff_ne.mpr h']
mutual
theorem deq_eqv : ∀ (d e : D), pureD d = true → pureD e = true → deq d e = PyData.eqv (toPy d) (toPy e)
  | .non, .non, _, _ => rfl
  | .non, .bl _, _, _ => rfl
  | .non, .int _, _, _ => rfl
  | .non, .str _, _, _ => rfl
  | .non, .tup _, _, _ => rfl
  | .non, .lst _, _, _ => rfl
  | .bl _, .non, _, _ => rfl
  | .bl _, .bl _, _, _ => rfl
  | .bl _, .int _, _, _ => rfl
  | .bl _, .str _, _, _ => rfl
  | .bl _, .tup _, _, _ => rfl
  | .bl _, .lst _, _, _ => rfl
  | .int _, .non, _, _ => rfl
  | .int _, .bl _, _, _ => rfl
  | .int _, .int _, _, _ => rfl
  | .int _, .str _, _, _ => rfl
  | .int _, .tup _, _, _ => rfl
  | .int _, .lst _, _, _ => rfl
  | .str _, .non, _, _ => rfl
  | .str _, .bl _, _, _ => rfl
  | .str _, .int _, _, _ => rfl
  | .str s, .str t, _, _ => (str_beq s t).symm
  | .str _, .tup _, _, _ => rfl
  | .str _, .lst _, _, _ => rfl
  | .tup _, .non, _, _ => rfl
  | .tup _, .bl _, _, _ => rfl
  | .tup _, .int _, _, _ => rfl
  | .tup _, .str _, _, _ => rfl
  | .tup xs, .tup ys, p, q => deqs_eqv xs ys p q
  | .tup _, .lst _, _, _ => rfl
  | .lst _, .non, _, _ => rfl
  | .lst _, .bl _, _, _ => rfl
  | .lst _, .int _, _, _ => rfl
  | .lst _, .str _, _, _ => rfl
  | .lst _, .tup _, _, _ => rfl
  | .lst xs, .lst ys, p, q => deqs_eqv xs ys p q
  | .frz _, _, p, _ => by cases p
  | .ref _, _, p, _ => by cases p
  | .non, .frz _, _, q => by cases q
  | .non, .ref _, _, q => by cases q
  | .bl _, .frz _, _, q => by cases q
  | .bl _, .ref _, _, q => by cases q
  | .int _, .frz _, _, q => by cases q
  | .int _, .ref _, _, q => by cases q
  | .str _, .frz _, _, q => by cases q
  | .str _, .ref _, _, q => by cases q
  | .tup _, .frz _, _, q => by cases q
  | .tup _, .ref _, _, q => by cases q
  | .lst _, .frz _, _, q => by cases q
  | .lst _, .ref _, _, q => by cases q
theorem deqs_eqv : ∀ (ds es : List D), pureDs ds = true → pureDs es = true → deqs ds es = PyData.eqvAll (toPys ds) (toPys es)
  | [], [], _, _ => rfl
  | [], _ :: _, _, _ => rfl
  | _ :: _, [], _, _ => rfl
  | x :: r, y :: t, p, q => by
    obtain ⟨p1, p2⟩ := Bool.and_eq_true_iff.mp p
    obtain ⟨q1, q2⟩ := Bool.and_eq_true_iff.mp q
    show (deq x y && deqs r t) = (PyData.eqv (toPy x) (toPy y) && PyData.eqvAll (toPys r) (toPys t))
    rw [deq_eqv x y p1 q1, deqs_eqv r t p2 q2]
end
theorem now_dp (st : StR K ρ S H) {d d' : D} {v : V} (e : now S d = some d') (r : RV K ρ H d v) : Dp K H v (toPy d') ∧ pureD d' = true := by
  cases d with
  | ref n =>
    unfold now at e
    dsimp only at e
    split at e
    · rename_i xs hx
      split at e
      · rename_i hp
        cases e
        obtain ⟨a, rfl, h1⟩ := r
        obtain ⟨a', vs, h2, h3, h4⟩ := st.at_ n xs hx
        rw [h1] at h2; cases h2
        exact ⟨.lst (SqL.of h3) (toPys_dp st xs vs hp h4), hp⟩
      · cases e
    · cases e
  | frz xs => simp [now, pureD] at e
  | non => simp [now, pureD] at e; subst e; exact ⟨toPy_dp st _ v rfl r, rfl⟩
  | bl b => simp [now, pureD] at e; subst e; exact ⟨toPy_dp st _ v rfl r, rfl⟩
  | int i => simp [now, pureD] at e; subst e; exact ⟨toPy_dp st _ v rfl r, rfl⟩
  | str s => simp [now, pureD] at e; subst e; exact ⟨toPy_dp st _ v rfl r, rfl⟩
  | tup xs =>
    simp only [now] at e
    split at e
    · rename_i hp; cases e; exact ⟨toPy_dp st _ v hp r, hp⟩
    · cases e
  | lst xs =>
    simp only [now] at e
    split at e
    · rename_i hp; cases e; exact ⟨toPy_dp st _ v hp r, hp⟩
    · cases e
def rEqP (K : PySem.W.Frag) : R2 := fun x y H Q => ∃ d e, Dp K H x d ∧ Dp K H y e ∧ d.plain = true ∧ e.plain = true ∧ min d.depth e.depth ≤ 100 ∧ Q (.bl (PyData.eqv d e)) H
def rNeP (K : PySem.W.Frag) : R2 := fun x y H Q => ∃ d e, Dp K H x d ∧ Dp K H y e ∧ d.plain = true ∧ e.plain = true ∧ min d.depth e.depth ≤ 100 ∧ Q (.bl (!PyData.eqv d e)) H
theorem op_eqP (hu : X.A.units + 110 < cLine) : OpR X (compareOp .Eq) (rEqP X.K) := by
  intro pins s σ H x y v u Q I rx ry h
  obtain ⟨d, e, hd, he, sd, se, hm, q⟩ := h
  obtain ⟨as, r1⟩ := Dp.reads I d x v hd rx
  obtain ⟨bs, r2⟩ := Dp.reads I e y u he ry
  exact SeqAt.eq_plain r1 r2 sd se (by omega) ⟨.bl _, H, I, rfl, q⟩
theorem op_neP (hu : X.A.units + 110 < cLine) : OpR X (compareOp .NotEq) (rNeP X.K) := by
  intro pins s σ H x y v u Q I rx ry h
  obtain ⟨d, e, hd, he, sd, se, hm, q⟩ := h
  obtain ⟨as, r1⟩ := Dp.reads I d x v hd rx
  obtain ⟨bs, r2⟩ := Dp.reads I e y u he ry
  exact SeqAt.ne_plain r1 r2 sd se (by omega) ⟨.bl _, H, I, rfl, q⟩
theorem near_ok {a b : D} (h : near a b = true) : min (toPy a).depth (toPy b).depth ≤ 100 := by
  rcases Bool.or_eq_true_iff.mp h with e | e
  · have := dle_depth _ _ e; omega
  · have := dle_depth _ _ e; omega
theorem cmp_out {op : Cop} (h : OutV K (cmpD op a b S) ρ H Q) : ∃ k, cmpB op a b S = some k ∧ OutV K (.ok (.bl k) S) ρ H Q := by
  unfold cmpD at h
  split at h
  · rename_i k e; exact ⟨k, e, h⟩
  · exact h.elim
theorem opd_eq (hu : X.A.units + 110 < cLine) : OpR X (compareOp .Eq) (r2 X.K (cmpD .eq)) := by
  refine OpR.imp (op_eqP hu) fun x y H Q h => ?_
  obtain ⟨ρ, S, a, b, st, ra, rb, q⟩ := h
  obtain ⟨k, e, q⟩ := cmp_out q
  unfold cmpB at e
  dsimp only at e
  split at e
  · rename_i a' b' e1 e2
    split at e
    · rename_i hn
      cases e
      obtain ⟨d1, p1⟩ := now_dp st e1 ra
      obtain ⟨d2, p2⟩ := now_dp st e2 rb
      exact ⟨_, _, d1, d2, toPy_plain _, toPy_plain _, near_ok hn, q.here st (by rw [deq_eqv _ _ p1 p2]; rfl)⟩
    · cases e
  · cases e
theorem opd_ne (hu : X.A.units + 110 < cLine) : OpR X (compareOp .NotEq) (r2 X.K (cmpD .ne)) := by
  refine OpR.imp (op_neP hu) fun x y H Q h => ?_
  obtain ⟨ρ, S, a, b, st, ra, rb, q⟩ := h
  obtain ⟨k, e, q⟩ := cmp_out q
  unfold cmpB at e
  dsimp only at e
  split at e
  · rename_i a' b' e1 e2
    split at e
    · rename_i hn
      cases e
      obtain ⟨d1, p1⟩ := now_dp st e1 ra
      obtain ⟨d2, p2⟩ := now_dp st e2 rb
      exact ⟨_, _, d1, d2, toPy_plain _, toPy_plain _, near_ok hn, q.here st (by rw [deq_eqv _ _ p1 p2]; rfl)⟩
    · cases e
  · cases e
end
end Nv

end

section
set_option linter.all false
set_option maxRecDepth 100000
set_option maxHeartbeats 1000000
/-! Nv3: more operations by values: order, is, in, truth, places, slices, built-ins, methods. -/
namespace Nv
open PySem PySem.Spec PyProof.Rows L2
section
variable {K : PySem.W.Frag} {ρ : Rh} {H : Hp} {Q : VK} {S : Sto} {a b : D} {x y : V} {X : Cx}

theorem opd_lt : OpR X (compareOp .Lt) (r2 X.K (cmpD .lt)) := by
  refine OpR.imp op_lt fun x y H Q h => ?_
  obtain ⟨ρ, S, a, b, st, ra, rb, q⟩ := h
  obtain ⟨k, e, q⟩ := cmp_out q
  unfold cmpB at e
  dsimp only at e
  split at e
  · cases ra; cases rb; cases e
    exact ⟨_, _, rfl, rfl, q.here st rfl⟩
  · cases e
theorem opd_le : OpR X (compareOp .LtE) (r2 X.K (cmpD .le)) := by
  refine OpR.imp op_le fun x y H Q h => ?_
  obtain ⟨ρ, S, a, b, st, ra, rb, q⟩ := h
  obtain ⟨k, e, q⟩ := cmp_out q
  unfold cmpB at e
  dsimp only at e
  split at e
  · cases ra; cases rb; cases e
    exact ⟨_, _, rfl, rfl, q.here st rfl⟩
  · cases e
theorem opd_gt : OpR X (compareOp .Gt) (r2 X.K (cmpD .gt)) := by
  refine OpR.imp op_gt fun x y H Q h => ?_
  obtain ⟨ρ, S, a, b, st, ra, rb, q⟩ := h
  obtain ⟨k, e, q⟩ := cmp_out q
  unfold cmpB at e
  dsimp only at e
  split at e
  · cases ra; cases rb; cases e
    exact ⟨_, _, rfl, rfl, q.here st rfl⟩
  · cases e
theorem opd_ge : OpR X (compareOp .GtE) (r2 X.K (cmpD .ge)) := by
  refine OpR.imp op_ge fun x y H Q h => ?_
  obtain ⟨ρ, S, a, b, st, ra, rb, q⟩ := h
  obtain ⟨k, e, q⟩ := cmp_out q
  unfold cmpB at e
  dsimp only at e
  split at e
  · cases ra; cases rb; cases e
    exact ⟨_, _, rfl, rfl, q.here st rfl⟩
  · cases e
theorem isB_gen {M : Model} {A : Around} {E : Value → Shared → Prop} {s : Shared} {v : Value} {x : V} {k : Bool} {Q : Value → Shared → Prop} (r : RelV x v) (h : Q (.bool (v == .bool k)) s) : wpAny M A (compareOp .Is v (.bool k)) Q E s := by
  cases x with
  | non => cases r; exact wpAny_pure h
  | bl _ => cases r; exact wpAny_pure h
  | int _ => obtain ⟨t, rfl⟩ := r; exact wpAny_pure h
  | str _ => obtain ⟨t, rfl⟩ := r; exact wpAny_pure h
  | byt _ => obtain ⟨t, rfl⟩ := r; exact wpAny_pure h
  | flt _ => obtain ⟨t, rfl⟩ := r; exact wpAny_pure h
  | ref _ => cases r; exact wpAny_pure h
  | ty _ => cases r; exact wpAny_pure h
theorem isntB_gen {M : Model} {A : Around} {E : Value → Shared → Prop} {s : Shared} {v : Value} {x : V} {k : Bool} {Q : Value → Shared → Prop} (r : RelV x v) (h : Q (.bool (!(v == .bool k))) s) : wpAny M A (compareOp .IsNot v (.bool k)) Q E s := by
  cases x with
  | non => cases r; exact wpAny_pure h
  | bl _ => cases r; exact wpAny_pure h
  | int _ => obtain ⟨t, rfl⟩ := r; exact wpAny_pure h
  | str _ => obtain ⟨t, rfl⟩ := r; exact wpAny_pure h
  | byt _ => obtain ⟨t, rfl⟩ := r; exact wpAny_pure h
  | flt _ => obtain ⟨t, rfl⟩ := r; exact wpAny_pure h
  | ref _ => cases r; exact wpAny_pure h
  | ty _ => cases r; exact wpAny_pure h
/-- is None, True, False of whatever value -/
theorem relV_bl {x : V} {v : Value} (r : RelV x v) (k : Bool) : (v == Value.bool k) = decide (x = .bl k) := by
  cases x with
  | non => cases r; rfl
  | bl b =>
    cases r
    cases b <;> cases k <;> rfl
  | int _ => obtain ⟨t, rfl⟩ := r; rfl
  | str _ => obtain ⟨t, rfl⟩ := r; rfl
  | byt _ => obtain ⟨t, rfl⟩ := r; rfl
  | flt _ => obtain ⟨t, rfl⟩ := r; rfl
  | ref _ => cases r; rfl
  | ty _ => cases r; rfl
theorem op_isBA : OpR X (compareOp .Is) (fun x y H Q => ∃ k, y = .bl k ∧ Q (.bl (decide (x = .bl k))) H) := by
  intro pins s σ H x y v u Q I rx ry h
  obtain ⟨k, rfl, q⟩ := h
  cases (show u = Value.bool k from ry)
  exact isB_gen rx ⟨.bl _, H, I, by rw [relV_bl rx]; rfl, q⟩
theorem op_isntBA : OpR X (compareOp .IsNot) (fun x y H Q => ∃ k, y = .bl k ∧ Q (.bl (!decide (x = .bl k))) H) := by
  intro pins s σ H x y v u Q I rx ry h
  obtain ⟨k, rfl, q⟩ := h
  cases (show u = Value.bool k from ry)
  exact isntB_gen rx ⟨.bl _, H, I, by rw [relV_bl rx]; rfl, q⟩
theorem rv_non (r : RV K ρ H a x) : decide (x = .non) = isNon a := by
  cases a with
  | non => cases r; rfl
  | bl _ => cases r; rfl
  | int _ => cases r; rfl
  | str _ => obtain ⟨rfl, _⟩ := r; rfl
  | tup _ => obtain ⟨_, _, rfl, _⟩ := r; rfl
  | lst _ => obtain ⟨_, _, rfl, _⟩ := r; rfl
  | frz _ => obtain ⟨_, _, rfl, _⟩ := r; rfl
  | ref _ => obtain ⟨_, rfl, _⟩ := r; rfl
theorem rv_bl (r : RV K ρ H a x) (k : Bool) : decide (x = .bl k) = isBl k a := by
  cases a with
  | non => cases r; rfl
  | bl b => cases r; cases b <;> cases k <;> rfl
  | int _ => cases r; rfl
  | str _ => obtain ⟨rfl, _⟩ := r; rfl
  | tup _ => obtain ⟨_, _, rfl, _⟩ := r; rfl
  | lst _ => obtain ⟨_, _, rfl, _⟩ := r; rfl
  | frz _ => obtain ⟨_, _, rfl, _⟩ := r; rfl
  | ref _ => obtain ⟨_, rfl, _⟩ := r; rfl
theorem opd_isN : OpR X (compareOp .Is) (r2 X.K (cmpD .isN)) := by
  refine OpR.imp op_isN fun x y H Q h => ?_
  obtain ⟨ρ, S, a, b, st, ra, rb, q⟩ := h
  obtain ⟨k, e, q⟩ := cmp_out q
  unfold cmpB at e
  dsimp only at e
  split at e
  · cases rb
    refine ⟨rfl, ?_⟩
    rw [rv_non ra]
    cases e
    exact q.here st rfl
  · cases e
theorem opd_isntN : OpR X (compareOp .IsNot) (r2 X.K (cmpD .isntN)) := by
  refine OpR.imp op_notN fun x y H Q h => ?_
  obtain ⟨ρ, S, a, b, st, ra, rb, q⟩ := h
  obtain ⟨k, e, q⟩ := cmp_out q
  unfold cmpB at e
  dsimp only at e
  split at e
  · cases rb
    refine ⟨rfl, ?_⟩
    rw [rv_non ra]
    cases e
    exact q.here st rfl
  · cases e
theorem opd_isB : OpR X (compareOp .Is) (r2 X.K (cmpD .isB)) := by
  refine OpR.imp op_isBA fun x y H Q h => ?_
  obtain ⟨ρ, S, a, b, st, ra, rb, q⟩ := h
  obtain ⟨k, e, q⟩ := cmp_out q
  unfold cmpB at e
  dsimp only at e
  split at e
  · cases rb
    refine ⟨_, rfl, ?_⟩
    rw [rv_bl ra]
    cases e
    exact q.here st rfl
  · cases e
theorem opd_isntB : OpR X (compareOp .IsNot) (r2 X.K (cmpD .isntB)) := by
  refine OpR.imp op_isntBA fun x y H Q h => ?_
  obtain ⟨ρ, S, a, b, st, ra, rb, q⟩ := h
  obtain ⟨k, e, q⟩ := cmp_out q
  unfold cmpB at e
  dsimp only at e
  split at e
  · cases rb
    refine ⟨_, rfl, ?_⟩
    rw [rv_bl ra]
    cases e
    exact q.here st rfl
  · cases e

/-! ### in -/
theorem memD_any {x : D} (hx : pureD x = true) : ∀ ys : List D, pureDs ys = true → memD x ys = (toPys ys).any fun z => PyData.eqv z (toPy x)
  | [], _ => rfl
  | y :: r, h => by
    obtain ⟨p1, p2⟩ := Bool.and_eq_true_iff.mp h
    show (deq y x || memD x r) = (PyData.eqv (toPy y) (toPy x) || (toPys r).any fun z => PyData.eqv z (toPy x))
    rw [deq_eqv y x p1 hx, memD_any hx r p2]
def rInP (K : PySem.W.Frag) (neg : Bool) : R2 := fun x y H Q => ∃ d ds, Dp K H x d ∧ (Dp K H y (.list ds) ∨ Dp K H y (.tuple ds)) ∧ d.plain = true ∧ PyData.plainAll ds = true ∧ d.depth ≤ 100 ∧ Q (.bl (if neg then !(ds.any fun z => PyData.eqv z d) else ds.any fun z => PyData.eqv z d)) H
theorem op_inP (hu : X.A.units + 110 < cLine) : OpR X (compareOp .In) (rInP X.K false) := by
  intro pins s σ H x y v u Q I rx ry h
  obtain ⟨d, ds, hd, he, sd, se, hm, q⟩ := h
  obtain ⟨as, r1⟩ := Dp.reads I d x v hd rx
  rcases he with he | he
  · obtain ⟨bs, r2⟩ := Dp.reads I _ y u he ry
    exact SeqAt.in_list_data r2 r1 se sd (by omega) ⟨.bl _, H, I, rfl, q⟩
  · obtain ⟨bs, r2⟩ := Dp.reads I _ y u he ry
    exact SeqAt.in_tuple_data r2 r1 se sd (by omega) ⟨.bl _, H, I, rfl, q⟩
theorem op_notInP (hu : X.A.units + 110 < cLine) : OpR X (compareOp .NotIn) (rInP X.K true) := by
  intro pins s σ H x y v u Q I rx ry h
  obtain ⟨d, ds, hd, he, sd, se, hm, q⟩ := h
  obtain ⟨as, r1⟩ := Dp.reads I d x v hd rx
  rcases he with he | he
  · obtain ⟨bs, r2⟩ := Dp.reads I _ y u he ry
    exact SeqAt.notIn_list_data r2 r1 se sd (by omega) ⟨.bl _, H, I, rfl, q⟩
  · obtain ⟨bs, r2⟩ := Dp.reads I _ y u he ry
    exact SeqAt.notIn_tuple_data r2 r1 se sd (by omega) ⟨.bl _, H, I, rfl, q⟩
theorem seq_dp (st : StR K ρ S H) {ys : List D} (e : seqOf S b = some ys) (p : pureDs ys = true) (r : RV K ρ H b y) : Dp K H y (.list (toPys ys)) ∨ Dp K H y (.tuple (toPys ys)) := by
  obtain ⟨p1, vs, rfl, h1, h2⟩ := seqOf_ok st r e
  rcases h1 with h1 | h1
  · exact .inl (.lst h1 (toPys_dp st ys vs p h2))
  · exact .inr (.tup h1 (toPys_dp st ys vs p h2))
theorem in_ways {k : Bool} (h : inD a b S = some k) : (∃ q t, a = .str [q] ∧ b = .str t ∧ k = decide (q ∈ t)) ∨ (∃ ys, dle 100 a = true ∧ pureD a = true ∧ seqOf S b = some ys ∧ pureDs ys = true ∧ k = memD a ys) := by
  unfold inD at h
  split at h
  · cases h; exact .inl ⟨_, _, rfl, rfl, rfl⟩
  · split at h
    · rename_i hc
      obtain ⟨c1, c2⟩ := Bool.and_eq_true_iff.mp hc
      split at h
      · rename_i ys e
        split at h
        · rename_i hp
          cases h
          exact .inr ⟨ys, c1, c2, e, hp, rfl⟩
        · cases h
      · cases h
    · cases h
theorem opd_in (hu : X.A.units + 110 < cLine) : OpR X (compareOp .In) (r2 X.K (cmpD .isin)) := by
  refine OpR.imp (op_in_sign.or (op_inP hu)) fun x y H Q h => ?_
  obtain ⟨ρ, S, a, b, st, ra, rb, q⟩ := h
  obtain ⟨k, e, q⟩ := cmp_out q
  rcases in_ways e with ⟨c, t, rfl, rfl, rfl⟩ | ⟨ys, h1, h2, h3, h4, rfl⟩
  · obtain ⟨rfl, _⟩ := ra
    obtain ⟨rfl, _⟩ := rb
    exact .inl ⟨c, _, rfl, rfl, q.here st (by simp [RV])⟩
  · exact .inr ⟨_, _, toPy_dp st a x h2 ra, seq_dp st h3 h4 rb, toPy_plain _, toPys_plain _, dle_depth _ _ h1, q.here st (by rw [memD_any h2 ys h4]; rfl)⟩
theorem opd_notin (hu : X.A.units + 110 < cLine) : OpR X (compareOp .NotIn) (r2 X.K (cmpD .notin)) := by
  refine OpR.imp (op_notIn_sign.or (op_notInP hu)) fun x y H Q h => ?_
  obtain ⟨ρ, S, a, b, st, ra, rb, q⟩ := h
  obtain ⟨k', e', q⟩ := cmp_out q
  obtain ⟨k, e, rfl⟩ := Option.map_eq_some_iff.mp (show (inD a b S).map (!·) = some k' from e')
  rcases in_ways e with ⟨c, t, rfl, rfl, rfl⟩ | ⟨ys, h1, h2, h3, h4, rfl⟩
  · obtain ⟨rfl, _⟩ := ra
    obtain ⟨rfl, _⟩ := rb
    exact .inl ⟨c, _, rfl, rfl, q.here st (by simp [RV])⟩
  · exact .inr ⟨_, _, toPy_dp st a x h2 ra, seq_dp st h3 h4 rb, toPy_plain _, toPys_plain _, dle_depth _ _ h1, q.here st (by rw [memD_any h2 ys h4]; rfl)⟩

/-! ### truth -/
theorem tru_of (st : StR K ρ S H) {k : Bool} (e : truD S a = some k) (r : RV K ρ H a x) : TruV K x H k := by
  cases a with
  | non => cases r; cases e; rfl
  | bl b => cases r; cases e; rfl
  | int i => cases r; cases e; rfl
  | str s =>
    obtain ⟨rfl, hl⟩ := r
    cases e
    refine ⟨by simpa [Str.length] using hl, ?_⟩
    cases s <;> simp [Str.length] <;> omega
  | tup xs =>
    obtain ⟨a, vs, rfl, h1, h2⟩ := r
    cases e
    refine .inr (.inl ⟨vs, tup_sq h1, ?_⟩)
    have := h2.length
    cases xs <;> cases vs <;> simp at this ⊢
  | lst xs =>
    obtain ⟨a, vs, rfl, h1, h2⟩ := r
    cases e
    refine .inl ⟨vs, SqL.of h1.1, ?_⟩
    have := h2.length
    cases xs <;> cases vs <;> simp at this ⊢
  | frz xs =>
    obtain ⟨a, vs, rfl, h1, h2⟩ := r
    cases e
    refine .inl ⟨vs, (h1.elim (fun ⟨u, hu, z, _⟩ => .inl (hu.rd z)) .inr), ?_⟩
    have := h2.length
    cases xs <;> cases vs <;> simp at this ⊢
  | ref n =>
    obtain ⟨a, rfl, h1⟩ := r
    obtain ⟨xs, e1, rfl⟩ := Option.map_eq_some_iff.mp (show (S[n]?).map (fun l => !l.isEmpty) = some k from e)
    obtain ⟨a', vs, h2, h3, h4⟩ := st.at_ n xs e1
    rw [h1] at h2; cases h2
    refine .inl ⟨vs, SqL.of h3, ?_⟩
    have := h4.length
    cases xs <;> cases vs <;> simp at this ⊢

/-! ### places -/
theorem ixN_same (n : Nat) (i : Int) : Nv.ixN n i = L2.ixN n i := rfl
theorem atI_rv {xs : List D} {vs : List V} {i : Int} {d : D} (r : RVs K ρ H xs vs) (e : Nv.atI xs i = some d) : ∃ v, L2.atI vs i = some v ∧ RV K ρ H d v := by
  unfold Nv.atI at e
  unfold L2.atI
  rw [ixN_same] at e
  rw [r.length]
  cases q : L2.ixN xs.length i with
  | none => rw [q] at e; cases e
  | some j =>
    rw [q] at e
    exact r.get e
theorem opd_ix : IxR X (r2 X.K ixD) := by
  refine IxR.imp ix_seq fun x y H Q h => ?_
  obtain ⟨ρ, S, a, b, st, ra, rb, q⟩ := h
  unfold ixD at q
  split at q
  · cases rb
    split at q
    · obtain ⟨rfl, hl⟩ := ra
      split at q
      · rename_i c e
        have e' : L2.atI _ _ = some c := e
        refine .inr (.inr ⟨_, _, c, rfl, rfl, by simpa [Str.length] using hl, ?_, q.here st ⟨rfl, by rw [sizeLine_eq]; simp⟩⟩)
        simpa using e'
      · exact q.elim
    · split at q
      · rename_i xs e
        split at q
        · rename_i d e2
          obtain ⟨p, vs, rfl, h1, h2⟩ := seqOf_ok st ra e
          obtain ⟨v, e3, rv⟩ := atI_rv h2 e2
          rcases h1 with h1 | h1
          · exact .inl ⟨p, vs, _, v, rfl, rfl, h1, e3, q.here st rv⟩
          · exact .inr (.inl ⟨p, vs, _, v, rfl, rfl, h1, e3, q.here st rv⟩)
        · exact q.elim
      · exact q.elim
  · exact q.elim

/-! ### slices -/
def rSl3 (K : PySem.W.Frag) (m : Bool) : V → Option Int → Option Int → Hp → VK → Prop := fun x lo hi H Q => ∃ ρ S a, StR K ρ S H ∧ RV K ρ H a x ∧ OutV K (slD m a lo hi S) ρ H Q
theorem cutS_eq (s : List Nat) (lo hi : Option Int) : cutS (toStr s) lo hi = toStr (cutD s lo hi) := by
  have e : ∀ (n d : Nat) (o : Option Int), sIx n d o = HT.sIx n d o := fun n d o => by cases o <;> rfl
  unfold cutS cutD
  simp [e, Str.length]
theorem opd_sl {m : Bool} : SlR X (rSl3 X.K m) := by
  refine SlR.imp ((sl_str.or sl_tupA).or sl_list) fun x lo hi H Q h => ?_
  obtain ⟨ρ, S, a, st, ra, q⟩ := h
  unfold slD at q
  split at q
  · obtain ⟨rfl, hl⟩ := ra
    refine .inl (.inl ⟨_, rfl, by simpa [Str.length] using hl, ?_⟩)
    rw [cutS_eq]
    refine q.here st ⟨rfl, ?_⟩
    unfold cutD
    simp only [List.length_take, List.length_drop]
    omega
  · obtain ⟨a, vs, rfl, h1, h2⟩ := ra
    refine .inl (.inr ⟨a, vs, rfl, tup_sq h1, fun e => ?_, fun _ => q.newT st (h2.cut lo hi)⟩)
    refine q.here st ⟨a, vs, rfl, h1, ?_⟩
    have e2 : cutV vs lo hi = vs := by
      unfold cutV
      rw [e.1, e.2]
      simp
    have := h2.cut lo hi
    rw [e2] at this
    exact this
  · split at q
    · rename_i xs e
      obtain ⟨a, vs, rfl, h1, h2⟩ := seqL_ok st ra e
      exact .inr ⟨a, vs, rfl, SqL.of h1, q.newL st (h2.cut lo hi)⟩
    · exact q.elim

/-! ### isinstance -/
def tyName : Ty → String
  | .int => "int"
  | .bool => "bool"
  | .str => "str"
  | .tuple => "tuple"
  | .list => "list"
def tyD : D → String
  | .non => "NoneType"
  | .bl _ => "bool"
  | .int _ => "int"
  | .str _ => "str"
  | .tup _ => "tuple"
  | .lst _ => "list"
  | .frz _ => "list"
  | .ref _ => "list"
def isiS (a b : String) : Bool := a == b || (a == "bool" && b == "int")
theorem kit_tab : ∀ a ∈ ["NoneType", "bool", "int", "str", "tuple", "list"], ∀ b ∈ ["int", "bool", "str", "tuple", "list"], kitB a b = some (isiS a b) := by decide +kernel
theorem kit_t (a : D) (t : Ty) : PySem.W.kitOne K (.type (tyD a)) (.type (tyName t)) = some (isiD a t) := by
  have e : isiS (tyD a) (tyName t) = isiD a t := by cases a <;> cases t <;> simp [isiS, tyD, tyName, isiD]
  rw [← e]
  exact kit_ty (kit_tab _ (by cases a <;> simp [tyD]) _ (by cases t <;> simp [tyName]))
theorem tyX_of (st : StR K ρ S H) (r : RV K ρ H a x) : TyX K H x (.type (tyD a)) := by
  cases a with
  | non => cases r; exact .base .non
  | bl b => cases r; exact .base (.bl b)
  | int i => cases r; exact .base (.int i)
  | str s => obtain ⟨rfl, _⟩ := r; exact .base (.str _)
  | tup xs =>
    obtain ⟨a, vs, rfl, h1, h2⟩ := r
    rcases h1 with h1 | ⟨o, its, n, h1, h3, _⟩
    · exact .base (.tup h1.1)
    · exact .kTuple h1 h3
  | lst xs => obtain ⟨a, vs, rfl, h1, h2⟩ := r; exact .base (.lst h1.1)
  | frz xs =>
    obtain ⟨a, vs, rfl, h1, h2⟩ := r
    rcases h1 with ⟨u, hu, h1, _⟩ | ⟨o, its, n, h1, h3, _⟩
    · rcases hu with rfl | ⟨o, rfl⟩
      · exact .base (.lst h1)
      · exact .base (.frz h1)
    · exact .kList h1 h3
  | ref n =>
    obtain ⟨a, rfl, h1⟩ := r
    obtain ⟨vs, h⟩ := st.ne a (List.mem_of_getElem? h1)
    exact .base (.lst h)
def rIsi3 (K : PySem.W.Frag) (t : Ty) : List V → Hp → VK → Prop := fun xs H Q => ∃ ρ S a x, xs = [x, .ty (tyName t)] ∧ StR K ρ S H ∧ RV K ρ H a x ∧ OutV K (.ok (.bl (isiD a t)) S) ρ H Q
theorem opd_isi {t : Ty} : CallR X (.builtin "isinstance") (rIsi3 X.K t) := by
  refine CallR.imp call_isi fun xs H Q h => ?_
  obtain ⟨ρ, S, a, x, rfl, st, ra, q⟩ := h
  exact ⟨x, _, _, _, _, rfl, .ty _, tyX_of st ra, kit_t a t, q.here st rfl⟩

/-! ### built-ins -/
theorem ints_rv : ∀ {xs : List D} {ns : List Int} {vs : List V}, intsD xs = some ns → RVs K ρ H xs vs → vs = ns.map V.int
  | [], ns, vs, e, r => by cases e; cases (show vs = [] from r); rfl
  | .int i :: r, ns, vs, e, h => by
    obtain ⟨v, t, rfl, h1, h2⟩ := h
    obtain ⟨ms, e1, rfl⟩ := Option.map_eq_some_iff.mp (show (intsD r).map (i :: ·) = some ns from e)
    cases h1
    rw [ints_rv e1 h2]
    rfl
  | .non :: _, _, _, e, _ => by cases e
  | .bl _ :: _, _, _, e, _ => by cases e
  | .str _ :: _, _, _, e, _ => by cases e
  | .tup _ :: _, _, _, e, _ => by cases e
  | .lst _ :: _, _, _, e, _ => by cases e
  | .frz _ :: _, _, _, e, _ => by cases e
  | .ref _ :: _, _, _, e, _ => by cases e
theorem bls_rv : ∀ {xs : List D} {ns : List Bool} {vs : List V}, blsD xs = some ns → RVs K ρ H xs vs → vs = ns.map V.bl
  | [], ns, vs, e, r => by cases e; cases (show vs = [] from r); rfl
  | .bl i :: r, ns, vs, e, h => by
    obtain ⟨v, t, rfl, h1, h2⟩ := h
    obtain ⟨ms, e1, rfl⟩ := Option.map_eq_some_iff.mp (show (blsD r).map (i :: ·) = some ns from e)
    cases h1
    rw [bls_rv e1 h2]
    rfl
  | .non :: _, _, _, e, _ => by cases e
  | .int _ :: _, _, _, e, _ => by cases e
  | .str _ :: _, _, _, e, _ => by cases e
  | .tup _ :: _, _, _, e, _ => by cases e
  | .lst _ :: _, _, _, e, _ => by cases e
  | .frz _ :: _, _, _, e, _ => by cases e
  | .ref _ :: _, _, _, e, _ => by cases e
theorem rv_ints (ns : List Int) : RVs K ρ H (ns.map .int) (ns.map V.int) := by
  induction ns with
  | nil => exact (show ([] : List V) = [] from rfl)
  | cons n r ih => exact ⟨_, _, rfl, rfl, ih⟩
theorem insI_perm (x : Int) : ∀ l : List Int, (insI x l).Perm (x :: l)
  | [] => List.Perm.refl _
  | y :: r => by
    unfold insI
    split
    · exact List.Perm.refl _
    · exact ((insI_perm x r).cons y).trans (List.Perm.swap x y r)
theorem sortI_perm : ∀ l : List Int, (sortI l).Perm l
  | [] => List.Perm.refl _
  | x :: r => (insI_perm x _).trans ((sortI_perm r).cons x)
theorem insI_pw (x : Int) : ∀ l : List Int, l.Pairwise (· ≤ ·) → (insI x l).Pairwise (· ≤ ·)
  | [], _ => by simp [insI]
  | y :: r, h => by
    obtain ⟨h1, h2⟩ := List.pairwise_cons.mp h
    unfold insI
    split
    · rename_i hx
      refine List.pairwise_cons.mpr ⟨fun z hz => ?_, h⟩
      rcases List.mem_cons.mp hz with rfl | hz
      · exact hx
      · exact Int.le_trans hx (h1 z hz)
    · rename_i hx
      refine List.pairwise_cons.mpr ⟨fun z hz => ?_, insI_pw x r h2⟩
      rcases List.mem_cons.mp ((insI_perm x r).mem_iff.mp hz) with rfl | hz
      · omega
      · exact h1 z hz
theorem sortI_pw : ∀ l : List Int, (sortI l).Pairwise (· ≤ ·)
  | [] => List.Pairwise.nil
  | x :: r => insI_pw x _ (sortI_pw r)
theorem sorted_same {l l' : List Int} (p : l.Perm l') (h : l.Pairwise (· ≤ ·)) (h' : l'.Pairwise (· ≤ ·)) : l = l' :=
  p.eq_of_pairwise (fun a b _ _ x y => Int.le_antisymm x y) h h'
theorem maxI_spec : ∀ (x : Int) (l : List Int), (maxI x l ∈ x :: l) ∧ ∀ y ∈ x :: l, y ≤ maxI x l
  | x, [] => ⟨by simp [maxI], fun y hy => by simp at hy; subst hy; exact Int.le_refl _⟩
  | x, y :: r => by
    by_cases c : y > x
    · have e : maxI x (y :: r) = maxI y r := by show maxI (if y > x then y else x) r = _; rw [if_pos c]
      obtain ⟨h1, h2⟩ := maxI_spec y r
      rw [e]
      refine ⟨List.mem_cons_of_mem _ h1, fun z hz => ?_⟩
      rcases List.mem_cons.mp hz with rfl | hz
      · exact Int.le_trans (Int.le_of_lt c) (h2 y List.mem_cons_self)
      · exact h2 z hz
    · have e : maxI x (y :: r) = maxI x r := by show maxI (if y > x then y else x) r = _; rw [if_neg c]
      obtain ⟨h1, h2⟩ := maxI_spec x r
      rw [e]
      refine ⟨?_, fun z hz => ?_⟩
      · rcases List.mem_cons.mp h1 with q | q
        · rw [q]; exact List.mem_cons_self
        · exact List.mem_cons_of_mem _ (List.mem_cons_of_mem _ q)
      · rcases List.mem_cons.mp hz with rfl | hz
        · exact h2 _ List.mem_cons_self
        · rcases List.mem_cons.mp hz with rfl | hz
          · exact Int.le_trans (Int.not_lt.mp c) (h2 x List.mem_cons_self)
          · exact h2 z (List.mem_cons_of_mem _ hz)

theorem rvs1 {d : D} {xs : List V} (h : RVs K ρ H [d] xs) : ∃ v, xs = [v] ∧ RV K ρ H d v := by
  obtain ⟨v, t, rfl, h1, h2⟩ := h
  cases (show t = [] from h2)
  exact ⟨v, rfl, h1⟩
theorem rvs2 {d e : D} {xs : List V} (h : RVs K ρ H [d, e] xs) : ∃ v u, xs = [v, u] ∧ RV K ρ H d v ∧ RV K ρ H e u := by
  obtain ⟨v, t, rfl, h1, h2⟩ := h
  obtain ⟨u, rfl, h3⟩ := rvs1 h2
  exact ⟨v, u, rfl, h1, h3⟩
theorem opd_len : CallR X (.builtin "len") (rN X.K lenD) := by
  refine CallR.imp (call_len_seq.or call_len_str) fun xs H Q h => ?_
  obtain ⟨ρ, S, ds, st, rs, q⟩ := h
  unfold lenD at q
  split at q
  · obtain ⟨v, rfl, rfl, hl⟩ := rvs1 rs
    exact .inr ⟨_, rfl, by simpa [Str.length] using hl, q.here st (by simp [RV, Str.length])⟩
  · split at q
    · rename_i ys e
      obtain ⟨v, rfl, r⟩ := rvs1 rs
      obtain ⟨p, vs, rfl, h1, h2⟩ := seqOf_ok st r e
      exact .inl ⟨p, vs, rfl, h1, q.here st (by rw [h2.length]; rfl)⟩
    · exact q.elim
  · exact q.elim
theorem opd_abs : CallR X (.builtin "abs") (rN X.K absD) := by
  refine CallR.imp call_abs fun xs H Q h => ?_
  obtain ⟨ρ, S, ds, st, rs, q⟩ := h
  unfold absD at q
  split at q
  · obtain ⟨v, rfl, r⟩ := rvs1 rs
    cases r
    exact ⟨_, rfl, q.here st rfl⟩
  · exact q.elim
theorem opd_int : CallR X (.type "int") (rN X.K intD) := by
  refine CallR.imp call_int1 fun xs H Q h => ?_
  obtain ⟨ρ, S, ds, st, rs, q⟩ := h
  unfold intD at q
  split at q
  · obtain ⟨v, rfl, r⟩ := rvs1 rs
    cases r
    exact .inl ⟨_, rfl, q.here st rfl⟩
  · obtain ⟨v, rfl, r⟩ := rvs1 rs
    cases r
    exact .inr ⟨_, rfl, q.here st rfl⟩
  · exact q.elim
theorem opd_tuple : CallR X (.type "tuple") (rN X.K tupleD) := by
  refine CallR.imp call_tuple_of fun xs H Q h => ?_
  obtain ⟨ρ, S, ds, st, rs, q⟩ := h
  unfold tupleD at q
  split at q
  · rename_i a
    split at q
    · rename_i ys e
      obtain ⟨v, rfl, r⟩ := rvs1 rs
      cases a with
      | tup zs =>
        cases (show some zs = some ys from e)
        obtain ⟨p, vs, rfl, h1, h2⟩ := r
        exact ⟨p, vs, rfl, .inr ⟨tup_sq h1, q.here st ⟨p, vs, rfl, h1, h2⟩⟩⟩
      | lst zs =>
        obtain ⟨p, vs, rfl, h1, h2⟩ := seqL_ok st r (show seqL S (.lst zs) = some ys from e)
        exact ⟨p, vs, rfl, .inl ⟨SqL.of h1, q.newT st h2⟩⟩
      | ref n =>
        obtain ⟨p, vs, rfl, h1, h2⟩ := seqL_ok st r (show seqL S (.ref n) = some ys from e)
        exact ⟨p, vs, rfl, .inl ⟨SqL.of h1, q.newT st h2⟩⟩
      | _ => cases e
    · exact q.elim
  · exact q.elim
theorem opd_list {m : Bool} : CallR X (.type "list") (rN X.K (listD m)) := by
  refine CallR.imp call_list_of fun xs H Q h => ?_
  obtain ⟨ρ, S, ds, st, rs, q⟩ := h
  unfold listD at q
  split at q
  · rename_i a
    split at q
    · rename_i ys e
      obtain ⟨v, rfl, r⟩ := rvs1 rs
      by_cases hz : ∃ zs, a = .frz zs
      · obtain ⟨zs, rfl⟩ := hz
        cases (show some zs = some ys from e)
        obtain ⟨p, vs, rfl, h1, h2⟩ := r
        exact ⟨p, vs, rfl, .inl (h1.elim (fun ⟨u, hu, z, _⟩ => .inl (hu.rd z)) .inr), q.newL st h2⟩
      · have e' : seqOf S a = some ys := by
          cases a with
          | frz zs => exact absurd ⟨zs, rfl⟩ hz
          | _ => exact e
        obtain ⟨p, vs, rfl, h1, h2⟩ := seqOf_ok st r e'
        exact ⟨p, vs, rfl, h1, q.newL st h2⟩
    · exact q.elim
  · exact q.elim
theorem intsOf_ok (st : StR K ρ S H) {ds : List D} {xs : List V} {ns : List Int} (e : intsOf S ds = some ns) (rs : RVs K ρ H ds xs) : ∃ p, xs = [.ref p] ∧ H p = some (.lst (ns.map V.int)) := by
  unfold intsOf at e
  split at e
  · split at e
    · rename_i ys e1
      obtain ⟨v, rfl, r⟩ := rvs1 rs
      obtain ⟨p, vs, rfl, h1, h2⟩ := seqL_ok st r e1
      rw [ints_rv e h2] at h1
      exact ⟨p, rfl, h1⟩
    · cases e
  · cases e
theorem blsOf_ok (st : StR K ρ S H) {ds : List D} {xs : List V} {ns : List Bool} (e : blsOf S ds = some ns) (rs : RVs K ρ H ds xs) : ∃ p, xs = [.ref p] ∧ H p = some (.lst (ns.map V.bl)) := by
  unfold blsOf at e
  split at e
  · split at e
    · rename_i ys e1
      obtain ⟨v, rfl, r⟩ := rvs1 rs
      obtain ⟨p, vs, rfl, h1, h2⟩ := seqL_ok st r e1
      rw [bls_rv e h2] at h1
      exact ⟨p, rfl, h1⟩
    · cases e
  · cases e
theorem opd_sorted {m : Bool} : CallR X (.builtin "sorted") (rN X.K (sortedD m)) := by
  refine CallR.imp cr_sorted fun xs H Q h => ?_
  obtain ⟨ρ, S, ds, st, rs, q⟩ := h
  unfold sortedD at q
  split at q
  · rename_i ns e
    obtain ⟨hl, q⟩ := outV_if q
    obtain ⟨p, rfl, h1⟩ := intsOf_ok st e rs
    refine ⟨p, ns, rfl, SqL.of h1, hl, fun ns' p' pm pw hp => ?_⟩
    rw [sorted_same (pm.trans (sortI_perm ns).symm) pw (sortI_pw ns)]
    exact q.newL st (rv_ints _) p' hp
  · exact q.elim
theorem opd_all (hc : X.calm = true) : CallR X (.builtin "all") (rN X.K allD) := by
  refine CallR.imp (cr_all hc) fun xs H Q h => ?_
  obtain ⟨ρ, S, ds, st, rs, q⟩ := h
  unfold allD at q
  split at q
  · rename_i ns e
    obtain ⟨p, rfl, h1⟩ := blsOf_ok st e rs
    exact ⟨p, ns, rfl, SqL.of h1, q.here st rfl⟩
  · exact q.elim
theorem opd_any (hc : X.calm = true) : CallR X (.builtin "any") (rN X.K anyD) := by
  refine CallR.imp (cr_any hc) fun xs H Q h => ?_
  obtain ⟨ρ, S, ds, st, rs, q⟩ := h
  unfold anyD at q
  split at q
  · rename_i ns e
    obtain ⟨p, rfl, h1⟩ := blsOf_ok st e rs
    exact ⟨p, ns, rfl, SqL.of h1, q.here st rfl⟩
  · exact q.elim
theorem sumI_eq : ∀ ns : List Int, sumI ns = ns.sum
  | [] => rfl
  | x :: r => by rw [List.sum_cons, ← sumI_eq r]; rfl
theorem opd_sum (hc : X.calm = true) : CallR X (.builtin "sum") (rN X.K sumD) := by
  refine CallR.imp (cr_sum hc) fun xs H Q h => ?_
  obtain ⟨ρ, S, ds, st, rs, q⟩ := h
  unfold sumD at q
  split at q
  · rename_i ns e
    obtain ⟨p, rfl, h1⟩ := intsOf_ok st e rs
    exact ⟨p, ns, rfl, SqL.of h1, q.here st (by rw [← sumI_eq]; rfl)⟩
  · exact q.elim
theorem opd_max2 (hc : X.calm = true) : CallR X (.builtin "max") (rN X.K max2D) := by
  refine CallR.imp (call_max2 hc) fun xs H Q h => ?_
  obtain ⟨ρ, S, ds, st, rs, q⟩ := h
  unfold max2D at q
  split at q
  · obtain ⟨v, u, rfl, r1, r2⟩ := rvs2 rs
    cases r1; cases r2
    exact ⟨_, _, rfl, q.here st rfl⟩
  · exact q.elim
theorem opd_min2 (hc : X.calm = true) : CallR X (.builtin "min") (rN X.K min2D) := by
  refine CallR.imp (call_min2 hc) fun xs H Q h => ?_
  obtain ⟨ρ, S, ds, st, rs, q⟩ := h
  unfold min2D at q
  split at q
  · obtain ⟨v, u, rfl, r1, r2⟩ := rvs2 rs
    cases r1; cases r2
    exact ⟨_, _, rfl, q.here st rfl⟩
  · exact q.elim
theorem opd_maxL (hc : X.calm = true) : CallR X (.builtin "max") (rN X.K maxLD) := by
  refine CallR.imp (cr_max hc) fun xs H Q h => ?_
  obtain ⟨ρ, S, ds, st, rs, q⟩ := h
  unfold maxLD at q
  split at q
  · rename_i x r e
    obtain ⟨p, rfl, h1⟩ := intsOf_ok st e rs
    refine ⟨p, x :: r, rfl, SqL.of h1, by simp, fun m h2 h3 => ?_⟩
    obtain ⟨s1, s2⟩ := maxI_spec x r
    have : m = maxI x r := Int.le_antisymm (s2 m h2) (h3 _ s1)
    subst this
    exact q.here st rfl
  · exact q.elim

theorem minI_spec : ∀ (x : Int) (l : List Int), (minI x l ∈ x :: l) ∧ ∀ y ∈ x :: l, minI x l ≤ y
  | x, [] => ⟨by simp [minI], fun y hy => by simp at hy; subst hy; exact Int.le_refl _⟩
  | x, y :: r => by
    by_cases c : y < x
    · have e : minI x (y :: r) = minI y r := by show minI (if y < x then y else x) r = _; rw [if_pos c]
      obtain ⟨h1, h2⟩ := minI_spec y r
      rw [e]
      refine ⟨List.mem_cons_of_mem _ h1, fun z hz => ?_⟩
      rcases List.mem_cons.mp hz with rfl | hz
      · exact Int.le_trans (h2 y List.mem_cons_self) (Int.le_of_lt c)
      · exact h2 z hz
    · have e : minI x (y :: r) = minI x r := by show minI (if y < x then y else x) r = _; rw [if_neg c]
      obtain ⟨h1, h2⟩ := minI_spec x r
      rw [e]
      refine ⟨?_, fun z hz => ?_⟩
      · rcases List.mem_cons.mp h1 with q | q
        · rw [q]; exact List.mem_cons_self
        · exact List.mem_cons_of_mem _ (List.mem_cons_of_mem _ q)
      · rcases List.mem_cons.mp hz with rfl | hz
        · exact h2 _ List.mem_cons_self
        · rcases List.mem_cons.mp hz with rfl | hz
          · exact Int.le_trans (h2 x List.mem_cons_self) (Int.not_lt.mp c)
          · exact h2 z (List.mem_cons_of_mem _ hz)
theorem opd_minL (hc : X.calm = true) : CallR X (.builtin "min") (rN X.K minLD) := by
  refine CallR.imp (cr_min hc) fun xs H Q h => ?_
  obtain ⟨ρ, S, ds, st, rs, q⟩ := h
  unfold minLD at q
  split at q
  · rename_i x r e
    obtain ⟨p, rfl, h1⟩ := intsOf_ok st e rs
    refine ⟨p, x :: r, rfl, SqL.of h1, by simp, fun m h2 h3 => ?_⟩
    obtain ⟨s1, s2⟩ := minI_spec x r
    have : m = minI x r := Int.le_antisymm (h3 _ s1) (s2 m h2)
    subst this
    exact q.here st rfl
  · exact q.elim

/-! ### methods -/
theorem opd_append : MtM X "list.append" (rM X.K appendD) := by
  intro pins s σ H x xs v us Q I rx rs h
  refine mt_append pins s σ H x xs v us Q I rx rs ?_
  obtain ⟨ρ, S, a, ds, st, ra, rd, q⟩ := h
  unfold appendD at q
  split at q
  · rename_i n d
    split at q
    · rename_i ys e
      obtain ⟨hl, q⟩ := outV_if q
      obtain ⟨p, rfl, hp⟩ := ra
      obtain ⟨w, rfl, rw'⟩ := rvs1 rd
      obtain ⟨p', vs, h2, h3, h4⟩ := st.at_ n ys e
      rw [hp] at h2; cases h2
      obtain ⟨c1, c2⟩ := st.change hp (h4.append (RVs.one rw'))
      exact ⟨p, vs, w, rfl, rfl, h3, by rw [h4.length, ← sizeMax_eq]; exact hl, q ρ _ _ c2 c1 rfl⟩
    · exact q.elim
  · exact q.elim
theorem opd_pop : MtM X "list.pop" (rM X.K popD) := by
  intro pins s σ H x xs v us Q I rx rs h
  refine mt_pop pins s σ H x xs v us Q I rx rs ?_
  obtain ⟨ρ, S, a, ds, st, ra, rd, q⟩ := h
  unfold popD at q
  split at q
  · rename_i n
    split at q
    · rename_i ys e
      split at q
      · rename_i y e2
        obtain ⟨p, rfl, hp⟩ := ra
        cases (show xs = [] from rd)
        obtain ⟨p', vs, h2, h3, h4⟩ := st.at_ n ys e
        rw [hp] at h2; cases h2
        obtain ⟨c1, c2⟩ := st.change hp h4.dropLast
        obtain ⟨u, e3, ru⟩ := h4.get e2
        exact ⟨p, vs, u, rfl, rfl, h3, by rw [h4.length]; exact e3, q ρ _ _ c2 c1 (RV.mono c2 _ _ ru)⟩
      · exact q.elim
    · exact q.elim
  · exact q.elim
theorem opd_count : MtR X "list.count" (rM X.K countD) := by
  refine MtR.imp mt_lcount fun x xs H Q h => ?_
  obtain ⟨ρ, S, a, ds, st, ra, rd, q⟩ := h
  unfold countD at q
  split at q
  · rename_i k
    split at q
    · rename_i ns e
      obtain ⟨w, rfl, rw'⟩ := rvs1 rd
      cases rw'
      obtain ⟨p, e1, h1⟩ := intsOf_ok st e (RVs.one ra)
      cases e1
      exact ⟨p, ns, k, rfl, rfl, SqL.of h1, q.here st rfl⟩
    · exact q.elim
  · exact q.elim
/-! ### o[i] = v -/
def rSet3 (K : PySem.W.Frag) : TSet := fun o i v H Q => ∃ ρ S a b d S', StR K ρ S H ∧ RV K ρ H a o ∧ RV K ρ H b i ∧ RV K ρ H d v ∧ setIx a b d S = .ok () S' ∧ ∀ ρ' H', Ext ρ H ρ' H' → StR K ρ' S' H' → Q H'
theorem opd_set : PSet X (rSet3 X.K) := by
  intro pins s σ H o i v ov iv u Q I ro ri rv h
  refine set_list pins s σ H o i v ov iv u Q I ro ri rv ?_
  obtain ⟨ρ, S, a, b, d, S', st, ra, rb, rd, e, q⟩ := h
  unfold setIx at e
  split at e
  · rename_i n k
    split at e
    · rename_i ys e1
      split at e
      · rename_i j e2
        cases e
        obtain ⟨p, rfl, hp⟩ := ra
        cases rb
        obtain ⟨p', vs, h2, h3, h4⟩ := st.at_ n ys e1
        rw [hp] at h2; cases h2
        obtain ⟨c1, c2⟩ := st.change hp (h4.set j rd)
        exact ⟨p, vs, k, j, rfl, rfl, h3, by rw [h4.length]; exact e2, q ρ _ c2 c1⟩
      · cases e
    · cases e
  · cases e
end
end Nv

end

section
set_option linter.all false
set_option maxRecDepth 100000
set_option maxHeartbeats 1000000
/-! Nv4: readings by the evaluator; the checker; expressions. -/
namespace Nv
open PySem PySem.Spec PyProof.Rows L2

abbrev St := L2.St
/-- slots -/
structure SlR (K : PySem.W.Frag) (ρ : Rh) (H : Hp) (sl : Sl) (σ : St) : Prop where
  len : sl.length = σ.length
  at_ : ∀ (i : Nat) (d : D), sl[i]? = some (some d) → ∃ v, σ[i]? = some (some v) ∧ RV K ρ H d v
theorem SlR.mono {K : PySem.W.Frag} {ρ ρ' : Rh} {H H' : Hp} {sl : Sl} {σ : St} (h : SlR K ρ H sl σ) (e : Ext ρ H ρ' H') : SlR K ρ' H' sl σ :=
  ⟨h.len, fun i d q => let ⟨v, h1, h2⟩ := h.at_ i d q; ⟨v, h1, RV.mono e _ _ h2⟩⟩
theorem SlR.set {K : PySem.W.Frag} {ρ : Rh} {H : Hp} {sl : Sl} {σ : St} (h : SlR K ρ H sl σ) {i : Nat} {d : D} {v : V} (r : RV K ρ H d v) : SlR K ρ H (sl.set i (some d)) (σ.set i (some v)) := by
  refine ⟨by simp [h.len], fun j e q => ?_⟩
  by_cases hj : i = j
  · subst hj
    by_cases hi : i < sl.length
    · rw [List.getElem?_set_self hi] at q
      cases q
      exact ⟨v, by rw [List.getElem?_set_self (by rw [← h.len]; exact hi)], r⟩
    · rw [List.getElem?_eq_none (by simpa using hi)] at q
      cases q
  · rw [List.getElem?_set_ne hj] at q
    obtain ⟨u, h1, h2⟩ := h.at_ j e q
    exact ⟨u, by rw [List.getElem?_set_ne hj]; exact h1, h2⟩

/-- how an error of the evaluator stands: its class, its own dict -/
abbrev XRel := Xc → Value → Option Addr → Rh → Hp → Prop

section
variable (xr : XRel) (K : PySem.W.Frag) (W : WX)
/-- what is wanted behind an evaluation -/
def OutG {α β : Type} (rel : Rh → Hp → α → β → Prop) (σ : St) (r : R α) (ρ : Rh) (H : Hp) (Q : β → Hp → Prop) : Prop :=
  match r with
  | .ok a S => ∀ ρ' H' v, Ext ρ H ρ' H' → StR K ρ' S H' → rel ρ' H' a v → Q v H'
  | .ex x S => ∀ ρ' H' cls d, Ext ρ H ρ' H' → StR K ρ' S H' → xr x cls d ρ' H' → W cls d σ H'
  | .no => False
def tG {α β : Type} (rel : Rh → Hp → α → β → Prop) (f : Sl → Sto → R α) : St → Hp → (β → Hp → Prop) → Prop := fun σ H Q =>
  ∃ ρ S sl, StR K ρ S H ∧ SlR K ρ H sl σ ∧ OutG xr K W rel σ (f sl S) ρ H Q
abbrev relB : Rh → Hp → Bool → Bool → Prop := fun _ _ a v => a = v
abbrev relO : Rh → Hp → Option Int → Option Int → Prop := fun _ _ a v => a = v
def tE (f : Sl → Sto → R D) : TE := tG xr K W (RV K) f
def tB (f : Sl → Sto → R Bool) : TT := tG xr K W relB f
def tA (f : Sl → Sto → R (List D)) : TA := tG xr K W (RVs K) f
def tO (f : Sl → Sto → R (Option Int)) : TO := tG xr K W relO f
end

section
variable {xr : XRel} {K : PySem.W.Frag} {W : WX} {α β γ δ : Type} {rel : Rh → Hp → α → β → Prop} {rel' : Rh → Hp → γ → δ → Prop} {σ : St} {ρ ρ' : Rh} {H H' : Hp}
theorem OutG.ext {r : R α} {Q : β → Hp → Prop} (h : OutG xr K W rel σ r ρ H Q) (e : Ext ρ H ρ' H') : OutG xr K W rel σ r ρ' H' Q := by
  cases r with
  | ok a S => exact fun ρ2 H2 v e2 => h ρ2 H2 v (e.trans e2)
  | ex x S => exact fun ρ2 H2 c d e2 => h ρ2 H2 c d (e.trans e2)
  | no => exact h
theorem OutG.imp {r : R α} {Q Q' : β → Hp → Prop} (h : OutG xr K W rel σ r ρ H Q) (i : ∀ v H', Q v H' → Q' v H') : OutG xr K W rel σ r ρ H Q' := by
  cases r with
  | ok a S => exact fun ρ2 H2 v e2 st rv => i _ _ (h ρ2 H2 v e2 st rv)
  | ex x S => exact h
  | no => exact h
theorem OutG.bind {r : R γ} {g : γ → Sto → R α} {Q : β → Hp → Prop} (h : OutG xr K W rel σ (r.bind g) ρ H Q) :
    OutG xr K W rel' σ r ρ H (fun x H1 => ∃ ρ1 S1 a, Ext ρ H ρ1 H1 ∧ StR K ρ1 S1 H1 ∧ rel' ρ1 H1 a x ∧ OutG xr K W rel σ (g a S1) ρ1 H1 Q) := by
  cases r with
  | ok a S => exact fun ρ2 H2 v e2 st rv => ⟨ρ2, S, a, e2, st, rv, OutG.ext h e2⟩
  | ex x S => exact h
  | no => exact h
theorem OutG.here {a : α} {S : Sto} {v : β} {Q : β → Hp → Prop} (h : OutG xr K W rel σ (.ok a S) ρ H Q) (st : StR K ρ S H) (r : rel ρ H a v) : Q v H := h ρ H v Ext.refl st r
theorem tG.imp {f : Sl → Sto → R α} {Q Q' : β → Hp → Prop} (h : tG xr K W rel f σ H Q) (i : ∀ v H', Q v H' → Q' v H') : tG xr K W rel f σ H Q' := by
  obtain ⟨ρ, S, sl, st, sr, o⟩ := h
  exact ⟨ρ, S, sl, st, sr, o.imp i⟩
/-- first f, then g -/
theorem tG.bind {f : Sl → Sto → R γ} {g : γ → Sl → Sto → R α} {Q : β → Hp → Prop} (h : tG xr K W rel (fun sl S => (f sl S).bind fun a S1 => g a sl S1) σ H Q) :
    tG xr K W rel' f σ H (fun x H1 => ∃ ρ1 S1 sl a, StR K ρ1 S1 H1 ∧ SlR K ρ1 H1 sl σ ∧ rel' ρ1 H1 a x ∧ OutG xr K W rel σ (g a sl S1) ρ1 H1 Q) := by
  obtain ⟨ρ, S, sl, st, sr, o⟩ := h
  exact ⟨ρ, S, sl, st, sr, (OutG.bind (rel' := rel') o).imp fun x H1 ⟨ρ1, S1, a, e, st1, ra, o1⟩ => ⟨ρ1, S1, sl, a, st1, sr.mono e, ra, o1⟩⟩
theorem outV_of {r : R D} {Q : VK} (h : OutG xr K W (RV K) σ (nox r) ρ H Q) : OutV K r ρ H Q := by
  cases r with
  | ok d S => exact h
  | ex x S => exact h.elim
  | no => exact h.elim
end

theorem PE.imp {X : Cx} {e : Expr} {t t' : TE} (h : PE X e t) (i : ∀ σ H Q, t' σ H Q → t σ H Q) : PE X e t' := ⟨fun pins s σ H Q I q => h.run pins s σ H Q I (i _ _ _ q)⟩
theorem PT.imp {X : Cx} {e : Expr} {t t' : TT} (h : PT X e t) (i : ∀ σ H Q, t' σ H Q → t σ H Q) : PT X e t' := ⟨fun pins s σ H Q I q => h.run pins s σ H Q I (i _ _ _ q)⟩
theorem PW.imp {X : Cx} {e : Expr} {t t' : TT} (h : PW X e t) (i : ∀ σ H Q, t' σ H Q → t σ H Q) : PW X e t' := ⟨fun wh pins s σ H Q I q => h.run wh pins s σ H Q I (i _ _ _ q)⟩
theorem PA.imp {X : Cx} {es : List Expr} {t t' : TA} (h : PA X es t) (i : ∀ σ H Q, t' σ H Q → t σ H Q) : PA X es t' := ⟨fun pos pins s σ H Q I q => h.run pos pins s σ H Q I (i _ _ _ q)⟩
theorem PS.imp {X : Cx} {st : Stmt} {t t' : TS} (h : PS X st t) (i : ∀ D σ H, t' D σ H → t D σ H) : PS X st t' := ⟨fun pins s σ H D I q => h.run pins s σ H D I (i _ _ _ q)⟩
theorem PSs.imp {X : Cx} {st : List Stmt} {t t' : TS} (h : PSs X st t) (i : ∀ D σ H, t' D σ H → t D σ H) : PSs X st t' := ⟨fun pins s σ H D I q => h.run pins s σ H D I (i _ _ _ q)⟩
theorem PG.imp {X : Cx} {e : Expr} {t t' : TG} (h : PG X e t) (i : ∀ v σ H Q, t' v σ H Q → t v σ H Q) : PG X e t' := ⟨fun pins s σ H v u Q I r q => h.run pins s σ H v u Q I r (i _ _ _ _ q)⟩
theorem PI.imp {X : Cx} {tg e : Expr} {t t' : TI} (h : PI X tg e t) (i : ∀ σ H Q, t' σ H Q → t σ H Q) : PI X tg e t' := ⟨fun pins s σ H R I q => h.run pins s σ H R I (i _ _ _ q)⟩
theorem PO.imp {X : Cx} {e : Option Expr} {t t' : TO} (h : PO X e t) (i : ∀ σ H Q, t' σ H Q → t σ H Q) : PO X e t' := ⟨fun pins s σ H Q I q => h.run pins s σ H Q I (i _ _ _ q)⟩

/-! ### the checker -/
structure Tab where
  fnm : List Str
  gnm : List Str
  cnm : List Str
  lnm : List Str
/-- where code stands: the slots' names, the scope that runs, whose cells were made here -/
structure Cs where
  N : List Str
  sc : Scope
  fb : Str → Bool
  dn : Option He.Defn

def visB (sc : Scope) (x : Str) : Bool := match sc.names.lookup x with
  | some .local => true
  | some .cell => true
  | some .free => true
  | _ => false
def locB (sc : Scope) (x : Str) : Bool := match sc.names.lookup x with
  | some .local => true
  | some .cell => true
  | _ => false
def isLocB (sc : Scope) (x : Str) : Bool := match sc.names.lookup x with
  | some .local => true
  | _ => false
def glB (sc : Scope) (x : Str) : Bool := match sc.names.lookup x with
  | some .globalImplicit => true
  | _ => false
def plainNm (x : Str) : Bool := !(x == ("__debug__" : Str)) && !(x == ("__classdict__" : Str)) && !(x == ("__name__" : Str))
theorem visB_ok {sc : Scope} {x : Str} (h : visB sc x = true) : Vis sc x := by
  unfold visB at h
  split at h
  · exact .inl (by assumption)
  · exact .inr (.inl (by assumption))
  · exact .inr (.inr (by assumption))
  · cases h
theorem locB_ok {sc : Scope} {x : Str} (h : locB sc x = true) : Loc sc x := by
  unfold locB at h
  split at h
  · exact .inl (by assumption)
  · exact .inr (by assumption)
  · cases h
theorem isLocB_ok {sc : Scope} {x : Str} (h : isLocB sc x = true) : sc.names.lookup x = some .local := by
  unfold isLocB at h
  split at h
  · assumption
  · cases h
theorem glB_ok {sc : Scope} {x : Str} (h : glB sc x = true) : sc.names.lookup x = some .globalImplicit := by
  unfold glB at h
  split at h
  · assumption
  · cases h

theorem plainNm_ok {x : Str} (h : plainNm x = true) : (x == ("__debug__" : Str)) = false ∧ (x == ("__classdict__" : Str)) = false := by
  simp only [plainNm, Bool.and_eq_true, Bool.not_eq_true'] at h
  exact ⟨h.1.1, h.1.2⟩
def all2 {α β : Type} (f : α → β → Bool) : List α → List β → Bool
  | [], [] => true
  | a :: r, b :: t => f a b && all2 f r t
  | _, _ => false
def opt2 {α β : Type} (f : α → β → Bool) : Option α → Option β → Bool
  | none, none => true
  | some a, some b => f a b
  | _, _ => false

def bopOf : Operator → Option Bop
  | .Add => some .add
  | .Sub => some .sub
  | .Mult => some .mul
  | .Mod => some .mod
  | .FloorDiv => some .fdiv
  | .Pow => some .pow
  | _ => none
def okC (op : CmpOp) (c : Cop) (b : Expr) : Bool :=
  match op, c with
  | .Eq, .eq => true
  | .NotEq, .ne => true
  | .Lt, .lt => true
  | .LtE, .le => true
  | .Gt, .gt => true
  | .GtE, .ge => true
  | .Is, .isN => true
  | .IsNot, .isntN => true
  | .Is, .isB => true
  | .IsNot, .isntB => true
  | .In, .isin => (match b with | .Set _ _ _ => false | _ => true)
  | .NotIn, .notin => (match b with | .Set _ _ _ => false | _ => true)
  | _, _ => false
def bfName : Bf → Str
  | .len => "len"
  | .abs => "abs"
  | .int => "int"
  | .tuple => "tuple"
  | .list => "list"
  | .sorted => "sorted"
  | .all => "all"
  | .any => "any"
  | .max2 => "max"
  | .min2 => "min"
  | .maxL => "max"
  | .minL => "min"
  | .sum => "sum"
def tyStr : Ty → Str
  | .int => "int"
  | .bool => "bool"
  | .str => "str"
  | .tuple => "tuple"
  | .list => "list"
def isCon : Const → D → Bool
  | .none, .non => true
  | .bool b, .bl k => b == k
  | .int i, .int j => decide (i = j)
  | .str s, .str t => decide (s.cps.toList = t) && decide (t.length ≤ sizeMax)
  | _, _ => false
def noCall0 : Expr → Bool
  | .Call _ [] [] _ => false
  | _ => true

def slotsT : Nat → T → List Nat
  | 0, _ => []
  | _ + 1, .nm i => [i]
  | n + 1, .tp ts => ts.flatMap (slotsT n)
  | _ + 1, .ix _ _ => []
def noSlice : Expr → Bool
  | .Slice _ _ _ _ => false
  | _ => true
def isTup : Expr → Bool
  | .Tuple _ _ _ => true
  | _ => false
def mtName : Mf → Str
  | .append => "append"
  | .pop => "pop"
  | .count => "count"
def gl1 (C : Cs) (x y : Str) : Bool := decide (x = y) && glB C.sc x

/-- and, or of one thing alone -/
def single : Expr → Option Expr
  | .BoolOp _ [a] _ => some a
  | _ => none
mutual
def okE (B : Tab) : Nat → Cs → Expr → E → Bool
  | 0, _, _, _ => false
  | n + 1, C, e, c => match single e with
    | some a => okE B n C a c
    | none => match c with
      | .c d => match e with
        | .Constant k _ _ => isCon k d
        | _ => false
      | .v i => match e with
        | .Name x _ => decide (C.N[i]? = some x) && visB C.sc x && plainNm x
        | _ => false
      | .g i => match e with
        | .Name x _ => decide (B.gnm[i]? = some x) && glB C.sc x && plainNm x
        | _ => false
      | .bin op _ x y => match e with
        | .BinOp a o b _ => decide (bopOf o = some op) && okE B n C a x && okE B n C b y
        | _ => false
      | .neg x => match e with
        | .UnaryOp .USub a _ => okE B n C a x
        | _ => false
      | .nt x => match e with
        | .UnaryOp .Not a _ => okE B n C a x
        | _ => false
      | .an x y => match e with
        | .BoolOp .And (a :: b :: r) p => okE B n C a x && okE B n C (.BoolOp .And (b :: r) p) y
        | _ => false
      | .or x y => match e with
        | .BoolOp .Or (a :: b :: r) p => okE B n C a x && okE B n C (.BoolOp .Or (b :: r) p) y
        | _ => false
      | .cmp op x y => match e with
        | .Compare a [o] [b] _ => okC o op b && okE B n C a x && okE B n C b y
        | _ => false
      | .ch op op' x y z => match e with
        | .Compare a [o, o'] [b, d] _ => okC o op b && okC o' op' d && okE B n C a x && okE B n C b y && okE B n C d z
        | _ => false
      | .ite x y z => match e with
        | .IfExp t a b _ => okE B n C t x && okE B n C a y && okE B n C b z
        | _ => false
      | .tup es => match e with
        | .Tuple as _ _ => all2 (okE B n C) as es
        | _ => false
      | .lst _ es => match e with
        | .List as _ => all2 (okE B n C) as es
        | _ => false
      | .ix x y => match e with
        | .Subscript a b _ => okE B n C a x && okE B n C b y
        | _ => false
      | .sl _ x lo hi => match e with
        | .Subscript a (.Slice l h none _) _ => okE B n C a x && opt2 (okE B n C) l lo && opt2 (okE B n C) h hi
        | _ => false
      | .rv _ x => match e with
        | .Subscript a (.Slice none none (some (.UnaryOp .USub (.Constant (.int k) _ _) _)) _) _ => decide (k = 1) && okE B n C a x
        | _ => false
      | .isi x t => match e with
        | .Call (.Name f _) [a, .Name y _] [] _ => gl1 C f "isinstance" && gl1 C y (tyStr t) && okE B n C a x
        | _ => false
      | .call f es => match e with
        | .Call (.Name x _) as [] _ => decide (B.fnm[f]? = some x) && glB C.sc x && plainNm x && all2 (okE B n C) as es
        | _ => false
      | .bf f _ es => match e with
        | .Call (.Name x _) as [] _ => gl1 C x (bfName f) && all2 (okE B n C) as es && !as.isEmpty
        | _ => false
      | .mt f x es => match e with
        | .Call (.Attribute o nm ap) as [] cp => decide (nm = mtName f) && noCall0 o && (ap.endLine == cp.line) && okE B n C o x && all2 (okE B n C) as es && (match f with
          | .pop => as.isEmpty
          | _ => as.length == 1)
        | _ => false
      | .lc _ el t own i ifs => match e with
        | .ListComp elt [⟨tg, iter, ifs', asy⟩] scope _ =>
          decide (asy = 0) && blkC C.N C.sc scope (own.map fun j => (C.N.getD j "", j)) && okI B n C tg iter i && okT B n ⟨C.N, relS scope C.sc, fun x => scope.names.lookup x == some .cell, C.dn⟩ tg t &&
          (slotsT 9 t).all (fun j => own.contains j) && okE B n ⟨C.N, relS scope C.sc, fun x => scope.names.lookup x == some .cell, C.dn⟩ elt el &&
          (match ifs', ifs with
            | [], none => true
            | [c'], some c => okE B n ⟨C.N, relS scope C.sc, fun x => scope.names.lookup x == some .cell, C.dn⟩ c' c
            | _, _ => false)
        | _ => false
      | .lam k x => match e with
        | .Call (.Name f _) [.Lambda ⟨[], [], none, [], [], none, []⟩ body scope _] [] _ => decide (B.lnm[k]? = some f) && glB C.sc f && plainNm f && LamX.lamSB C.sc scope && C.dn.isSome && okE B n ⟨C.N, scope, fun _ => false, none⟩ body x
        | _ => false
      | .nev => match e with
        | .Call _ _ _ _ => true
        | _ => false
def okT (B : Tab) : Nat → Cs → Expr → T → Bool
  | 0, _, _, _ => false
  | n + 1, C, e, t => match t with
    | .nm i => match e with
      | .Name x _ => decide (C.N[i]? = some x) && locB C.sc x && (C.fb x || isLocB C.sc x)
      | _ => false
    | .tp ts => match e with
      | .Tuple es _ _ => all2 (okT B n C) es ts
      | _ => false
    | .ix a b => match e with
      | .Subscript o i _ => okE B n C o a && okE B n C i b
      | _ => false
def okI (B : Tab) : Nat → Cs → Expr → Expr → I → Bool
  | 0, _, _, _, _ => false
  | n + 1, C, tg, e, i => match i with
    | .seq a => okE B n C e a
    | .rng1 a => match e with
      | .Call (.Name f _) [x] [] _ => gl1 C f "range" && okE B n C x a
      | _ => false
    | .rng2 a b => match e with
      | .Call (.Name f _) [x, y] [] _ => gl1 C f "range" && okE B n C x a && okE B n C y b
      | _ => false
    | .enum a => match e with
      | .Call (.Name f _) [x] [] _ => gl1 C f "enumerate" && isTup tg && okE B n C x a
      | _ => false
    | .zip a b => match e with
      | .Call (.Name f _) [x, y] [] _ => gl1 C f "zip" && isTup tg && okE B n C x a && okE B n C y b
      | _ => false
end
end Nv

end

section
set_option linter.all false
set_option maxRecDepth 100000
set_option maxHeartbeats 1000000
/-! Nv5: one rule a construct. -/
namespace Nv
open PySem PySem.Spec PyProof.Rows L2

section
variable {X : Cx} {W : WX} {xr : XRel} {a b d e : Expr} {pos : Pos} {fa fb fd : Sl → Sto → R D} {ta tb : Sl → Sto → R Bool}

theorem t1_un {g : D → Sto → R D} {σ : St} {H : Hp} {Q : VK} (h : tE xr X.K W (fun sl S => (fa sl S).bind fun p S1 => nox (g p S1)) σ H Q) : tUn (r1 X.K g) (tE xr X.K W fa) σ H Q :=
  (tG.bind (rel' := RV X.K) h).imp fun x H1 ⟨ρ1, S1, sl, p, st, sr, rp, o⟩ => ⟨ρ1, S1, p, st, rp, outV_of o⟩
theorem t2_op {g : D → D → Sto → R D} {σ : St} {H : Hp} {Q : VK} (h : tE xr X.K W (fun sl S => (fa sl S).bind fun p S1 => (fb sl S1).bind fun q S2 => nox (g p q S2)) σ H Q) : tOp (r2 X.K g) (tE xr X.K W fa) (tE xr X.K W fb) σ H Q :=
  (tG.bind (rel' := RV X.K) h).imp fun x H1 ⟨ρ1, S1, sl, p, st, sr, rp, o⟩ =>
    ⟨ρ1, S1, sl, st, sr, (OutG.bind (rel' := RV X.K) o).imp fun y H2 ⟨ρ2, S2, q, e2, st2, rq, o2⟩ => ⟨ρ2, S2, p, q, st2, RV.mono e2 _ _ rp, rq, outV_of o2⟩⟩

/-! constants, names -/
theorem s_con {k : Const} {c : D} {j : Nat} (h : isCon k c = true) : PE X (.Constant k j pos) (tE xr X.K W fun _ S => .ok c S) := by
  cases k with
  | none =>
    cases c <;> first | cases h | skip
    exact PE.imp pe_non fun σ H Q ⟨ρ, S, sl, st, sr, o⟩ => o.here st rfl
  | bool q =>
    cases c with
    | bl k =>
      have e : q = k := by simpa [isCon] using h
      subst e
      exact PE.imp pe_bl fun σ H Q ⟨ρ, S, sl, st, sr, o⟩ => o.here st rfl
    | _ => cases h
  | int i =>
    cases c with
    | int k =>
      have e : i = k := by simpa [isCon] using h
      subst e
      exact PE.imp pe_int fun σ H Q ⟨ρ, S, sl, st, sr, o⟩ => o.here st rfl
    | _ => cases h
  | str s =>
    cases c with
    | str t =>
      simp only [isCon, Bool.and_eq_true, decide_eq_true_eq] at h
      obtain ⟨rfl, hl⟩ := h
      rw [sizeMax_eq] at hl
      exact PE.imp pe_str fun σ H Q ⟨ρ, S, sl, st, sr, o⟩ => o.here st ⟨by simp, hl⟩
    | _ => cases h
  | _ => cases c <;> cases h
theorem s_var {i : Nat} {x : Str} (h1 : X.N[i]? = some x) (h2 : visB X.env.scope x = true) (h3 : plainNm x = true) : PE X (.Name x pos) (tE xr X.K W fun sl S => match sl[i]? with
    | some (some d) => .ok d S
    | _ => .no) := by
  simp only [plainNm, Bool.and_eq_true, Bool.not_eq_true'] at h3
  refine PE.imp (pe_var h1 (visB_ok h2) h3.1.1 h3.1.2) fun σ H Q ⟨ρ, S, sl, st, sr, o⟩ => ?_
  dsimp only at o
  split at o
  · rename_i d e
    obtain ⟨v, e1, r⟩ := sr.at_ i d e
    exact ⟨v, e1, o.here st r⟩
  · exact o.elim
theorem s_glob {x : Str} {u : Value} {v : V} {c : D} (h1 : X.mg x = some u) (h2 : glB X.env.scope x = true) (h3 : plainNm x = true) (r : RelV v u) (rv : ∀ ρ H, RV X.K ρ H c v) : PE X (.Name x pos) (tE xr X.K W fun sl S => .ok c S) := by
  simp only [plainNm, Bool.and_eq_true, Bool.not_eq_true'] at h3
  exact PE.imp (pe_glob (show Gl X x from glB_ok h2) h1 r h3.1.1) fun σ H Q ⟨ρ, S, sl, st, sr, o⟩ => o.here st (rv _ _)

/-! operators -/
theorem s_bin {o : Operator} {op : Bop} {m : Bool} (ho : bopOf o = some op) (ha : PE X a (tE xr X.K W fa)) (hb : PE X b (tE xr X.K W fb)) :
    PE X (.BinOp a o b pos) (tE xr X.K W fun sl S => (fa sl S).bind fun p S1 => (fb sl S1).bind fun q S2 => nox (binD op m p q S2)) := by
  cases o <;> cases ho
  · exact PE.imp (pe_op (opd_add (m := m)) ha hb) fun σ H Q h => t2_op h
  · exact PE.imp (pe_op (opd_sub (m := m)) ha hb) fun σ H Q h => t2_op h
  · exact PE.imp (pe_op (opd_mul (m := m)) ha hb) fun σ H Q h => t2_op h
  · exact PE.imp (pe_op (opd_mod (m := m)) ha hb) fun σ H Q h => t2_op h
  · exact PE.imp (pe_op (opd_pow (m := m)) ha hb) fun σ H Q h => t2_op h
  · exact PE.imp (pe_op (opd_fdiv (m := m)) ha hb) fun σ H Q h => t2_op h
def negD (p : D) (S : Sto) : R D := match p with
  | .int i => .ok (.int (-i)) S
  | _ => .no
theorem s_neg (ha : PE X a (tE xr X.K W fa)) : PE X (.UnaryOp .USub a pos) (tE xr X.K W fun sl S => (fa sl S).bind fun p S1 => match p with
    | .int i => .ok (.int (-i)) S1
    | _ => .no) := by
  refine PE.imp (pe_un un_neg ha) fun σ H Q h => (tG.bind (rel' := RV X.K) h).imp fun x H1 ⟨ρ1, S1, sl, p, st, sr, rp, o⟩ => ?_
  split at o
  · cases rp
    exact ⟨_, rfl, o.here st rfl⟩
  · exact o.elim
theorem blD_out {r : R D} {σ : St} {α β : Type} {rel : Rh → Hp → α → β → Prop} {g : Bool → Sto → R α} {ρ : Rh} {H : Hp} {Q : β → Hp → Prop} (h : OutG xr X.K W rel σ ((blD r).bind g) ρ H Q) :
    OutG xr X.K W (RV X.K) σ r ρ H (fun x H1 => ∃ k ρ1 S1, x = .bl k ∧ Ext ρ H ρ1 H1 ∧ StR X.K ρ1 S1 H1 ∧ OutG xr X.K W rel σ (g k S1) ρ1 H1 Q) := by
  cases r with
  | ok d S =>
    intro ρ' H' v e st rv
    cases d with
    | bl k => cases rv; exact ⟨k, ρ', S, rfl, e, st, OutG.ext h e⟩
    | _ => exact h.elim
  | ex x S => exact h
  | no => exact h
theorem s_not (ha : PE X a (tE xr X.K W fa)) : PE X (.UnaryOp .Not a pos) (tE xr X.K W fun sl S => (blD (fa sl S)).bind fun k S1 => .ok (.bl (!k)) S1) := by
  refine PE.imp (pe_not ha) fun σ H Q ⟨ρ, S, sl, st, sr, o⟩ => ⟨ρ, S, sl, st, sr, (blD_out o).imp fun x H1 ⟨k, ρ1, S1, ex, e, st1, o1⟩ => ⟨k, ex, o1.here st1 rfl⟩⟩
theorem s_and {r : List Expr} (ha : PE X a (tE xr X.K W fa)) (hb : PE X (.BoolOp .And (b :: r) pos) (tE xr X.K W fb)) : PE X (.BoolOp .And (a :: b :: r) pos) (tE xr X.K W fun sl S => (blD (fa sl S)).bind fun k S1 => match k with
    | true => fb sl S1
    | false => .ok (.bl false) S1) := by
  refine PE.imp (pe_and ha hb) fun σ H Q ⟨ρ, S, sl, st, sr, o⟩ => ⟨ρ, S, sl, st, sr, (blD_out o).imp fun x H1 ⟨k, ρ1, S1, ex, e, st1, o1⟩ => ⟨k, ex, ?_⟩⟩
  cases k with
  | true => exact ⟨ρ1, S1, sl, st1, sr.mono e, o1⟩
  | false => exact o1.here st1 rfl
theorem s_or {r : List Expr} (ha : PE X a (tE xr X.K W fa)) (hb : PE X (.BoolOp .Or (b :: r) pos) (tE xr X.K W fb)) : PE X (.BoolOp .Or (a :: b :: r) pos) (tE xr X.K W fun sl S => (blD (fa sl S)).bind fun k S1 => match k with
    | false => fb sl S1
    | true => .ok (.bl true) S1) := by
  refine PE.imp (pe_or ha hb) fun σ H Q ⟨ρ, S, sl, st, sr, o⟩ => ⟨ρ, S, sl, st, sr, (blD_out o).imp fun x H1 ⟨k, ρ1, S1, ex, e, st1, o1⟩ => ⟨k, ex, ?_⟩⟩
  cases k with
  | false => exact ⟨ρ1, S1, sl, st1, sr.mono e, o1⟩
  | true => exact o1.here st1 rfl

/-! comparisons -/
theorem okC_op (hu : X.A.units + 110 < cLine) {o : CmpOp} {op : Cop} (h : okC o op b = true) : OpR X (compareOp o) (r2 X.K (cmpD op)) ∧ behindInMarks o b = false := by
  unfold okC at h
  split at h
  · exact ⟨opd_eq hu, nomark _⟩
  · exact ⟨opd_ne hu, nomark _⟩
  · exact ⟨opd_lt, nomark _⟩
  · exact ⟨opd_le, nomark _⟩
  · exact ⟨opd_gt, nomark _⟩
  · exact ⟨opd_ge, nomark _⟩
  · exact ⟨opd_isN, nomark _⟩
  · exact ⟨opd_isntN, nomark _⟩
  · exact ⟨opd_isB, nomark _⟩
  · exact ⟨opd_isntB, nomark _⟩
  · exact ⟨opd_in hu, by cases b <;> first | rfl | cases h⟩
  · exact ⟨opd_notin hu, by cases b <;> first | rfl | cases h⟩
  · cases h
theorem s_cmp (hu : X.A.units + 110 < cLine) {o : CmpOp} {op : Cop} (h : okC o op b = true) (ha : PE X a (tE xr X.K W fa)) (hb : PE X b (tE xr X.K W fb)) :
    PE X (.Compare a [o] [b] pos) (tE xr X.K W fun sl S => (fa sl S).bind fun p S1 => (fb sl S1).bind fun q S2 => nox (cmpD op p q S2)) :=
  PE.imp (pe_cmpR (okC_op hu h).1 ha hb (okC_op hu h).2) fun σ H Q q => t2_op q
theorem bl_back {r : R D} {σ : St} {ρ : Rh} {H : Hp} {Q : Bool → Hp → Prop} (o : OutG xr X.K W relB σ (blD r) ρ H Q) : OutG xr X.K W (RV X.K) σ r ρ H (fun x H' => ∃ k, x = .bl k ∧ Q k H') := by
  have o' : OutG xr X.K W relB σ ((blD r).bind fun k S => .ok k S) ρ H Q := by
    generalize blD r = z at o
    cases z <;> exact o
  exact (blD_out o').imp fun x H1 ⟨k, ρ1, S1, ex, e, st1, o1⟩ => ⟨k, ex, o1.here st1 rfl⟩
theorem st_cmp (hu : X.A.units + 110 < cLine) {o : CmpOp} {op : Cop} (h : okC o op b = true) (ha : PE X a (tE xr X.K W fa)) (hb : PE X b (tE xr X.K W fb)) :
    PT X (.Compare a [o] [b] pos) (tB xr X.K W fun sl S => blD ((fa sl S).bind fun p S1 => (fb sl S1).bind fun q S2 => nox (cmpD op p q S2))) :=
  PT.imp (pt_cmpR (okC_op hu h).1 ha hb (okC_op hu h).2) fun σ H Q ⟨ρ, S, sl, st, sr, o⟩ => t2_op (g := cmpD op) (Q := fun x H' => ∃ k, x = .bl k ∧ Q k H') ⟨ρ, S, sl, st, sr, bl_back o⟩
theorem s_ch (hu : X.A.units + 110 < cLine) {o o' : CmpOp} {op op' : Cop} (h : okC o op b = true) (h' : okC o' op' d = true) (ha : PE X a (tE xr X.K W fa)) (hb : PE X b (tE xr X.K W fb)) (hd : PE X d (tE xr X.K W fd)) :
    PE X (.Compare a [o, o'] [b, d] pos) (tE xr X.K W fun sl S => (fa sl S).bind fun p S1 => (fb sl S1).bind fun q S2 => (blD (nox (cmpD op p q S2))).bind fun k S3 => match k with
      | true => (fd sl S3).bind fun r S4 => nox (cmpD op' q r S4)
      | false => .ok (.bl false) S3) := by
  refine PE.imp (pe_chain (okC_op hu h).1 (okC_op hu h').1 ha hb hd (okC_op hu h').2) fun σ H Q q => ?_
  refine (tG.bind (rel' := RV X.K) q).imp fun x H1 ⟨ρ1, S1, sl, p, st, sr, rp, o1⟩ => ?_
  refine ⟨ρ1, S1, sl, st, sr, (OutG.bind (rel' := RV X.K) o1).imp fun y H2 ⟨ρ2, S2, q2, e2, st2, rq, o2⟩ => ?_⟩
  refine ⟨ρ2, S2, p, q2, st2, RV.mono e2 _ _ rp, rq, outV_of ((blD_out o2).imp fun z H3 ⟨k, ρ3, S3, ez, e3, st3, o3⟩ => ⟨k, ez, ?_⟩)⟩
  cases k with
  | true =>
    refine ⟨ρ3, S3, sl, st3, (sr.mono e2).mono e3, (OutG.bind (rel' := RV X.K) o3).imp fun w H4 ⟨ρ4, S4, r, e4, st4, rr, o4⟩ => ?_⟩
    exact ⟨ρ4, S4, q2, r, st4, RV.mono e4 _ _ (RV.mono e3 _ _ rq), rr, outV_of o4⟩
  | false => exact o3.here st3 rfl

theorem st_ch (hu : X.A.units + 110 < cLine) {o o' : CmpOp} {op op' : Cop} (h : okC o op b = true) (h' : okC o' op' d = true) (ha : PE X a (tE xr X.K W fa)) (hb : PE X b (tE xr X.K W fb)) (hd : PE X d (tE xr X.K W fd)) :
    PT X (.Compare a [o, o'] [b, d] pos) (tB xr X.K W fun sl S => blD ((fa sl S).bind fun p S1 => (fb sl S1).bind fun q S2 => (blD (nox (cmpD op p q S2))).bind fun k S3 => match k with
      | true => (fd sl S3).bind fun r S4 => nox (cmpD op' q r S4)
      | false => .ok (.bl false) S3)) := by
  refine PT.imp (pt_chain (okC_op hu h).1 (okC_op hu h').1 ha hb hd (okC_op hu h').2) fun σ H Q ⟨ρ, S, sl, st, sr, q⟩ => ?_
  show tChain (r2 X.K (cmpD op)) (r2 X.K (cmpD op')) (tE xr X.K W fa) (tE xr X.K W fb) (tE xr X.K W fd) σ H (fun x H' => ∃ k, x = .bl k ∧ Q k H')
  have q := bl_back q
  refine (tG.bind (rel' := RV X.K) (f := fa) (g := fun p sl S1 => (fb sl S1).bind fun q S2 => (blD (nox (cmpD op p q S2))).bind fun k S3 => match k with
      | true => (fd sl S3).bind fun r S4 => nox (cmpD op' q r S4)
      | false => .ok (.bl false) S3) ⟨ρ, S, sl, st, sr, q⟩).imp fun x H1 ⟨ρ1, S1, sl, p, st, sr, rp, o1⟩ => ?_
  refine ⟨ρ1, S1, sl, st, sr, (OutG.bind (rel' := RV X.K) o1).imp fun y H2 ⟨ρ2, S2, q2, e2, st2, rq, o2⟩ => ?_⟩
  refine ⟨ρ2, S2, p, q2, st2, RV.mono e2 _ _ rp, rq, outV_of ((blD_out o2).imp fun z H3 ⟨k, ρ3, S3, ez, e3, st3, o3⟩ => ⟨k, ez, ?_⟩)⟩
  cases k with
  | true =>
    refine ⟨ρ3, S3, sl, st3, (sr.mono e2).mono e3, (OutG.bind (rel' := RV X.K) o3).imp fun w H4 ⟨ρ4, S4, r, e4, st4, rr, o4⟩ => ?_⟩
    exact ⟨ρ4, S4, q2, r, st4, RV.mono e4 _ _ (RV.mono e3 _ _ rq), rr, outV_of o4⟩
  | false => exact o3.here st3 rfl

/-! tests -/
theorem st_not (ha : PT X a (tB xr X.K W ta)) : PT X (.UnaryOp .Not a pos) (tB xr X.K W fun sl S => (ta sl S).bind fun k S1 => .ok (!k) S1) := by
  refine PT.imp (pt_not ha) fun σ H Q h => (tG.bind (rel' := relB) h).imp fun x H1 ⟨ρ1, S1, sl, k, st, sr, ek, o⟩ => ?_
  subst ek
  exact o.here st rfl
theorem st_and {r : List Expr} (ha : PT X a (tB xr X.K W ta)) (hb : PW X (.BoolOp .And (b :: r) pos) (tB xr X.K W tb)) : PW X (.BoolOp .And (a :: b :: r) pos) (tB xr X.K W fun sl S => (ta sl S).bind fun k S1 => match k with
    | true => tb sl S1
    | false => .ok false S1) := by
  refine PW.imp (pw_and ha hb) fun σ H Q h => (tG.bind (rel' := relB) h).imp fun x H1 ⟨ρ1, S1, sl, k, st, sr, ek, o⟩ => ?_
  subst ek
  cases k with
  | true => exact ⟨ρ1, S1, sl, st, sr, o⟩
  | false => exact o.here st rfl
theorem st_or {r : List Expr} (ha : PT X a (tB xr X.K W ta)) (hb : PW X (.BoolOp .Or (b :: r) pos) (tB xr X.K W tb)) : PW X (.BoolOp .Or (a :: b :: r) pos) (tB xr X.K W fun sl S => (ta sl S).bind fun k S1 => match k with
    | false => tb sl S1
    | true => .ok true S1) := by
  refine PW.imp (pw_or ha hb) fun σ H Q h => (tG.bind (rel' := relB) h).imp fun x H1 ⟨ρ1, S1, sl, k, st, sr, ek, o⟩ => ?_
  subst ek
  cases k with
  | false => exact ⟨ρ1, S1, sl, st, sr, o⟩
  | true => exact o.here st rfl
theorem st_truth (ha : PE X a (tE xr X.K W fa)) (he : ∀ whole, isTrue a X.env whole = (do let v ← whole; standAt a.pos; holding [v] (truthy v))) : PT X a (tB xr X.K W fun sl S => (fa sl S).bind fun d S1 => match truD S1 d with
    | some k => .ok k S1
    | none => .no) := by
  refine PT.imp (pt_truth ha he) fun σ H Q h => (tG.bind (rel' := RV X.K) h).imp fun x H1 ⟨ρ1, S1, sl, d, st, sr, rd, o⟩ => ?_
  split at o
  · rename_i k e
    exact ⟨k, tru_of st e rd, o.here st rfl⟩
  · exact o.elim
theorem s_ite (hc : PT X a (tB xr X.K W ta)) (ha : PE X b (tE xr X.K W fa)) (hb : PE X d (tE xr X.K W fb)) : PE X (.IfExp a b d pos) (tE xr X.K W fun sl S => (ta sl S).bind fun k S1 => match k with
    | true => fa sl S1
    | false => fb sl S1) := by
  refine PE.imp (pe_ifExp hc ha hb) fun σ H Q h => (tG.bind (rel' := relB) h).imp fun x H1 ⟨ρ1, S1, sl, k, st, sr, ek, o⟩ => ?_
  subst ek
  cases k with
  | true => exact ⟨ρ1, S1, sl, st, sr, o⟩
  | false => exact ⟨ρ1, S1, sl, st, sr, o⟩

/-! arguments, displays -/
def noStar : Expr → Bool
  | .Starred _ _ => false
  | _ => true
theorem star_cons {es : List Expr} {env : Env} (h : noStar e = true) : starEach (e :: es) env = (false, eval e env) :: starEach es env := by
  cases e <;> first | rfl | cases h
theorem star_any {env : Env} : ∀ {es : List Expr}, (es.all noStar = true) → (backTo pos (starEach es env)).any (·.1) = false
  | [], _ => rfl
  | e :: r, h => by
    obtain ⟨h1, h2⟩ := Bool.and_eq_true_iff.mp h
    rw [star_cons h1]
    show (false || (backTo pos (starEach r env)).any (·.1)) = false
    rw [star_any h2]
    rfl
theorem s_args {f : E → Sl → Sto → R D} : ∀ {as : List Expr} {es : List E}, (as.all noStar = true) → all2 (fun a c => true) as es = true → (∀ a c, (a, c) ∈ as.zip es → PE X a (tE xr X.K W (f c))) → PA X as (tA xr X.K W fun sl S => evEs (fun e S => f e sl S) es S)
  | [], [], _, _, _ => PA.imp pa_nil fun σ H Q ⟨ρ, S, sl, st, sr, o⟩ => o.here st rfl
  | a :: as, c :: es, hn, h2, h => by
    obtain ⟨n1, n2⟩ := Bool.and_eq_true_iff.mp hn
    have ih := s_args (f := f) (as := as) (es := es) n2 (Bool.and_eq_true_iff.mp h2).2 fun a' c' m => h a' c' (by rw [List.zip_cons_cons]; exact List.mem_cons_of_mem _ m)
    refine PA.imp (pa_cons (h a c (by rw [List.zip_cons_cons]; exact List.mem_cons_self)) ih (star_cons n1)) fun σ H Q q => ?_
    refine (tG.bind (rel' := RV X.K) (g := fun d sl S1 => (evEs (fun e S => f e sl S) es S1).bind fun ds S2 => .ok (d :: ds) S2) q).imp fun x H1 ⟨ρ1, S1, sl, d, st, sr, rd, o⟩ => ?_
    exact ⟨ρ1, S1, sl, st, sr, (OutG.bind (rel' := RVs X.K) o).imp fun xs H2 ⟨ρ2, S2, ds, e2, st2, rds, o2⟩ => o2.here st2 ⟨x, xs, rfl, RV.mono e2 _ _ rd, rds⟩⟩
  | [], _ :: _, _, h2, _ => by cases h2
  | _ :: _, [], _, h2, _ => by cases h2
theorem outG_if {α β : Type} {rel : Rh → Hp → α → β → Prop} {σ : St} {c : Prop} [Decidable c] {r : R α} {ρ : Rh} {H : Hp} {Q : β → Hp → Prop} (h : OutG xr X.K W rel σ (if c then r else .no) ρ H Q) : c ∧ OutG xr X.K W rel σ r ρ H Q := by
  by_cases hc : c
  · rw [if_pos hc] at h; exact ⟨hc, h⟩
  · rw [if_neg hc] at h; exact h.elim
theorem outV_ok {σ : St} {d : D} {S : Sto} {ρ : Rh} {H : Hp} {Q : VK} (h : OutG xr X.K W (RV X.K) σ (.ok d S) ρ H Q) : OutV X.K (.ok d S) ρ H Q := h
theorem newL_nox (m : Bool) (xs : List D) (S : Sto) : nox (newL m xs S) = newL m xs S := by cases m <;> rfl
variable {as : List Expr} {fs : Sl → Sto → R (List D)}
theorem s_tup {k : Nat} (h : PA X as (tA xr X.K W fs)) : PE X (.Tuple as k pos) (tE xr X.K W fun sl S => (fs sl S).bind fun ds S1 => if ds.length ≤ sizeMax then .ok (.tup ds) S1 else .no) := by
  refine PE.imp (pe_tup h) fun σ H Q q => (tG.bind (rel' := RVs X.K) q).imp fun xs H1 ⟨ρ1, S1, sl, ds, st, sr, rd, o⟩ => ?_
  obtain ⟨hz, o⟩ := outG_if o
  rw [sizeMax_eq] at hz
  exact ⟨by rw [rd.length]; exact hz, OutV.newT (outV_ok o) st rd⟩
theorem s_lst {m : Bool} (h : PA X as (tA xr X.K W fs)) : PE X (.List as pos) (tE xr X.K W fun sl S => (fs sl S).bind fun ds S1 => if ds.length ≤ sizeMax then newL m ds S1 else .no) := by
  refine PE.imp (pe_lst h) fun σ H Q q => (tG.bind (rel' := RVs X.K) q).imp fun xs H1 ⟨ρ1, S1, sl, ds, st, sr, rd, o⟩ => ?_
  obtain ⟨hz, o⟩ := outG_if o
  rw [sizeMax_eq] at hz
  rw [← newL_nox] at o
  exact ⟨by rw [rd.length]; exact hz, OutV.newL (outV_of o) st rd⟩
theorem s_ix (hs : noSlice b = true) (ha : PE X a (tE xr X.K W fa)) (hb : PE X b (tE xr X.K W fb)) :
    PE X (.Subscript a b pos) (tE xr X.K W fun sl S => (fa sl S).bind fun p S1 => (fb sl S1).bind fun q S2 => nox (ixD p q S2)) :=
  PE.imp (pe_ix opd_ix ha hb (fun _ _ => by cases b <;> first | rfl | cases hs)) fun σ H Q q => t2_op q
theorem s_part {o : Option Expr} {c : Option E} {f : E → Sl → Sto → R D} (h2 : opt2 (fun _ _ => true) o c = true) (h : ∀ a e, o = some a → c = some e → PE X a (tE xr X.K W (f e))) : PO X o (tO xr X.K W fun sl S => evO (fun e S => f e sl S) c S) := by
  cases o with
  | none =>
    cases c with
    | none => exact PO.imp po_none fun σ H Q ⟨ρ, S, sl, st, sr, q⟩ => q.here st rfl
    | some e => cases h2
  | some a =>
    cases c with
    | none => cases h2
    | some e =>
      refine PO.imp (po_some (h a e rfl rfl)) fun σ H Q q => (tG.bind (rel' := RV X.K) (g := fun d sl S1 => match d with
        | .int i => .ok (some i) S1
        | _ => .no) q).imp fun x H1 ⟨ρ1, S1, sl, d, st, sr, rd, o⟩ => ?_
      split at o
      · cases rd
        exact ⟨_, rfl, o.here st rfl⟩
      · exact o.elim
theorem s_sl {lo hi : Option Expr} {p2 : Pos} {m : Bool} {fl fh : Sl → Sto → R (Option Int)} (ha : PE X a (tE xr X.K W fa)) (hl : PO X lo (tO xr X.K W fl)) (hh : PO X hi (tO xr X.K W fh)) :
    PE X (.Subscript a (.Slice lo hi none p2) pos) (tE xr X.K W fun sl S => (fa sl S).bind fun p S1 => (fl sl S1).bind fun l S2 => (fh sl S2).bind fun h S3 => nox (slD m p l h S3)) := by
  refine PE.imp (pe_slice (opd_sl (m := m)) ha hl hh) fun σ H Q q => (tG.bind (rel' := RV X.K) q).imp fun x H1 ⟨ρ1, S1, sl, p, st, sr, rp, o1⟩ => ?_
  refine ⟨ρ1, S1, sl, st, sr, (OutG.bind (rel' := relO) o1).imp fun l H2 ⟨ρ2, S2, l', e2, st2, el, o2⟩ => ?_⟩
  subst el
  refine ⟨ρ2, S2, sl, st2, sr.mono e2, (OutG.bind (rel' := relO) o2).imp fun u H3 ⟨ρ3, S3, u', e3, st3, eu, o3⟩ => ?_⟩
  subst eu
  exact ⟨ρ3, S3, p, st3, RV.mono e3 _ _ (RV.mono e2 _ _ rp), outV_of o3⟩
theorem s_rv {k : Nat} {p1 p2 p3 : Pos} {m : Bool} (ha : PE X a (tE xr X.K W fa)) :
    PE X (.Subscript a (.Slice none none (some (.UnaryOp .USub (.Constant (.int 1) k p1) p2)) p3) pos) (tE xr X.K W fun sl S => (fa sl S).bind fun p S1 => nox (rvD m p S1)) := by
  refine PE.imp (pe_revL ha) fun σ H Q q => (tG.bind (rel' := RV X.K) q).imp fun x H1 ⟨ρ1, S1, sl, p, st, sr, rp, o1⟩ => ?_
  have o := outV_of o1
  unfold rvD at o
  split at o
  · rename_i xs e
    obtain ⟨q, vs, rfl, h1, h2⟩ := seqL_ok st rp e
    exact ⟨q, vs, rfl, SqL.of h1, o.newL st h2.reverse⟩
  · exact o.elim
end
end Nv

end

section
set_option linter.all false
set_option maxRecDepth 100000
set_option maxHeartbeats 2000000
/-! NvE: enumerate of a tuple. -/
namespace Nv
open PySem PySem.Spec PyProof.Rows L2
open AutoSeq1 (wpAny_loadPart')
abbrev tiO (l : Addr) : Obj := { cls := .type "tuple_iterator", data := .fields #[.ref l, .int 0 0] }
abbrev enO (i : Addr) : Obj := { cls := .type "enumerate", data := .fields #[.none, .bool false, .ref i, rawInt 0, .none, .none] }
theorem meetsT (l : Addr) (items : Array Value) (n : Nat) (dct : Option Addr) (sl : Array (Option Value)) : Meets (Builtin.«enumerate.__new__» ⟨[.type "enumerate", .ref l], []⟩)
    (fun _ R s => s.heap.get? l = some { cls := .type "tuple", dict := dct, data := .seq items n, slots := sl } ∧ R (.ok (.ret (.ref (s.heap.push (tiO l)).objs.size))) { s with heap := (s.heap.push (tiO l)).push (enO s.heap.objs.size) }) :=
  .of_wp fun prog w A R s h => by
    obtain ⟨hp, g, d, tk, os⟩ := s; obtain ⟨hl, h⟩ := h
    have hsub := sub_enumerate
    have hL : Heap.IsTuple (Shared.heap ⟨hp, g, d, tk, os⟩) l items := ⟨_, hl, rfl, n, rfl⟩
    wp_walk using wpAny_loadPart' hl
    refine wpAny_stack_any fun st => wpAny_pure ?_
    split
    · rename_i c _ _ _ _ _
      cases (c == Value.type "enumerate") <;> (wp_walk using wpAny_loadPart' hl, wpAny_pyIter_tuple hL; exact ⟨_, rfl, h⟩)
    · wp_walk using wpAny_loadPart' hl, wpAny_pyIter_tuple hL
      exact ⟨_, rfl, h⟩
section
variable {prog : Program} {w : World} {A : Around} {E : Value → Shared → Prop} {s : Shared}
theorem call_enumT {l : Addr} {items : Array Value} {Q : Value → Shared → Prop} (hL : s.heap.IsTuple l items)
    (h : ∀ h', IsEnum h' (s.heap.objs.size + 1) s.heap.objs.size 0 .none → h'.IsTupleIter s.heap.objs.size l 0 → (∀ b o, s.heap.get? b = some o → h'.get? b = some o) → Q (.ref (s.heap.objs.size + 1)) { s with heap := h' }) :
    wpAny (model prog w) A (call (.type "enumerate") [.ref l]) Q E s := by
  obtain ⟨⟨c, dct, dt, sl⟩, hl, hc, n, hd⟩ := hL
  dsimp only at hc hd
  subst hc hd
  refine callType_new F.called_enumerate (by decide) (F.typeCall_enumerate_1 _) (F.newCall_enumerate_1 _) (fun obj => F.args_object_init_2 obj _) F.entry_enumerate_new (meetsT l items n dct sl) ⟨hl, ?_⟩
  have hz : (s.heap.push (tiO l)).objs.size = s.heap.objs.size + 1 := Heap.size_push ..
  have he := Heap.get?_push_size (s.heap.push (tiO l)) (o := enO s.heap.objs.size) rfl
  rw [hz] at he
  show _ ∧ _
  rw [hz]
  exact ⟨⟨_, he, rfl⟩, h _ he ⟨_, Heap.get?_push_of_some _ (Heap.get?_push_size _ rfl), rfl, rfl⟩ fun b o x => Heap.get?_push_of_some _ (Heap.get?_push_of_some _ x)⟩
theorem drawsT (hh : A.handled = none) (it l : Addr) (hne : l ≠ it) (items : Array Value) : Draws prog w A it [it, l] items.size (fun i v => items[i]? = some v) (fun i h => h.IsTupleIter it l i ∧ h.IsTuple l items) where
  live := fun _ _ st => let ⟨o, ho, _⟩ := st.1; ⟨o, ho⟩
  frame := fun _ _ _ st hk => ⟨st.1.at fun o e => hk it (by simp) o e, st.2.at fun o e => hk l (by simp) o e⟩
  item := fun i s Q E hi st hQ => RZ.nextOf_tuple_item st.1 st.2 (x := items[i]) (by simp [hi]) fun h' a b => hQ _ h' s.toks (by simp [hi]) ⟨a, st.2.extBut b.extBut hne⟩ b
  done := fun s Q E st hE => RZ.nextOf_tuple_end hh st.1 st.2 (by simp) hE
theorem drawsE {n : Nat} (hh : A.handled = none) (it l : Addr) (items : Array Value) (hz : items.size ≤ n) : Draws prog w A it [it, l] n (fun _ _ => True) (fun i h => i = n ∧ h.IsTupleIter it l i ∧ h.IsTuple l items) where
  live := fun _ _ st => let ⟨_, ⟨o, ho, _⟩, _⟩ := st; ⟨o, ho⟩
  frame := fun _ _ _ st hk => ⟨st.1, st.2.1.at fun o e => hk it (by simp) o e, st.2.2.at fun o e => hk l (by simp) o e⟩
  item := fun i s Q E hi st hQ => absurd st.1 (Nat.ne_of_lt hi)
  done := fun s Q E st hE => RZ.nextOf_tuple_end hh st.2.1 st.2.2 (by simp; omega) hE
end
/-- the tuple at a, each item in a new pair -/
def IteT (K : PySem.W.Frag) (a : Addr) : It :=
  ⟨fun i H => ∃ (xs : List V) (x : V), SqT K H a xs ∧ xs[i]? = some x, fun i H v H' => ∃ T x, v = .ref T ∧ H T = none ∧ H' = upd H T (.tup [.int (i : Nat), x]) ∧ ∀ xs, SqT K H a xs → xs[i]? = some x, fun i H => ∃ xs : List V, SqT K H a xs ∧ xs.length ≤ i⟩
theorem turn_enumT {P : Program} {w : World} {K : PySem.W.Frag} {elts : List Expr} {kk : Nat} {tpos : Pos} (a e it : Addr) (hai : a ≠ it) (hae : a ≠ e) :
    Turn P w K (.Tuple elts kk tpos) (IteT K a) [e, it] e (fun i h => (∃ old, IsEnum h e it ((i : Nat) : Int) old) ∧ h.IsTupleIter it a i ∧ e ≠ it) where
  mem := by simp
  obj := fun i h st b hb => by
    obtain ⟨⟨old, he⟩, ⟨o, ho, hc, hd⟩, _⟩ := st
    rcases (show b = e ∨ b = it by simpa using hb) with rfl | rfl
    · exact ⟨_, he, fun v q => nomatch q⟩
    · exact ⟨o, ho, fun v q => by rw [hd] at q; cases q⟩
  keep := fun i h h' st k => let ⟨⟨old, he⟩, hi, hne⟩ := st; ⟨⟨old, k e (by simp) _ he⟩, hi.at fun o q => k it (by simp) o q, hne⟩
  item := by
    intro X hP hw hK hc i pins s σ H E I hf st ⟨xs, x, hq, hx⟩
    subst hP hw hK
    obtain ⟨⟨old, he⟩, hit, hne⟩ := st
    obtain ⟨its, rv, p, hz⟩ := I.tuple hq
    obtain ⟨u, hu, ru⟩ := rv.get hx
    have hel : e < s.heap.objs.size := Heap.lt_size he
    have hil : it < s.heap.objs.size := by obtain ⟨_, q, _⟩ := hit; exact Heap.lt_size q
    have hlt : i < its.length := (List.getElem?_eq_some_iff.mp hu).1
    refine wpAny_pyNext_enum_itemD (drawsT (show X.A.in1.handled = none from I.ok.hd hc) it a hai its.toArray) he ⟨hit, p⟩ (by simpa using hlt) hne (by simp [hne, Ne.symm hae]) fun y h' tk hy ho st' hT hsz hk => ?_
    obtain ⟨hit', _⟩ := st'
    have hy : its.toArray[i]? = some y := hy
    rw [List.getElem?_toArray, hu] at hy
    cases hy
    refine ⟨_, rfl, wpAny_letOwnedTupleGo_enum (s := { s with heap := h', toks := tk + 1 }) ho fun h'' he' sb => ?_⟩
    have hT2 : h''.get? s.heap.objs.size = some { cls := .type "tuple", data := .seq #[.int i tk, u] } := (sb.2 _ (Nat.ne_of_gt hel)).trans hT
    have new : ObjOk X.prog X.w (upd H s.heap.objs.size (.tup [.int (i : Nat), x])) h'' s.heap.objs.size (.tup [.int (i : Nat), x]) := ⟨by show 2 ≤ sizeLine; decide, [.int i tk, u], .cons ⟨_, rfl⟩ (.cons ru .nil), ⟨_, hT2, rfl, _, rfl⟩⟩
    have I1 : Inv X pins σ (upd H s.heap.objs.size (.tup [.int (i : Nat), x])) { s with heap := h'', toks := tk + 1 } :=
      I.turnedNew (ch := [e, it]) (fun b ob hb q => (sb.2 b (fun z => hb (by simp [z]))).trans (hk b ob (fun z => hb (by simp [z])) (fun z => hb (by simp [z])) q)) hf (Nat.le_refl _) new
    refine ⟨.ref s.heap.objs.size, _, I1, rfl, ⟨_, x, rfl, I.hok.fresh (Nat.le_refl _), rfl, fun ys hy => by rw [I.tuple_inj hy hq]; exact hx⟩, ⟨⟨u, ?_⟩, hit'.at fun o q => (sb.2 it (Ne.symm hne)).trans q, hne⟩, fun b hb => ?_⟩
    · rw [show ((i + 1 : Nat) : Int) = (i : Int) + 1 by omega]
      exact he'
    · rw [upd_ne (Nat.ne_of_lt (show b < s.heap.objs.size by rcases (show b = e ∨ b = it by simpa using hb) with rfl | rfl <;> assumption))]
      exact (hf b hb).1
  done := by
    intro X hP hw hK hc i pins s σ H E I hf st ⟨xs, hq, hx⟩
    subst hP hw hK
    obtain ⟨⟨old, he⟩, hit, hne⟩ := st
    obtain ⟨its, rv, p, hz⟩ := I.tuple hq
    obtain ⟨f0, f1, f2, f3, f4, f5⟩ := hf it (by simp)
    have hl := rv.length
    refine wpAny_pyNext_enum_endD (drawsE (n := i) (show X.A.in1.handled = none from I.ok.hd hc) it a its.toArray (by simp; omega)) he ⟨rfl, hit, p⟩ fun h' eb => ⟨rfl, I.turned (t' := s.toks) (fun b o hb q => eb b o hb q) f0 f1 f3 f4 f5⟩
  self := fun A i s Q E st h => let ⟨⟨_, he⟩, _⟩ := st; wpAny_pyIter_enum he h
def iEnumA (K : PySem.W.Frag) (ta : TA) : TI := fun σ H R => ta σ H fun vs H1 => ∃ a, vs = [.ref a] ∧ ((∃ xs, SqL K H1 a xs ∧ R (Ite K a) H1) ∨ (∃ xs, SqT K H1 a xs ∧ R (IteT K a) H1))
theorem pi_enumA {X : Cx} {e : Expr} {ta : TA} {p pos tpos : Pos} {elts : List Expr} {kk : Nat} (hg : Gl X "enumerate") (hm : X.mg "enumerate" = none) (ha : PA X [e] ta) (hs : starEach [e] X.env = [(false, eval e X.env)]) :
    PI X (.Tuple elts kk tpos) (.Call (.Name "enumerate" p) [e] [] pos) (iEnumA X.K ta) := by
  refine ⟨fun pins s σ H R I h => Call_ (ld_blt I hg hm boot_enumerate (PyProof.Rows.callWith_type1 (thn (ha.run pos pins s σ H _ I h) fun us s1 ⟨vs, H1, I1, r1, a, ex, q1⟩ => ?_) hs rfl))⟩
  subst ex
  cases r1 with
  | cons r rr =>
    cases rr
    cases r
    have fin : ∀ b, b ∈ [s1.heap.objs.size + 1, s1.heap.objs.size] → FpOk X pins H1 b := fun b hb => by
      have hle : s1.heap.objs.size ≤ b := by
        rcases (show b = s1.heap.objs.size + 1 ∨ b = s1.heap.objs.size by simpa using hb) with z | z <;> omega
      exact I1.fpOk hle (I1.hok.fresh hle)
    rcases q1 with ⟨xs, hq, q⟩ | ⟨xs, hq, q⟩
    · obtain ⟨its, rv, p', hz⟩ := I1.list hq
      exact call_enumerate_list p'.isList fun h' he hit hsz hk => wpAny_pyIter_enum he ⟨s1.heap.objs.size + 1, [s1.heap.objs.size + 1, s1.heap.objs.size], _, _, H1, rfl, I1.kept (t' := s1.toks) hk, turn_enum a (s1.heap.objs.size + 1) s1.heap.objs.size, ⟨⟨.none, he⟩, hit, Nat.succ_ne_self _⟩, fin, q⟩
    · obtain ⟨its, rv, p', hz⟩ := I1.tuple hq
      have hal : a < s1.heap.objs.size := by obtain ⟨o, ho, _⟩ := p'; exact Heap.lt_size ho
      exact call_enumT (show s1.heap.IsTuple a _ from p') fun h' he hit hk => wpAny_pyIter_enum he ⟨s1.heap.objs.size + 1, [s1.heap.objs.size + 1, s1.heap.objs.size], _, _, H1, rfl, I1.kept (t' := s1.toks) hk, turn_enumT a (s1.heap.objs.size + 1) s1.heap.objs.size (Nat.ne_of_lt hal) (Nat.ne_of_lt (Nat.lt_succ_of_lt hal)), ⟨⟨.none, he⟩, hit, Nat.succ_ne_self _⟩, fin, q⟩
end Nv

end

section
set_option linter.all false
set_option maxRecDepth 100000
set_option maxHeartbeats 1000000
/-! Nv6: calls, built-ins, methods, targets, what is walked. -/
namespace Nv
open PySem PySem.Spec PyProof.Rows L2

section
variable {X : Cx} {W : WX} {xr : XRel} {a b d e : Expr} {pos p q1 q2 : Pos} {fa fb fd : Sl → Sto → R D} {ta tb : Sl → Sto → R Bool} {as : List Expr} {fs : Sl → Sto → R (List D)}

/-! built-ins -/
theorem gl1_ok {C : Cs} {x y : Str} (hs : X.env.scope = C.sc) (h : gl1 C x y = true) : x = y ∧ Gl X x := by
  obtain ⟨h1, h2⟩ := Bool.and_eq_true_iff.mp h
  exact ⟨of_decide_eq_true h1, by unfold Gl Env.kindOf; rw [hs]; exact glB_ok h2⟩
theorem s_isi {t : Ty} (hg : Gl X "isinstance") (hm : X.mg "isinstance" = none) (hg2 : Gl X (tyStr t)) (hm2 : X.mg (tyStr t) = none) (hn : noStar a = true) (ha : PE X a (tE xr X.K W fa)) :
    PE X (.Call (.Name "isinstance" p) [a, .Name (tyStr t) q1] [] pos) (tE xr X.K W fun sl S => (fa sl S).bind fun p S1 => .ok (.bl (isiD p t)) S1) := by
  have ht : PE X (.Name (tyStr t) q1) (tC (.ty (tyName t))) := by
    cases t
    · exact pe_bltn (u := .type "int") hg2 hm2 (by decide +kernel) rfl (by decide) (by decide)
    · exact pe_bltn (u := .type "bool") hg2 hm2 (by decide +kernel) rfl (by decide) (by decide)
    · exact pe_bltn (u := .type "str") hg2 hm2 (by decide +kernel) rfl (by decide) (by decide)
    · exact pe_bltn (u := .type "tuple") hg2 hm2 (by decide +kernel) rfl (by decide) (by decide)
    · exact pe_bltn (u := .type "list") hg2 hm2 (by decide +kernel) rfl (by decide) (by decide)
  have ha2 : PA X [a, .Name (tyStr t) q1] _ := pa_cons ha (pa_cons ht pa_nil (star_cons rfl)) (star_cons hn)
  refine PE.imp (pe_callB (opd_isi (t := t)) hg hm (by decide +kernel) ha2 (by decide) (by decide) (star_cons hn) (star_any (by rfl))) fun σ H Q q => ?_
  exact (tG.bind (rel' := RV X.K) q).imp fun x H1 ⟨ρ1, S1, sl, d, st, sr, rd, o⟩ => ⟨ρ1, S1, d, x, rfl, st, rd, outV_ok o⟩
theorem t_bf {g : List D → Sto → R D} {σ : St} {H : Hp} {Q : VK} (h : tE xr X.K W (fun sl S => (fs sl S).bind fun ds S1 => nox (g ds S1)) σ H Q) : tCB (rN X.K g) (tA xr X.K W fs) σ H Q :=
  (tG.bind (rel' := RVs X.K) h).imp fun xs H1 ⟨ρ1, S1, sl, ds, st, sr, rd, o⟩ => ⟨ρ1, S1, ds, st, rd, outV_of o⟩
theorem s_bf {f : Bf} {m : Bool} (hc : X.calm = true) (hg : Gl X (bfName f)) (hm : X.mg (bfName f) = none) (hn : (e :: as).all noStar = true) (ha : PA X (e :: as) (tA xr X.K W fs)) :
    PE X (.Call (.Name (bfName f) p) (e :: as) [] pos) (tE xr X.K W fun sl S => (fs sl S).bind fun ds S1 => nox (bfD f m ds S1)) := by
  have h1 : starEach (e :: as) X.env = (false, eval e X.env) :: starEach as X.env := star_cons (Bool.and_eq_true_iff.mp hn).1
  have h2 : (backTo pos (starEach as X.env)).any (·.1) = false := star_any (Bool.and_eq_true_iff.mp hn).2
  cases f
  · exact PE.imp (pe_callB opd_len hg hm (by decide +kernel) ha (by decide) (by decide) h1 h2) fun σ H Q q => t_bf q
  · exact PE.imp (pe_callB opd_abs hg hm (by decide +kernel) ha (by decide) (by decide) h1 h2) fun σ H Q q => t_bf q
  · exact PE.imp (pe_callTy opd_int hg hm (by decide +kernel) ha (by decide) (by decide) h1 h2) fun σ H Q q => t_bf q
  · exact PE.imp (pe_callTy opd_tuple hg hm (by decide +kernel) ha (by decide) (by decide) h1 h2) fun σ H Q q => t_bf q
  · exact PE.imp (pe_callTy (opd_list (m := m)) hg hm (by decide +kernel) ha (by decide) (by decide) h1 h2) fun σ H Q q => t_bf q
  · exact PE.imp (pe_callB (opd_sorted (m := m)) hg hm (by decide +kernel) ha (by decide) (by decide) h1 h2) fun σ H Q q => t_bf q
  · exact PE.imp (pe_callB (opd_all hc) hg hm (by decide +kernel) ha (by decide) (by decide) h1 h2) fun σ H Q q => t_bf q
  · exact PE.imp (pe_callB (opd_any hc) hg hm (by decide +kernel) ha (by decide) (by decide) h1 h2) fun σ H Q q => t_bf q
  · exact PE.imp (pe_callB (opd_max2 hc) hg hm (by decide +kernel) ha (by decide) (by decide) h1 h2) fun σ H Q q => t_bf q
  · exact PE.imp (pe_callB (opd_min2 hc) hg hm (by decide +kernel) ha (by decide) (by decide) h1 h2) fun σ H Q q => t_bf q
  · exact PE.imp (pe_callB (opd_maxL hc) hg hm (by decide +kernel) ha (by decide) (by decide) h1 h2) fun σ H Q q => t_bf q
  · exact PE.imp (pe_callB (opd_minL hc) hg hm (by decide +kernel) ha (by decide) (by decide) h1 h2) fun σ H Q q => t_bf q
  · exact PE.imp (pe_callB (opd_sum hc) hg hm (by decide +kernel) ha (by decide) (by decide) h1 h2) fun σ H Q q => t_bf q

/-! methods -/
theorem base_eq {o : Expr} {nm : Str} {env : Env} (h : noCall0 o = true) : attributeBase o nm env (eval o env) = eval o env := by
  unfold attributeBase
  split
  · cases h
  · rfl
theorem tyV_list {ρ : Rh} {S : Sto} {H : Hp} {c : D} {x : V} {xs : List D} (st : StR X.K ρ S H) (r : RV X.K ρ H c x) (e : seqL S c = some xs) : tyV X.K "list" x H := by
  obtain ⟨a, vs, rfl, h1, h2⟩ := seqL_ok st r e
  exact .inl ⟨rfl, vs, SqL.of h1⟩
theorem isLst_ty {ρ : Rh} {S : Sto} {H : Hp} {c : D} {x : V} (st : StR X.K ρ S H) (r : RV X.K ρ H c x) (e : isLst c = true) : tyV X.K "list" x H := by
  cases c with
  | lst ys =>
    obtain ⟨a, vs, rfl, h1, h2⟩ := r
    exact .inl ⟨rfl, vs, SqL.of h1.1⟩
  | ref n =>
    obtain ⟨a, rfl, h1⟩ := r
    obtain ⟨vs, h⟩ := st.ne a (List.mem_of_getElem? h1)
    exact .inl ⟨rfl, vs, SqL.of h⟩
  | _ => cases e
theorem few1 {cp : Pos} {env : Env} (hn : noStar e = true) : ((backTo cp (starEach [e] env)).all (fun x => !x.1) && (backToKw cp (keywordEach [] env)).all (fun x => x.1.isSome)
      && decide (([e] : List Expr).length + ([] : List Keyword).length + (if ([] : List Keyword).isEmpty then 0 else 1) < 30)) = true := by
  rw [star_cons hn]
  rfl
theorem s_pop {ap cp : Pos} {f : E → Sl → Sto → R D} (h0 : noCall0 a = true) (hl : (ap.endLine == cp.line) = true) (ha : PE X a (tE xr X.K W fa)) :
    PE X (.Call (.Attribute a "pop" ap) [] [] cp) (tE xr X.K W fun sl S => (fa sl S).bind fun p S1 => if isLst p = true then (evEs (fun e S => f e sl S) [] S1).bind fun ds S2 => nox (mtD .pop p ds S2) else .no) := by
  refine PE.imp (pe_bm0 PySem.F.plainAttrs_list PySem.F.slot_list_pop PySem.F.type_list_pop (show MtR X "list.pop" (rM X.K popD) from opd_pop) ha (base_eq h0) hl) fun σ H Q q => ?_
  refine (tG.bind (rel' := RV X.K) q).imp fun x H1 ⟨ρ1, S1, sl, c, st, sr, rd, o⟩ => ?_
  obtain ⟨hl, o⟩ := outG_if o
  exact ⟨isLst_ty st rd hl, ρ1, S1, c, [], st, rd, rfl, outV_of (r := popD c [] S1) o⟩
theorem s_mt {f : Mf} {nm : Str} {ap cp : Pos} (hnm : nm = mtName f) (hf : f ≠ .pop) (h0 : noCall0 a = true) (hl : (ap.endLine == cp.line) = true) (hn : noStar e = true) (ha : PE X a (tE xr X.K W fa)) (he : PA X [e] (tA xr X.K W fs)) :
    PE X (.Call (.Attribute a nm ap) [e] [] cp) (tE xr X.K W fun sl S => (fa sl S).bind fun p S1 => if isLst p = true then (fs sl S1).bind fun ds S2 => nox (mtD f p ds S2) else .no) := by
  subst hnm
  have key : ∀ {σ : St} {H : Hp} {Q : VK}, tE xr X.K W (fun sl S => (fa sl S).bind fun p S1 => if isLst p = true then (fs sl S1).bind fun ds S2 => nox (mtD f p ds S2) else .no) σ H Q → tBM X.K "list" (rM X.K (mtD f)) (tE xr X.K W fa) (tA xr X.K W fs) σ H Q := by
    intro σ H Q q
    refine (tG.bind (rel' := RV X.K) q).imp fun x H1 ⟨ρ1, S1, sl, c, st, sr, rd, o⟩ => ?_
    obtain ⟨hl, o⟩ := outG_if o
    refine ⟨isLst_ty st rd hl, ρ1, S1, sl, st, sr, (OutG.bind (rel' := RVs X.K) o).imp fun xs H2 ⟨ρ2, S2, ds, e2, st2, rds, o2⟩ => ?_⟩
    exact ⟨ρ2, S2, c, ds, st2, RV.mono e2 _ _ rd, rds, outV_of o2⟩
  cases f
  · exact PE.imp (pe_bm PySem.F.plainAttrs_list PySem.F.slot_list_append PySem.F.type_list_append (show MtR X "list.append" (rM X.K appendD) from opd_append) ha he (base_eq h0) (few1 hn) hl (star_cons hn) rfl) fun σ H Q q => key q
  · exact absurd rfl hf
  · exact PE.imp (pe_bm PySem.F.plainAttrs_list PySem.F.slot_list_count PySem.F.type_list_count opd_count ha he (base_eq h0) (few1 hn) hl (star_cons hn) rfl) fun σ H Q q => key q

/-! a def called -/
/-- what a def promises: what the evaluator answers -/
def spF (xr : XRel) (K : PySem.W.Frag) (P : Pg) (b : Nat) (fn : Fn) : Sp := fun vs H Q E => ∃ n ρ S ds, StR K ρ S H ∧ RVs K ρ H ds vs ∧ OutG xr K (fun c d _ H => E c d H) (RV K) [] (fnD (evN P n) b fn ds S) ρ H Q
theorem pe_callS0 {CX : CXT} {k : Nat} {f : Addr} {fd : FuncData} {ps : List Str} {sp : Sp} {E : St → XK} {x : Str} (F : FnOk X.prog X.w X.K X.mg X.base CX k f fd ps sp) (hr : Room k X.A) (hg : Gl X x) (hm : X.mg x = some (.ref f)) (hk : PySem.W.keepIn X.K (.ref f) = true) (hb : Binds X.K fd ps []) (hx : ∀ σ, PassesAt CX X σ (E σ))
    (hdb : (x == ("__debug__" : Str)) = false) : PE X (.Call (.Name x p) [] [] pos) (tCallS sp E tNil) := by
  refine ⟨fun pins s σ H Q I h => ?_⟩
  refine wpAny_Call_Name_kw (ld_glob I hg hm ?_ hdb)
  exact PySem.W.callWith_K0 I.kIn hk (run_fnS (us := []) F hr hb (hx σ) I .nil h)
theorem s_call {P : Pg} {n b : Nat} {fn : Fn} {f : Addr} {fd : FuncData} {ps : List Str} {x : Str} (F : FnOk X.prog X.w X.K X.mg X.base (L2N.CX X.prog X.w) (b + 1) f fd ps (spF xr X.K P b fn)) (hr : Room (b + 1) X.A) (hg : Gl X x) (hm : X.mg x = some (.ref f)) (hk : PySem.W.keepIn X.K (.ref f) = true)
    (hb : Binds X.K fd ps []) (tk : L2N.Takes X W) (hx : plainNm x = true) (h0 : as ≠ []) (hn : as.all noStar = true) (ha : PA X as (tA xr X.K W fs)) :
    PE X (.Call (.Name x p) as [] pos) (tE xr X.K W fun sl S => (fs sl S).bind fun ds S1 => fnD (evN P n) b fn ds S1) := by
  simp only [plainNm, Bool.and_eq_true, Bool.not_eq_true'] at hx
  have key : ∀ {σ : St} {H : Hp} {Q : VK}, tE xr X.K W (fun sl S => (fs sl S).bind fun ds S1 => fnD (evN P n) b fn ds S1) σ H Q → tCallS (spF xr X.K P b fn) (WE W) (tA xr X.K W fs) σ H Q := fun {σ H Q} q =>
    (tG.bind (rel' := RVs X.K) q).imp fun xs H1 ⟨ρ1, S1, sl, ds, st, sr, rd, o⟩ => ⟨n, ρ1, S1, ds, st, rd, by
      generalize fnD (evN P n) b fn ds S1 = r at o
      cases r <;> exact o⟩
  cases as with
  | nil => exact absurd rfl h0
  | cons e as => exact PE.imp (pe_callS (E := WE W) F hr hg hm hk hb (fun σ => L2N.passAt tk σ) ha hx.1.1 (star_cons (Bool.and_eq_true_iff.mp hn).1) (star_any (Bool.and_eq_true_iff.mp hn).2)) fun σ H Q q => key q
theorem s_call0 {P : Pg} {n b : Nat} {fn : Fn} {f : Addr} {fd : FuncData} {ps : List Str} {x : Str} {g : E → Sl → Sto → R D} (F : FnOk X.prog X.w X.K X.mg X.base (L2N.CX X.prog X.w) (b + 1) f fd ps (spF xr X.K P b fn)) (hr : Room (b + 1) X.A) (hg : Gl X x) (hm : X.mg x = some (.ref f)) (hk : PySem.W.keepIn X.K (.ref f) = true)
    (hb : Binds X.K fd ps []) (tk : L2N.Takes X W) (hx : plainNm x = true) :
    PE X (.Call (.Name x p) [] [] pos) (tE xr X.K W fun sl S => (evEs (fun e S => g e sl S) [] S).bind fun ds S1 => fnD (evN P n) b fn ds S1) := by
  simp only [plainNm, Bool.and_eq_true, Bool.not_eq_true'] at hx
  refine PE.imp (pe_callS0 (E := WE W) F hr hg hm hk hb (fun σ => L2N.passAt tk σ) hx.1.1) fun σ H Q ⟨ρ, S, sl, st, sr, o⟩ => ?_
  refine ⟨n, ρ, S, [], st, rfl, ?_⟩
  have o : OutG xr X.K W (RV X.K) σ (fnD (evN P n) b fn [] S) ρ H Q := o
  generalize fnD (evN P n) b fn [] S = r at o ⊢
  cases r <;> exact o

/-! targets -/
/-- the slots but those at ix stand as before -/
def SameBut (ix : List Nat) (σ σ' : St) : Prop := σ'.length = σ.length ∧ ∀ i, i ∉ ix → σ'[i]? = σ[i]?
theorem SameBut.refl {ix : List Nat} {σ : St} : SameBut ix σ σ := ⟨rfl, fun _ _ => rfl⟩
theorem SameBut.trans {ix jx : List Nat} {σ σ1 σ2 : St} (a : SameBut ix σ σ1) (b : SameBut jx σ1 σ2) : SameBut (ix ++ jx) σ σ2 :=
  ⟨b.1.trans a.1, fun i hi => (b.2 i fun z => hi (List.mem_append_right _ z)).trans (a.2 i fun z => hi (List.mem_append_left _ z))⟩
def OutT (xr : XRel) (K : PySem.W.Frag) (W : WX) (ix : List Nat) (σ : St) (r : R Sl) (ρ : Rh) (H : Hp) (Q : St → Hp → Prop) : Prop :=
  match r with
  | .ok sl S => ∀ ρ' H' σ', Ext ρ H ρ' H' → StR K ρ' S H' → SlR K ρ' H' sl σ' → SameBut ix σ σ' → Q σ' H'
  | .ex x S => ∀ ρ' H' cls d σ', Ext ρ H ρ' H' → StR K ρ' S H' → xr x cls d ρ' H' → W cls d σ' H'
  | .no => False
def tTg (xr : XRel) (K : PySem.W.Frag) (W : WX) (ix : List Nat) (f : D → Sl → Sto → R Sl) : TG := fun v σ H Q =>
  ∃ ρ S sl d, StR K ρ S H ∧ SlR K ρ H sl σ ∧ RV K ρ H d v ∧ OutT xr K W ix σ (f d sl S) ρ H Q
def tTs (xr : XRel) (K : PySem.W.Frag) (W : WX) (ix : List Nat) (f : List D → Sl → Sto → R Sl) : TGs := fun vs σ H Q =>
  ∃ ρ S sl ds, StR K ρ S H ∧ SlR K ρ H sl σ ∧ RVs K ρ H ds vs ∧ OutT xr K W ix σ (f ds sl S) ρ H Q
theorem PGs.imp {X : Cx} {es : List Expr} {t t' : TGs} (h : PGs X es t) (i : ∀ vs σ H Q, t' vs σ H Q → t vs σ H Q) : PGs X es t' := ⟨fun pins s σ H vs us Q I r q => h.run pins s σ H vs us Q I r (i _ _ _ _ q)⟩
theorem OutT.ext {ix : List Nat} {σ : St} {r : R Sl} {ρ ρ' : Rh} {H H' : Hp} {Q : St → Hp → Prop} {K : PySem.W.Frag} (h : OutT xr K W ix σ r ρ H Q) (e : Ext ρ H ρ' H') : OutT xr K W ix σ r ρ' H' Q := by
  cases r with
  | ok a S => exact fun ρ2 H2 v e2 => h ρ2 H2 v (e.trans e2)
  | ex x S => exact fun ρ2 H2 c d v e2 => h ρ2 H2 c d v (e.trans e2)
  | no => exact h
theorem OutT.imp {ix : List Nat} {σ : St} {r : R Sl} {ρ : Rh} {H : Hp} {Q Q' : St → Hp → Prop} {K : PySem.W.Frag} (h : OutT xr K W ix σ r ρ H Q) (i : ∀ σ H, Q σ H → Q' σ H) : OutT xr K W ix σ r ρ H Q' := by
  cases r with
  | ok a S => exact fun ρ2 H2 v e2 st sl sb => i _ _ (h ρ2 H2 v e2 st sl sb)
  | ex x S => exact h
  | no => exact h
theorem g_nm {i : Nat} {x : Str} (hN : X.N.Nodup) (hi : X.N[i]? = some x) (hx : locB X.env.scope x = true) (hf : (X.fn x || isLocB X.env.scope x) = true) : PG X (.Name x pos) (tTg xr X.K W [i] fun d sl S => .ok (sl.set i (some d)) S) := by
  have hf' : X.fn x = true ∨ X.env.scope.names.lookup x = some .local := by
    rcases Bool.or_eq_true_iff.mp hf with z | z
    · exact .inl z
    · exact .inr (isLocB_ok z)
  refine PG.imp (pg_name hN hi (locB_ok hx) hf') fun v σ H Q ⟨ρ, S, sl, d, st, sr, rd, o⟩ => ?_
  exact o ρ H _ Ext.refl st (sr.set rd) ⟨by simp, fun j hj => List.getElem?_set_ne (fun z => hj (by simp [z]))⟩
theorem gs_nil {f : T → D → Sl → Sto → R Sl} : PGs X [] (tTs xr X.K W [] fun ds sl S => setTs f [] ds sl S) := by
  refine PGs.imp pgs_nil fun vs σ H Q ⟨ρ, S, sl, ds, st, sr, rd, o⟩ => ?_
  cases ds with
  | nil => exact ⟨rd, o ρ H σ Ext.refl st sr SameBut.refl⟩
  | cons => exact o.elim
theorem OutT.bind {ix jx : List Nat} {σ : St} {r : R Sl} {g : Sl → Sto → R Sl} {ρ : Rh} {H : Hp} {Q : St → Hp → Prop} {K : PySem.W.Frag} (h : OutT xr K W (ix ++ jx) σ (r.bind g) ρ H Q) :
    OutT xr K W ix σ r ρ H (fun σ1 H1 => ∃ ρ1 S1 sl1, Ext ρ H ρ1 H1 ∧ StR K ρ1 S1 H1 ∧ SlR K ρ1 H1 sl1 σ1 ∧ OutT xr K W jx σ1 (g sl1 S1) ρ1 H1 Q) := by
  cases r with
  | ok a S =>
    intro ρ1 H1 σ1 e st sr sb
    refine ⟨ρ1, S, a, e, st, sr, ?_⟩
    have h : OutT xr K W (ix ++ jx) σ (g a S) ρ H Q := h
    generalize g a S = r2 at h
    cases r2 with
    | ok b S2 => exact fun ρ2 H2 σ2 e2 st2 sr2 sb2 => h ρ2 H2 σ2 (e.trans e2) st2 sr2 (sb.trans sb2)
    | ex x S2 => exact fun ρ2 H2 c d v e2 => h ρ2 H2 c d v (e.trans e2)
    | no => exact h
  | ex x S => exact h
  | no => exact h
theorem asg_cons {es : List Expr} {env : Env} (h : noStar e = true) : assignEach (e :: es) env = (false, assign e env) :: assignEach es env := by
  cases e <;> first | rfl | cases h
theorem gs_cons {es : List Expr} {t : T} {ts : List T} {ix jx : List Nat} {f : T → D → Sl → Sto → R Sl} (hn : noStar e = true) (h1 : PG X e (tTg xr X.K W ix (f t))) (h2 : PGs X es (tTs xr X.K W jx fun ds sl S => setTs f ts ds sl S)) :
    PGs X (e :: es) (tTs xr X.K W (ix ++ jx) fun ds sl S => setTs f (t :: ts) ds sl S) := by
  refine PGs.imp (pgs_cons h1 h2 (by rw [asg_cons hn]; rfl)) fun vs σ H Q ⟨ρ, S, sl, ds, st, sr, rd, o⟩ => ?_
  cases ds with
  | nil => exact o.elim
  | cons d ds =>
    obtain ⟨v, r, rfl, r1, r2⟩ := rd
    refine ⟨v, r, rfl, ρ, S, sl, d, st, sr, r1, (OutT.bind (r := f t d sl S) o).imp fun σ1 H1 ⟨ρ1, S1, sl1, e1, st1, sr1, o1⟩ => ?_⟩
    exact ⟨ρ1, S1, sl1, ds, st1, sr1, RVs.mono e1 _ _ r2, o1⟩
theorem outT_if {ix : List Nat} {σ : St} {c : Prop} [Decidable c] {r : R Sl} {ρ : Rh} {H : Hp} {Q : St → Hp → Prop} {K : PySem.W.Frag} (h : OutT xr K W ix σ (if c then r else .no) ρ H Q) : c ∧ OutT xr K W ix σ r ρ H Q := by
  by_cases hc : c
  · rw [if_pos hc] at h; exact ⟨hc, h⟩
  · rw [if_neg hc] at h; exact h.elim
theorem asg_len {env : Env} : ∀ {es : List Expr}, es.all noStar = true → (assignEach es env).length = es.length ∧ (assignEach es env).findIdx? (·.1) = none
  | [], _ => ⟨rfl, rfl⟩
  | e :: r, h => by
    obtain ⟨h1, h2⟩ := Bool.and_eq_true_iff.mp h
    obtain ⟨i1, i2⟩ := asg_len (env := env) h2
    rw [asg_cons h1]
    exact ⟨by simp [i1], by simp [List.findIdx?_cons, i2]⟩
theorem g_tp {es : List Expr} {k : Nat} {ts : List T} {ix : List Nat} {f : T → D → Sl → Sto → R Sl} (hc : X.calm = true) (hn : es.all noStar = true) (hl : es.length = ts.length) (h : PGs X es (tTs xr X.K W ix fun ds sl S => setTs f ts ds sl S)) :
    PG X (.Tuple es k pos) (tTg xr X.K W ix fun d sl S => match d with
      | .tup xs => if xs.length = ts.length then setTs f ts xs sl S else .no
      | _ => .no) := by
  refine PG.imp (pg_tup (n := es.length) hc h (asg_len hn).1 (asg_len hn).2) fun v σ H Q ⟨ρ, S, sl, d, st, sr, rd, o⟩ => ?_
  cases d with
  | tup xs =>
    obtain ⟨a, vs, rfl, h1, h2⟩ := rd
    obtain ⟨hz, o⟩ := outT_if (r := setTs f ts xs sl S) o
    exact ⟨a, vs, rfl, tup_sq h1, by rw [h2.length, hz, hl], ρ, S, sl, xs, st, sr, h2, o⟩
  | _ => exact o.elim
theorem OutT.bindE {ix : List Nat} {σ : St} {r : R D} {g : D → Sto → R Sl} {ρ : Rh} {H : Hp} {Q : St → Hp → Prop} {K : PySem.W.Frag} (h : OutT xr K W ix σ (r.bind g) ρ H Q) :
    OutG xr K W (RV K) σ r ρ H (fun x H1 => ∃ ρ1 S1 a, Ext ρ H ρ1 H1 ∧ StR K ρ1 S1 H1 ∧ RV K ρ1 H1 a x ∧ OutT xr K W ix σ (g a S1) ρ1 H1 Q) := by
  cases r with
  | ok a S => exact fun ρ2 H2 v e2 st rv => ⟨ρ2, S, a, e2, st, rv, OutT.ext h e2⟩
  | ex x S => exact fun ρ2 H2 c d e2 st2 xx => h ρ2 H2 c d σ e2 st2 xx
  | no => exact h
theorem g_ix (hs : noSlice b = true) (ha : PE X a (tE xr X.K W fa)) (hb : PE X b (tE xr X.K W fb)) : PG X (.Subscript a b pos) (tTg xr X.K W [] fun d sl S => (fa sl S).bind fun o S1 => (fb sl S1).bind fun i S2 => (nox (setIx o i d S2)).bind fun _ S3 => .ok sl S3) := by
  refine PG.imp (pg_sub ha hb opd_set (by intro v; cases b <;> first | rfl | cases hs)) fun v σ H Q ⟨ρ, S, sl, d, st, sr, rd, o⟩ => ?_
  refine ⟨ρ, S, sl, st, sr, (OutT.bindE o).imp fun x H1 ⟨ρ1, S1, oo, e1, st1, r1, o1⟩ => ?_⟩
  refine ⟨ρ1, S1, sl, st1, sr.mono e1, (OutT.bindE o1).imp fun y H2 ⟨ρ2, S2, ii, e2, st2, r2, o2⟩ => ?_⟩
  cases q : setIx oo ii d S2 with
  | ok u S3 =>
    rw [q] at o2
    cases u
    exact ⟨ρ2, S2, oo, ii, d, S3, st2, RV.mono e2 _ _ r1, r2, RV.mono e2 _ _ (RV.mono e1 _ _ rd), q, fun ρ3 H3 e3 st3 => o2 ρ3 H3 σ e3 st3 ((sr.mono e1).mono (e2.trans e3)) SameBut.refl⟩
  | ex x S3 => rw [q] at o2; exact o2.elim
  | no => rw [q] at o2; exact o2.elim

/-! what is walked -/
/-- the walk J hands out ds, whatever the heap becomes -/
def ItOk (K : PySem.W.Frag) (ρ0 : Rh) (H0 : Hp) (J : It) (w : Wk) : Prop := ∀ (i : Nat) (ρ : Rh) (S : Sto) (H : Hp), ExtB ρ0 H0 ρ H → StR K ρ S H → gdOk S w.gd = true →
  (∀ d, w.ds[i]? = some d → J.go i H ∧ ∀ x H', J.yld i H x H' → Ext ρ H ρ H' ∧ StR K ρ S H' ∧ RV K ρ H' d x) ∧ (w.ds.length ≤ i → J.stop i H)
def OutI (xr : XRel) (K : PySem.W.Frag) (W : WX) (σ : St) (r : R Wk) (ρ : Rh) (H : Hp) (Q : It → Hp → Prop) : Prop :=
  match r with
  | .ok ds S => ∀ ρ' H' J, Ext ρ H ρ' H' → StR K ρ' S H' → ItOk K ρ' H' J ds → Q J H'
  | .ex x S => ∀ ρ' H' cls d, Ext ρ H ρ' H' → StR K ρ' S H' → xr x cls d ρ' H' → W cls d σ H'
  | .no => False
def tIt (xr : XRel) (K : PySem.W.Frag) (W : WX) (f : Sl → Sto → R Wk) : TI := fun σ H Q =>
  ∃ ρ S sl, StR K ρ S H ∧ SlR K ρ H sl σ ∧ OutI xr K W σ (f sl S) ρ H Q
theorem OutI.ext {σ : St} {r : R Wk} {ρ ρ' : Rh} {H H' : Hp} {Q : It → Hp → Prop} {K : PySem.W.Frag} (h : OutI xr K W σ r ρ H Q) (e : Ext ρ H ρ' H') : OutI xr K W σ r ρ' H' Q := by
  cases r with
  | ok a S => exact fun ρ2 H2 v e2 => h ρ2 H2 v (e.trans e2)
  | ex x S => exact fun ρ2 H2 c d e2 => h ρ2 H2 c d (e.trans e2)
  | no => exact h
theorem OutI.bind {σ : St} {r : R D} {g : D → Sto → R Wk} {ρ : Rh} {H : Hp} {Q : It → Hp → Prop} {K : PySem.W.Frag} (h : OutI xr K W σ (r.bind g) ρ H Q) :
    OutG xr K W (RV K) σ r ρ H (fun x H1 => ∃ ρ1 S1 a, Ext ρ H ρ1 H1 ∧ StR K ρ1 S1 H1 ∧ RV K ρ1 H1 a x ∧ OutI xr K W σ (g a S1) ρ1 H1 Q) := by
  cases r with
  | ok a S => exact fun ρ2 H2 v e2 st rv => ⟨ρ2, S, a, e2, st, rv, OutI.ext h e2⟩
  | ex x S => exact h
  | no => exact h
mutual
theorem sameD_ok : ∀ (a b : D), sameD a b = true → a = b
  | .non, b, h => by cases b <;> first | rfl | cases h
  | .bl _, b, h => by cases b <;> first | (cases h; done) | (rw [show _ = _ from beq_iff_eq.mp h])
  | .int _, b, h => by cases b <;> first | (cases h; done) | (rw [show _ = _ from beq_iff_eq.mp h])
  | .str _, b, h => by cases b <;> first | (cases h; done) | (rw [show _ = _ from beq_iff_eq.mp h])
  | .ref _, b, h => by cases b <;> first | (cases h; done) | (rw [show _ = _ from beq_iff_eq.mp h])
  | .tup xs, b, h => by
    cases b with
    | tup ys => rw [sameDs_ok xs ys h]
    | _ => cases h
  | .lst xs, b, h => by
    cases b with
    | lst ys => rw [sameDs_ok xs ys h]
    | _ => cases h
  | .frz xs, b, h => by
    cases b with
    | frz ys => rw [sameDs_ok xs ys h]
    | _ => cases h
theorem sameDs_ok : ∀ (a b : List D), sameDs a b = true → a = b
  | [], b, h => by cases b <;> first | rfl | cases h
  | x :: r, b, h => by
    cases b with
    | nil => cases h
    | cons y t =>
      obtain ⟨h1, h2⟩ := Bool.and_eq_true_iff.mp h
      rw [sameD_ok x y h1, sameDs_ok r t h2]
end
/-- the list at a holds w's items, as long as the guard holds -/
def LvAt (K : PySem.W.Frag) (ρ0 : Rh) (H0 : Hp) (a : Addr) (w : Wk) : Prop := ∀ (ρ : Rh) (S : Sto) (H : Hp), ExtB ρ0 H0 ρ H → StR K ρ S H → gdOk S w.gd = true → ∃ vs, SqL K H a vs ∧ RVs K ρ H w.ds vs
theorem lv_lst {K : PySem.W.Frag} {ρ0 : Rh} {H0 : Hp} {a : Addr} {vs : List V} {ds : List D} (h1 : H0 a = some (.lst vs)) (h2 : ¬ ρ0.has a) (r : RVs K ρ0 H0 ds vs) : LvAt K ρ0 H0 a ⟨ds, none⟩ := fun ρ S H e st _ =>
  ⟨vs, SqL.of (e.keep a _ h1 (fun z => h2 (.inl z)) (by simp)), RVs.monoB e _ _ r⟩
theorem lv_ref {K : PySem.W.Frag} {ρ0 : Rh} {H0 : Hp} {a : Addr} {n : Nat} {ds : List D} (h1 : ρ0.ix[n]? = some a) : LvAt K ρ0 H0 a ⟨ds, some (n, ds)⟩ := fun ρ S H e st g => by
  have g : (match S[n]? with | some ys => sameDs ys ds | none => false) = true := g
  split at g
  · rename_i ys hy
    have ey := sameDs_ok _ _ g
    subst ey
    obtain ⟨a', vs, q1, q2, q3⟩ := st.at_ n _ hy
    rw [e.get h1] at q1
    cases q1
    exact ⟨vs, SqL.of q2, q3⟩
  · cases g
theorem it_list {ρ0 : Rh} {H0 : Hp} {a : Addr} {w : Wk} (h : LvAt X.K ρ0 H0 a w) : ItOk X.K ρ0 H0 (Itl X.K a) w := by
  intro i ρ S H e st g
  obtain ⟨vs, hq, r⟩ := h ρ S H e st g
  have hl := r.length
  refine ⟨fun d hd => ?_, fun hi => ⟨vs, hq, by omega⟩⟩
  obtain ⟨v, hv, rv⟩ := r.get hd
  refine ⟨⟨vs, v, hq, hv⟩, fun x H' ⟨eH, hx⟩ => ?_⟩
  subst eH
  have := hx vs hq
  rw [hv] at this
  cases this
  exact ⟨Ext.refl, st, rv⟩
theorem walk_lv {K : PySem.W.Frag} {ρ : Rh} {H : Hp} {S : Sto} {d : D} {x : V} {w : Wk} (st : StR K ρ S H) (r : RV K ρ H d x) (e : walkD S d = some w) (ht : ∀ xs, d ≠ .tup xs) : ∃ a vs, x = .ref a ∧ SqL K H a vs ∧ LvAt K ρ H a w := by
  cases d with
  | tup xs => exact absurd rfl (ht xs)
  | lst xs =>
    cases e
    obtain ⟨a, vs, rfl, h1, h2⟩ := r
    exact ⟨a, vs, rfl, SqL.of h1.1, lv_lst h1.1 h1.2 h2⟩
  | ref n =>
    obtain ⟨a, rfl, h1⟩ := r
    unfold walkD at e
    dsimp only at e
    split at e
    · rename_i xs hx
      cases e
      obtain ⟨vs, q⟩ := st.ne a (List.mem_of_getElem? h1)
      exact ⟨a, vs, rfl, SqL.of q, lv_ref h1⟩
    · cases e
  | _ => cases e
theorem it_tup {ρ0 : Rh} {H0 : Hp} {a : Addr} {vs : List V} {ds : List D} (h1 : (H0 a = some (.tup vs) ∧ ¬ ρ0.has a) ∨ KT X.K a vs) (r : RVs X.K ρ0 H0 ds vs) : ItOk X.K ρ0 H0 (Itt X.K a) ⟨ds, none⟩ := by
  intro i ρ S H e st _
  have hq : SqT X.K H a vs := by
    rcases h1 with ⟨h1, h2⟩ | h1
    · exact SqT.of (e.keep a _ h1 (fun z => h2 (.inl z)) (by simp))
    · exact .inr h1
  have hl := r.length
  refine ⟨fun d hd => ?_, fun hi => ⟨vs, hq, by have hi : ds.length ≤ i := hi; omega⟩⟩
  obtain ⟨v, hv, rv⟩ := r.get hd
  refine ⟨⟨vs, v, hq, hv⟩, fun x H' ⟨eH, hx⟩ => ?_⟩
  subst eH
  have := hx vs hq
  rw [hv] at this
  cases this
  exact ⟨Ext.refl, st, RV.monoB e _ _ rv⟩
theorem it_str {ρ0 : Rh} {H0 : Hp} (z : List Nat) : ItOk X.K ρ0 H0 (L2.Its (toStr z)) ⟨z.map fun q => .str [q], none⟩ := by
  intro i ρ S H e st _
  refine ⟨fun d hd => ?_, fun hi => ?_⟩
  · have hd : (z.map fun q => D.str [q])[i]? = some d := hd
    rw [List.getElem?_map] at hd
    obtain ⟨q, hq, rfl⟩ := Option.map_eq_some_iff.mp hd
    refine ⟨by have := (List.getElem?_eq_some_iff.mp hq).1; show i < (toStr z).cps.size; simpa using this, fun x H' ⟨eH, c, hc, hx⟩ => ?_⟩
    subst eH hx
    have hc' : z[i]? = some c := by simpa using hc
    rw [hq] at hc'
    cases hc'
    exact ⟨Ext.refl, st, rfl, by rw [sizeLine_eq]; simp⟩
  · show (toStr z).cps.size ≤ i
    simpa using hi
theorem rngI_get : ∀ (n i : Nat) (lo : Int), (rngI lo n)[i]? = if i < n then some (.int (lo + i)) else none
  | 0, i, lo => by simp [rngI]
  | n + 1, 0, lo => by simp [rngI]
  | n + 1, i + 1, lo => by
    show (rngI (lo + 1) n)[i]? = _
    rw [rngI_get n i (lo + 1)]
    by_cases h : i < n
    · rw [if_pos h, if_pos (by omega)]
      congr 2
      omega
    · rw [if_neg h, if_neg (by omega)]
theorem rngI_len (n : Nat) : ∀ lo : Int, (rngI lo n).length = n := by
  induction n with
  | zero => intro lo; rfl
  | succ n ih => intro lo; simp [rngI, ih]
theorem it_rng {ρ0 : Rh} {H0 : Hp} (lo : Int) (n : Nat) : ItOk X.K ρ0 H0 (Itr lo n) ⟨rngI lo n, none⟩ := by
  intro i ρ S H e st _
  refine ⟨fun d hd => ?_, fun hi => by have hi : (rngI lo n).length ≤ i := hi; rw [rngI_len] at hi; exact hi⟩
  have hd : (rngI lo n)[i]? = some d := hd
  rw [rngI_get] at hd
  by_cases h : i < n
  · rw [if_pos h] at hd
    cases hd
    exact ⟨h, fun x H' ⟨eH, hx⟩ => by subst eH hx; exact ⟨Ext.refl, st, rfl⟩⟩
  · rw [if_neg h] at hd; cases hd
theorem enumD_get : ∀ (xs : List D) (i : Nat) (lo : Int), (enumD lo xs)[i]? = (xs[i]?).map fun x => .tup [.int (lo + i), x]
  | [], i, lo => by simp [enumD]
  | x :: r, 0, lo => by simp [enumD]
  | x :: r, i + 1, lo => by
    show (enumD (lo + 1) r)[i]? = _
    rw [enumD_get r i (lo + 1)]
    have e : lo + 1 + (i : Int) = lo + ((i + 1 : Nat) : Int) := by omega
    simp [e]
theorem enumD_len : ∀ (xs : List D) (lo : Int), (enumD lo xs).length = xs.length
  | [], _ => rfl
  | _ :: r, lo => by simp [enumD, enumD_len r]
theorem zipD_get : ∀ (xs ys : List D) (i : Nat), (zipD xs ys)[i]? = match xs[i]?, ys[i]? with
    | some x, some y => some (.tup [x, y])
    | _, _ => none
  | [], ys, i => by simp [zipD]
  | x :: r, [], i => by
    simp [zipD]
  | x :: r, y :: t, 0 => by simp [zipD]
  | x :: r, y :: t, i + 1 => by
    show (zipD r t)[i]? = _
    rw [zipD_get r t i]
    simp
theorem zipD_len : ∀ (xs ys : List D), (zipD xs ys).length = min xs.length ys.length
  | [], ys => by simp [zipD]
  | x :: r, [] => by simp [zipD]
  | x :: r, y :: t => by simp [zipD, zipD_len r t]

def iAny (K : PySem.W.Frag) (tl : TE) : TI := fun σ H R => tl σ H fun x H1 => (∃ a xs, x = .ref a ∧ SqL K H1 a xs ∧ R (Itl K a) H1) ∨ (∃ a xs, x = .ref a ∧ SqT K H1 a xs ∧ R (Itt K a) H1) ∨ ∃ z, x = .str z ∧ R (Its z) H1
theorem pi_any {tg l : Expr} {tl : TE} (hl : PE X l tl) : PI X tg l (iAny X.K tl) := by
  refine ⟨fun pins s σ H R I h => ?_⟩
  refine thn (hl.run pins s σ H _ I h) fun v s1 ⟨x, H1, I1, r1, q1⟩ => ?_
  rcases q1 with ⟨a, xs, rfl, hq, q⟩ | ⟨a, xs, rfl, hq, q⟩ | ⟨z, rfl, q⟩
  · cases r1
    obtain ⟨its, rv, p, hz⟩ := I1.list hq
    refine wpAny_pyIter_list p.isList ?_
    refine ⟨s1.heap.objs.size, [s1.heap.objs.size], _, _, H1, rfl, I1.kept (t' := s1.toks) fun b o e => Heap.get?_push_of_some _ e, turn_list a _, ⟨_, Heap.get?_push_size _ rfl, rfl, rfl⟩, fun b hb => ?_, q⟩
    have e : b = s1.heap.objs.size := by simpa using hb
    subst e
    exact I1.fpOk (Nat.le_refl _) (I1.hok.fresh (Nat.le_refl _))
  · cases r1
    obtain ⟨its, rv, p, hz⟩ := I1.tuple hq
    refine wpAny_pyIter_tuple (show s1.heap.IsTuple a its.toArray from p) ?_
    refine ⟨s1.heap.objs.size, [s1.heap.objs.size], _, _, H1, rfl, I1.kept (t' := s1.toks) fun b o e => Heap.get?_push_of_some _ e, turn_tuple a _, ⟨_, Heap.get?_push_size _ rfl, rfl, rfl⟩, fun b hb => ?_, q⟩
    have e : b = s1.heap.objs.size := by simpa using hb
    subst e
    exact I1.fpOk (Nat.le_refl _) (I1.hok.fresh (Nat.le_refl _))
  · obtain ⟨t, rfl⟩ := r1
    cases ha : z.cps.all (· < 128)
    · exact wpAny_pyIter_wide ha (pi_one (tk := s1.toks) I1 _ (turn_str _ z t "str_iterator" (.inr rfl)) ⟨_, Heap.get?_push_size _ rfl, rfl, rfl⟩ q)
    · exact wpAny_pyIter_ascii ha (pi_one (tk := s1.toks) I1 _ (turn_str _ z t "str_ascii_iterator" (.inl rfl)) ⟨_, Heap.get?_push_size _ rfl, rfl, rfl⟩ q)
variable {tg : Expr}
theorem i_seq (ha : PE X a (tE xr X.K W fa)) : PI X tg a (tIt xr X.K W fun sl S => (fa sl S).bind fun d S1 => match d with
    | .str s => .ok ⟨s.map fun q => .str [q], none⟩ S1
    | d => match walkD S1 d with
      | some w => .ok w S1
      | none => .no) := by
  refine PI.imp (pi_any ha) fun σ H R ⟨ρ, S, sl, st, sr, o⟩ => ⟨ρ, S, sl, st, sr, (OutI.bind o).imp fun x H1 ⟨ρ1, S1, d, e1, st1, rd, o1⟩ => ?_⟩
  split at o1
  · rename_i z
    obtain ⟨rfl, _⟩ := rd
    exact .inr (.inr ⟨_, rfl, o1 ρ1 H1 _ Ext.refl st1 (it_str z)⟩)
  · split at o1
    · rename_i w hw
      by_cases ht : ∃ xs, d = .tup xs
      · obtain ⟨xs, rfl⟩ := ht
        cases hw
        obtain ⟨p, vs, rfl, h1, h2⟩ := rd
        exact .inr (.inl ⟨p, vs, rfl, tup_sq h1, o1 ρ1 H1 _ Ext.refl st1 (it_tup h1 h2)⟩)
      · obtain ⟨p, vs, rfl, h1, h2⟩ := walk_lv st1 rd hw fun xs z => ht ⟨xs, z⟩
        exact .inl ⟨p, vs, rfl, h1, o1 ρ1 H1 _ Ext.refl st1 (it_list h2)⟩
    · exact o1.elim
theorem lim62_ok {i : Int} (h : lim62 i = true) : -(2 ^ 62) ≤ i ∧ i < 2 ^ 62 := by
  unfold lim62 at h
  simpa using h
theorem i_rng1 (hg : Gl X "range") (hm : X.mg "range" = none) (hn : noStar a = true) (ha : PE X a (tE xr X.K W fa)) : PI X tg (.Call (.Name "range" p) [a] [] pos) (tIt xr X.K W fun sl S => (fa sl S).bind fun d S1 => match d with
    | .int n => if lim62 n then .ok ⟨rngI 0 n.toNat, none⟩ S1 else .no
    | _ => .no) := by
  refine PI.imp (pi_range1 hg hm (pa_cons ha pa_nil (star_cons hn)) (star_cons hn)) fun σ H R ⟨ρ, S, sl, st, sr, o⟩ => ?_
  refine ⟨ρ, S, sl, st, sr, (OutI.bind o).imp fun x H1 ⟨ρ1, S1, d, e1, st1, rd, o1⟩ => ?_⟩
  split at o1
  · cases rd
    split at o1
    · rename_i hl
      obtain ⟨l1, l2⟩ := lim62_ok hl
      exact ⟨_, rfl, l1, l2, o1 ρ1 H1 _ Ext.refl st1 (it_rng 0 _)⟩
    · exact o1.elim
  · exact o1.elim
theorem i_rng2 (hg : Gl X "range") (hm : X.mg "range" = none) (hn : noStar a = true) (hn2 : noStar b = true) (ha : PE X a (tE xr X.K W fa)) (hb : PE X b (tE xr X.K W fb)) : PI X tg (.Call (.Name "range" p) [a, b] [] pos) (tIt xr X.K W fun sl S => (fa sl S).bind fun d S1 => (fb sl S1).bind fun e S2 => match d, e with
    | .int i, .int j => if lim62 i && lim62 j then .ok ⟨rngI i (j - i).toNat, none⟩ S2 else .no
    | _, _ => .no) := by
  refine PI.imp (pi_range2 hg hm (pa_cons ha (pa_cons hb pa_nil (star_cons hn2)) (star_cons hn)) (by rw [star_cons hn, star_cons hn2]; rfl) (star_cons hn2)) fun σ H R ⟨ρ, S, sl, st, sr, o⟩ => ?_
  refine ⟨ρ, S, sl, st, sr, (OutI.bind o).imp fun x H1 ⟨ρ1, S1, d, e1, st1, rd, o1⟩ => ?_⟩
  refine ⟨ρ1, S1, sl, st1, sr.mono e1, (OutI.bind o1).imp fun y H2 ⟨ρ2, S2, e, e2, st2, re, o2⟩ => ?_⟩
  split at o2
  · cases rd
    cases re
    split at o2
    · rename_i hl
      obtain ⟨c1, c2⟩ := Bool.and_eq_true_iff.mp hl
      obtain ⟨l1, l2⟩ := lim62_ok c1
      obtain ⟨l3, l4⟩ := lim62_ok c2
      exact ⟨_, _, rfl, ⟨l1, l2, l3, l4⟩, o2 ρ2 H2 _ Ext.refl st2 (it_rng _ _)⟩
    · exact o2.elim
  · exact o2.elim
theorem it_enumL {ρ0 : Rh} {H0 : Hp} {a : Addr} {w : Wk} (h : LvAt X.K ρ0 H0 a w) : ItOk X.K ρ0 H0 (Ite X.K a) ⟨enumD 0 w.ds, w.gd⟩ := by
  intro i ρ S H e st g
  obtain ⟨vs, hq, r⟩ := h ρ S H e st g
  have hl := r.length
  refine ⟨fun d hd => ?_, fun hi => ⟨vs, hq, by have hi : (enumD 0 w.ds).length ≤ i := hi; rw [enumD_len] at hi; omega⟩⟩
  have hd : (enumD 0 w.ds)[i]? = some d := hd
  rw [enumD_get] at hd
  obtain ⟨d0, hd0, rfl⟩ := Option.map_eq_some_iff.mp hd
  obtain ⟨v, hv, rv⟩ := r.get hd0
  refine ⟨⟨vs, v, hq, hv⟩, fun x H' ⟨T, y, ex, hT, eH, hx⟩ => ?_⟩
  subst ex eH
  have := hx vs hq
  rw [hv] at this
  cases this
  have en : Ext ρ H ρ (upd H T (.tup [.int (i : Nat), v])) := Ext.new _ hT
  refine ⟨en, st.new _ hT, T, _, rfl, .inl ⟨upd_same, st.fresh hT⟩, _, _, rfl, ?_, _, _, rfl, RV.mono en _ _ rv, rfl⟩
  show V.int (i : Nat) = V.int (0 + (i : Int))
  rw [Int.zero_add]
theorem it_enumT {ρ0 : Rh} {H0 : Hp} {a : Addr} {vs : List V} {ds : List D} (h1 : (H0 a = some (.tup vs) ∧ ¬ ρ0.has a) ∨ KT X.K a vs) (r : RVs X.K ρ0 H0 ds vs) : ItOk X.K ρ0 H0 (IteT X.K a) ⟨enumD 0 ds, none⟩ := by
  intro i ρ S H e st _
  have hq : SqT X.K H a vs := by
    rcases h1 with ⟨h1, h2⟩ | h1
    · exact SqT.of (e.keep a _ h1 (fun z => h2 (.inl z)) (by simp))
    · exact .inr h1
  have hl := r.length
  refine ⟨fun d hd => ?_, fun hi => ?_⟩
  · have hd : (enumD 0 ds)[i]? = some d := hd
    rw [enumD_get] at hd
    obtain ⟨d0, hd0, rfl⟩ := Option.map_eq_some_iff.mp hd
    obtain ⟨v, hv, rv⟩ := r.get hd0
    refine ⟨⟨vs, v, hq, hv⟩, fun x H' ⟨T, y, ex, hT, eH, hx⟩ => ?_⟩
    subst ex eH
    have := hx vs hq
    rw [hv] at this
    cases this
    have en : Ext ρ H ρ (upd H T (.tup [.int (i : Nat), v])) := Ext.new _ hT
    refine ⟨en, st.new _ hT, T, _, rfl, .inl ⟨upd_same, st.fresh hT⟩, _, _, rfl, ?_, _, _, rfl, RV.mono en _ _ (RV.monoB e _ _ rv), rfl⟩
    show V.int (i : Nat) = V.int (0 + (i : Int))
    rw [Int.zero_add]
  · have hi : (enumD 0 ds).length ≤ i := hi
    rw [enumD_len] at hi
    exact ⟨vs, hq, by omega⟩
theorem it_zipL {ρ0 : Rh} {H0 : Hp} {a b : Addr} {vs us : List V} {ds es : List D} (h1 : H0 a = some (.lst vs)) (h2 : ¬ ρ0.has a) (r : RVs X.K ρ0 H0 ds vs) (h3 : H0 b = some (.lst us)) (h4 : ¬ ρ0.has b) (r2 : RVs X.K ρ0 H0 es us) : ItOk X.K ρ0 H0 (Itz X.K a b) ⟨zipD ds es, none⟩ := by
  intro i ρ S H e st _
  have hq : SqL X.K H a vs := SqL.of (e.keep a _ h1 (fun z => h2 (.inl z)) (by simp))
  have hq2 : SqL X.K H b us := SqL.of (e.keep b _ h3 (fun z => h4 (.inl z)) (by simp))
  have hl := r.length
  have hl2 := r2.length
  refine ⟨fun d hd => ?_, fun hi => ⟨vs, us, hq, hq2, by have hi : (zipD ds es).length ≤ i := hi; rw [zipD_len] at hi; omega⟩⟩
  have hd : (zipD ds es)[i]? = some d := hd
  rw [zipD_get] at hd
  split at hd
  · rename_i x1 y1 hx1 hy1
    cases hd
    obtain ⟨v, hv, rv⟩ := r.get hx1
    obtain ⟨u, hu, ru⟩ := r2.get hy1
    refine ⟨⟨vs, us, v, u, hq, hq2, hv, hu⟩, fun x H' ⟨T, x2, y2, ex, hT, eH, hx, hy⟩ => ?_⟩
    subst ex eH
    have e1 := hx vs hq
    rw [hv] at e1
    cases e1
    have e2 := hy us hq2
    rw [hu] at e2
    cases e2
    have en : Ext ρ H ρ (upd H T (.tup [v, u])) := Ext.new _ hT
    exact ⟨en, st.new _ hT, T, _, rfl, .inl ⟨upd_same, st.fresh hT⟩, _, _, rfl, RV.mono en _ _ (RV.monoB e _ _ rv), _, _, rfl, RV.mono en _ _ (RV.monoB e _ _ ru), rfl⟩
  · cases hd
theorem it_zipT {ρ0 : Rh} {H0 : Hp} {a b : Addr} {vs us : List V} {ds es : List D} (h1 : (H0 a = some (.tup vs) ∧ ¬ ρ0.has a) ∨ KT X.K a vs) (r : RVs X.K ρ0 H0 ds vs) (h3 : (H0 b = some (.tup us) ∧ ¬ ρ0.has b) ∨ KT X.K b us) (r2 : RVs X.K ρ0 H0 es us) : ItOk X.K ρ0 H0 (RZ.ItzT X.K a b) ⟨zipD ds es, none⟩ := by
  intro i ρ S H e st _
  have hq : SqT X.K H a vs := by
    rcases h1 with ⟨h1, h2⟩ | h1
    · exact SqT.of (e.keep a _ h1 (fun z => h2 (.inl z)) (by simp))
    · exact .inr h1
  have hq2 : SqT X.K H b us := by
    rcases h3 with ⟨h1, h2⟩ | h1
    · exact SqT.of (e.keep b _ h1 (fun z => h2 (.inl z)) (by simp))
    · exact .inr h1
  have hl := r.length
  have hl2 := r2.length
  refine ⟨fun d hd => ?_, fun hi => ⟨vs, us, hq, hq2, by have hi : (zipD ds es).length ≤ i := hi; rw [zipD_len] at hi; omega⟩⟩
  have hd : (zipD ds es)[i]? = some d := hd
  rw [zipD_get] at hd
  split at hd
  · rename_i x1 y1 hx1 hy1
    cases hd
    obtain ⟨v, hv, rv⟩ := r.get hx1
    obtain ⟨u, hu, ru⟩ := r2.get hy1
    refine ⟨⟨vs, us, v, u, hq, hq2, hv, hu⟩, fun x H' ⟨T, x2, y2, ex, hT, eH, hx, hy⟩ => ?_⟩
    subst ex eH
    have e1 := hx vs hq
    rw [hv] at e1
    cases e1
    have e2 := hy us hq2
    rw [hu] at e2
    cases e2
    have en : Ext ρ H ρ (upd H T (.tup [v, u])) := Ext.new _ hT
    exact ⟨en, st.new _ hT, T, _, rfl, .inl ⟨upd_same, st.fresh hT⟩, _, _, rfl, RV.mono en _ _ (RV.monoB e _ _ rv), _, _, rfl, RV.mono en _ _ (RV.monoB e _ _ ru), rfl⟩
  · cases hd
theorem i_enum {elts : List Expr} {kk : Nat} {tpos : Pos} (hg : Gl X "enumerate") (hm : X.mg "enumerate" = none) (hn : noStar a = true) (ha : PE X a (tE xr X.K W fa)) : PI X (.Tuple elts kk tpos) (.Call (.Name "enumerate" p) [a] [] pos) (tIt xr X.K W fun sl S => (fa sl S).bind fun d S1 => match d with
    | .tup xs => .ok ⟨enumD 0 xs, none⟩ S1
    | d => match walkD S1 d with
      | some w => .ok ⟨enumD 0 w.ds, w.gd⟩ S1
      | none => .no) := by
  refine PI.imp (pi_enumA hg hm (pa_cons ha pa_nil (star_cons hn)) (star_cons hn)) fun σ H R ⟨ρ, S, sl, st, sr, o⟩ => ?_
  refine ⟨ρ, S, sl, st, sr, (OutI.bind o).imp fun x H1 ⟨ρ1, S1, d, e1, st1, rd, o1⟩ => ?_⟩
  split at o1
  · obtain ⟨q, vs, rfl, h1, h2⟩ := rd
    exact ⟨q, rfl, .inr ⟨vs, tup_sq h1, o1 ρ1 H1 _ Ext.refl st1 (it_enumT h1 h2)⟩⟩
  · rename_i ht
    split at o1
    · rename_i w hw
      obtain ⟨q, vs, rfl, h1, h2⟩ := walk_lv st1 rd hw ht
      exact ⟨q, rfl, .inl ⟨vs, h1, o1 ρ1 H1 _ Ext.refl st1 (it_enumL h2)⟩⟩
    · exact o1.elim
theorem i_zip {elts : List Expr} {kk : Nat} {tpos : Pos} (hg : Gl X "zip") (hm : X.mg "zip" = none) (hn : noStar a = true) (hn2 : noStar b = true) (ha : PE X a (tE xr X.K W fa)) (hb : PE X b (tE xr X.K W fb)) : PI X (.Tuple elts kk tpos) (.Call (.Name "zip" p) [a, b] [] pos) (tIt xr X.K W fun sl S => (fa sl S).bind fun d S1 => (fb sl S1).bind fun e S2 => match d, e with
    | .lst xs, .lst ys => .ok ⟨zipD xs ys, none⟩ S2
    | .tup xs, .tup ys => .ok ⟨zipD xs ys, none⟩ S2
    | _, _ => .no) := by
  refine PI.imp (RZ.pi_zipA hg hm (pa_cons ha (pa_cons hb pa_nil (star_cons hn2)) (star_cons hn)) (star_cons hn) (star_any (by simpa using hn2))) fun σ H R ⟨ρ, S, sl, st, sr, o⟩ => ?_
  refine ⟨ρ, S, sl, st, sr, (OutI.bind o).imp fun x H1 ⟨ρ1, S1, d, e1, st1, rd, o1⟩ => ?_⟩
  refine ⟨ρ1, S1, sl, st1, sr.mono e1, (OutI.bind o1).imp fun y H2 ⟨ρ2, S2, e, e2, st2, re, o2⟩ => ?_⟩
  have rd := RV.mono e2 _ _ rd
  split at o2
  · obtain ⟨q, vs, rfl, h1, h2⟩ := rd
    obtain ⟨q2, us, rfl, h3, h4⟩ := re
    exact ⟨q, q2, vs, us, rfl, .inl ⟨SqL.of h1.1, SqL.of h3.1, o2 ρ2 H2 _ Ext.refl st2 (it_zipL h1.1 h1.2 h2 h3.1 h3.2 h4)⟩⟩
  · obtain ⟨q, vs, rfl, h1, h2⟩ := rd
    obtain ⟨q2, us, rfl, h3, h4⟩ := re
    exact ⟨q, q2, vs, us, rfl, .inr ⟨tup_sq h1, tup_sq h3, o2 ρ2 H2 _ Ext.refl st2 (it_zipT h1 h2 h3 h4)⟩⟩
  · exact o2.elim
end
end Nv

end

section
set_option linter.all false
set_option maxRecDepth 100000
set_option maxHeartbeats 1000000
/-! Nv7: list displays by a loop; statements. -/
namespace Nv
open PySem PySem.Spec PyProof.Rows L2

abbrev W0 : WX := fun _ _ _ _ => False
theorem wipe_get (σ : St) : ∀ (vs : List Nat) (i : Nat), (wipe σ vs)[i]? = if i ∈ vs then (σ[i]?).map (fun _ => none) else σ[i]?
  | [], i => by simp [wipe]
  | v :: vs, i => by
    unfold wipe
    by_cases hv : v = i
    · subst hv
      rw [if_pos List.mem_cons_self]
      by_cases hl : v < σ.length
      · rw [List.getElem?_set_self (by rw [wipe_length]; exact hl), List.getElem?_eq_getElem hl]
        rfl
      · rw [List.getElem?_eq_none (by rw [List.length_set, wipe_length]; omega), List.getElem?_eq_none (by omega)]
        rfl
    · rw [List.getElem?_set_ne hv, wipe_get σ vs i]
      have : (i ∈ v :: vs) ↔ i ∈ vs := by simp [Ne.symm hv]
      simp only [this]
theorem wipe_same {ix vs : List Nat} {σ σ' : St} (h : SameBut ix (wipe σ vs) σ') (hs : ∀ i ∈ ix, i ∈ vs) : wipe σ' vs = wipe σ vs := by
  apply List.ext_getElem?
  intro i
  have hl : σ'.length = σ.length := by have := h.1; rw [wipe_length] at this; exact this
  rw [wipe_get, wipe_get]
  by_cases hi : i ∈ vs
  · rw [if_pos hi, if_pos hi]
    by_cases hz : i < σ.length
    · rw [List.getElem?_eq_getElem hz, List.getElem?_eq_getElem (by omega)]; rfl
    · rw [List.getElem?_eq_none (by omega), List.getElem?_eq_none (by omega)]
  · rw [if_neg hi, if_neg hi, h.2 i fun z => hi (hs i z), wipe_get, if_neg hi]
theorem wipeD_get : ∀ (vs : List Nat) (sl : Sl) (i : Nat), (wipeD sl vs)[i]? = if i ∈ vs then (sl[i]?).map (fun _ => none) else sl[i]?
  | [], sl, i => by simp [wipeD]
  | v :: vs, sl, i => by
    unfold wipeD
    rw [wipeD_get vs (sl.set v none) i]
    by_cases hv : v = i
    · subst hv
      rw [if_pos List.mem_cons_self]
      by_cases hm : v ∈ vs
      · rw [if_pos hm]
        by_cases hl : v < sl.length
        · rw [List.getElem?_set_self hl, List.getElem?_eq_getElem hl]; rfl
        · rw [List.getElem?_eq_none (by simpa using hl), List.getElem?_eq_none (by omega)]
      · rw [if_neg hm]
        by_cases hl : v < sl.length
        · rw [List.getElem?_set_self hl, List.getElem?_eq_getElem hl]; rfl
        · rw [List.getElem?_eq_none (by simpa using hl), List.getElem?_eq_none (by omega)]; rfl
    · have : (i ∈ v :: vs) ↔ i ∈ vs := by simp [Ne.symm hv]
      simp only [this]
      rw [List.getElem?_set_ne hv]
theorem wipeD_len : ∀ (vs : List Nat) (sl : Sl), (wipeD sl vs).length = sl.length
  | [], sl => rfl
  | v :: vs, sl => by unfold wipeD; rw [wipeD_len vs, List.length_set]
theorem SlR.wipe {K : PySem.W.Frag} {ρ : Rh} {H : Hp} {sl : Sl} {σ : St} (h : SlR K ρ H sl σ) (vs : List Nat) : SlR K ρ H (wipeD sl vs) (L2.wipe σ vs) := by
  refine ⟨by rw [wipeD_len, wipe_length]; exact h.len, fun i d q => ?_⟩
  rw [wipeD_get] at q
  by_cases hi : i ∈ vs
  · rw [if_pos hi] at q
    cases z : sl[i]? with
    | none => rw [z] at q; cases q
    | some w => rw [z] at q; cases q
  · rw [if_neg hi] at q
    obtain ⟨v, h1, h2⟩ := h.at_ i d q
    exact ⟨v, by rw [wipe_get, if_neg hi]; exact h1, h2⟩
theorem SlR.monoB {K : PySem.W.Frag} {ρ ρ' : Rh} {H H' : Hp} {sl : Sl} {σ : St} (h : SlR K ρ H sl σ) (e : ExtB ρ H ρ' H') : SlR K ρ' H' sl σ :=
  ⟨h.len, fun i d q => let ⟨v, h1, h2⟩ := h.at_ i d q; ⟨v, h1, RV.monoB e _ _ h2⟩⟩

section
variable {X : Cx} {W : WX} {xr : XRel}
theorem lcL_gd {K : PySem.W.Frag} {g : Option (Nat × List D)} {st : D → Sto → R Sl} {tt : Sl → Sto → R Bool} {el : Sl → Sto → R D} {l acc : List D} {S : Sto} {σ : St} {ρ : Rh} {H : Hp} {Q : VK} {m : Bool}
    (o : OutG xr K W (RV K) σ ((nox (lcL g st tt el l acc S)).bind fun ys S2 => newL m ys S2) ρ H Q) : gdOk S g = true := by
  by_cases h : gdOk S g = true
  · exact h
  · cases l <;> (unfold lcL at o; rw [if_neg h] at o; exact o.elim)
theorem s_lc {elt tg iter : Expr} {ifs : List Expr} {scope : Scope} {own : List (Str × Nat)} {pos : Pos} {it : Sl → Sto → R Wk} {stf : D → Sl → Sto → R Sl} {tf : Sl → Sto → R Bool} {ef : Sl → Sto → R D} {ix vs : List Nat} {m : Bool}
    (hc : X.calm = true) (hN : X.N.Nodup) (hi : PI X tg iter (tIt xr X.K W it)) (ok : BlkOk X.N X.env.scope scope own) (hv : own.map (·.2) = vs) (hix : ∀ i ∈ ix, i ∈ vs)
    (hg : ∀ (s : Shared) (H : Hp) (C : Addr) (cl : List (Str × Addr)) (fp : List Addr), PG (X.blk s H scope (compEnvC scope cl C X.env) fp) tg (tTg xr X.K W0 ix stf))
    (ht : ∀ (s : Shared) (H : Hp) (C : Addr) (cl : List (Str × Addr)) (fp : List Addr), PTs (X.blk s H scope (compEnvC scope cl C X.env) fp) ifs (tB xr X.K W0 tf))
    (he : ∀ (s : Shared) (H : Hp) (C : Addr) (cl : List (Str × Addr)) (fp : List Addr), PE (X.blk s H scope (compEnvC scope cl C X.env) fp) elt (tE xr X.K W0 ef)) (hs : ∀ x, foldedSetIterable iter X.env x = pure x) :
    (∀ σ H Q, tE xr X.K W (fun sl S => (it sl S).bind fun w S1 => (nox (lcL w.gd (fun d S => stf d (wipeD sl vs) S) tf ef w.ds [] S1)).bind fun ys S2 => newL m ys S2) σ H Q → tLc (tIt xr X.K W it) (tTg xr X.K W0 ix stf) (tB xr X.K W0 tf) (tE xr X.K W0 ef) vs σ H Q) := by
  intro σ H Q ⟨ρ, S, sl, st, sr, o⟩
  refine ⟨ρ, S, sl, st, sr, ?_⟩
  dsimp only at o
  cases hit : it sl S with
  | ex x S1 => rw [hit] at o; exact o
  | no => rw [hit] at o; exact o
  | ok w S1 =>
    rw [hit] at o
    obtain ⟨ds, g⟩ := w
    intro ρ1 H1 J e1 st1 hJ dd hD
    have o : OutG xr X.K W (RV X.K) σ ((nox (lcL g (fun d S => stf d (wipeD sl vs) S) tf ef ds [] S1)).bind fun ys S2 => newL m ys S2) ρ1 H1 Q := OutG.ext o e1
    refine ⟨fun i mm Hh => mm = ds.length - i ∧ i ≤ ds.length ∧ ∃ (ρi : Rh) (S' : Sto) (acc : List D) (us : List V), ExtB ρ1 H1 ρi Hh ∧ StR X.K ρi S' Hh ∧ Hh dd = some (.lst us) ∧ RVs X.K ρi Hh acc us ∧ dd ∉ ρi.ix ∧ ρi.fb = ρ1.fb ++ [dd] ∧
      OutG xr X.K W (RV X.K) σ ((nox (lcL g (fun d S => stf d (wipeD sl vs) S) tf ef (ds.drop i) acc S')).bind fun ys S2 => newL m ys S2) ρ1 H1 Q, ⟨ds.length, by simp, Nat.zero_le _, ρ1.bar dd, S1, [], [], ExtB.bar _ hD, st1.bar hD, upd_same, rfl, fun z => st1.fresh hD (.inl z), rfl, o⟩, ?_⟩
    rintro i mm Hh ⟨rfl, hil, ρi, S', acc, us, eB, st', hDu, racc, hDi, hfb, oo⟩
    have hgd : gdOk S' g = true := lcL_gd oo
    have J' := hJ i ρi S' Hh eB st' hgd
    by_cases hlt : i < ds.length
    · right
      have hd : ds[i]? = some ds[i] := List.getElem?_eq_getElem hlt
      obtain ⟨jg, jy⟩ := J'.1 _ hd
      refine ⟨jg, fun H' => ∃ m', m' < ds.length - i ∧ _, fun H' q => q, fun x H' y => ?_⟩
      obtain ⟨ey, sty, ry⟩ := jy x H' y
      have hdrop : ds.drop i = ds[i] :: ds.drop (i + 1) := List.drop_eq_getElem_cons hlt
      rw [hdrop] at oo
      unfold lcL at oo
      rw [if_pos hgd] at oo
      have hD' : H' dd = some (.lst us) := ey.keep dd _ hDu hDi (by simp)
      have sr' : SlR X.K ρi H' (wipeD sl vs) (wipe σ vs) := ((sr.mono e1).monoB (eB.trans ey.b)).wipe vs
      refine ⟨ρi, S', wipeD sl vs, ds[i], sty, sr', ry, ?_⟩
      have oo : OutG xr X.K W (RV X.K) σ ((nox ((stf ds[i] (wipeD sl vs) S').bind fun sl S1 => (tf sl S1).bind fun k S2 =>
        if k then (ef sl S2).bind fun y S3 => if acc.length < sizeMax then lcL g (fun d S => stf d (wipeD _ vs) S) tf ef (ds.drop (i + 1)) (acc ++ [y]) S3 else .no else lcL g (fun d S => stf d (wipeD _ vs) S) tf ef (ds.drop (i + 1)) acc S2)).bind fun ys S2 => newL m ys S2) ρ1 H1 Q := oo
      cases hst : stf ds[i] (wipeD sl vs) S' with
      | ex x S2 => rw [hst] at oo; exact oo.elim
      | no => rw [hst] at oo; exact oo.elim
      | ok sl1 S2 =>
        rw [hst] at oo
        intro ρ2 H2 σ2 e2 st2 sr2 sb2
        refine ⟨wipe_same sb2 hix, ρ2, S2, sl1, st2, sr2, ?_⟩
        cases htf : tf sl1 S2 with
        | ex x S3 => simp only [R.bind, htf] at oo; exact oo.elim
        | no => simp only [R.bind, htf] at oo; exact oo.elim
        | ok k S3 =>
          simp only [R.bind, htf] at oo
          intro ρ3 H3 k' e3 st3 ek
          subst ek
          have eB3 : ExtB ρ1 H1 ρ3 H3 := eB.trans (ey.trans (e2.trans e3)).b
          have hD3 : H3 dd = some (.lst us) := (e2.trans e3).keep dd _ hD' hDi (by simp)
          have hDi3 : dd ∉ ρ3.ix := (ey.trans (e2.trans e3)).notix ⟨_, hDu, by simp⟩ hDi
          have hfb3 : ρ3.fb = ρ1.fb ++ [dd] := (ey.trans (e2.trans e3)).fbe.trans hfb
          have racc3 : RVs X.K ρ3 H3 acc us := RVs.mono (ey.trans (e2.trans e3)) _ _ racc
          cases k with
          | false =>
            simp only [Bool.false_eq_true, if_false] at oo ⊢
            exact ⟨ds.length - (i + 1), by omega, rfl, by omega, ρ3, S3, acc, us, eB3, st3, hD3, racc3, hDi3, hfb3, oo⟩
          | true =>
            simp only [if_true] at oo ⊢
            refine ⟨ρ3, S3, sl1, st3, sr2.mono e3, ?_⟩
            cases hef : ef sl1 S3 with
            | ex x S4 => simp only [hef] at oo; exact oo.elim
            | no => simp only [hef] at oo; exact oo.elim
            | ok y S4 =>
              simp only [hef] at oo
              intro ρ4 H4 v4 e4 st4 r4
              by_cases hz : acc.length < sizeMax
              · rw [if_pos hz] at oo
                have hD4 : H4 dd = some (.lst us) := e4.keep dd _ hD3 hDi3 (by simp)
                have hDi4 : dd ∉ ρ4.ix := e4.notix ⟨_, hD3, by simp⟩ hDi3
                have hfb4 : ρ4.fb = ρ1.fb ++ [dd] := e4.fbe.trans hfb3
                have hm : dd ∈ ρ4.fb := by rw [hfb4]; simp
                refine ⟨us, hD4, by rw [racc.length, ← sizeMax_eq]; exact hz, ds.length - (i + 1), by omega, rfl, by omega, ρ4, S4, acc ++ [y], us ++ [v4], (eB3.trans e4.b).fill hD, st4.fill hm hDi4, upd_same, ?_, hDi4, hfb4, oo⟩
                exact RVs.fill hm _ _ ((RVs.mono e4 _ _ racc3).append (RVs.one r4))
              · rw [if_neg hz] at oo
                exact oo.elim
    · left
      have hie : i = ds.length := by omega
      subst hie
      refine ⟨J'.2 (Nat.le_refl _), ?_⟩
      rw [List.drop_length] at oo
      unfold lcL at oo
      rw [if_pos hgd] at oo
      have oo : OutG xr X.K W (RV X.K) σ (newL m acc S') ρ1 H1 Q := oo
      obtain ⟨ext, he1, he2⟩ := eB.pre
      have hnf : dd ∉ ρ1.fb := fun z => st1.fresh hD (.inr z)
      have stu : StR X.K ⟨ρi.ix, ρ1.fb⟩ S' Hh := by
        have : ρi = (⟨ρi.ix, ρ1.fb⟩ : Rh).bar dd := by cases ρi; simp only [Rh.bar] at hfb ⊢; rw [hfb]
        rw [this] at st'
        exact st'.unbar
      have rau : RVs X.K ⟨ρi.ix, ρ1.fb⟩ Hh acc us := by
        have : ρi = (⟨ρi.ix, ρ1.fb⟩ : Rh).bar dd := by cases ρi; simp only [Rh.bar] at hfb ⊢; rw [hfb]
        rw [this] at racc
        exact RVs.unbar _ _ racc
      cases m with
      | false =>
        exact oo ⟨ρi.ix, ρ1.fb⟩ Hh (.ref dd) ⟨⟨ext, he1, he2⟩, rfl, eB.keep, eB.ref⟩ stu ⟨dd, us, rfl, ⟨hDu, fun z => z.elim hDi hnf⟩, rau⟩
      | true =>
        have hh : ∀ a, (⟨ρi.ix ++ [dd], ρ1.fb⟩ : Rh).has a → ρi.has a := fun a z => by
          rcases z with z | z
          · rcases List.mem_append.mp z with z | z
            · exact .inl z
            · have : a = dd := by simpa using z
              rw [this]; exact .inr (by rw [hfb]; simp)
          · exact .inr (by rw [hfb]; exact List.mem_append_left _ z)
        have hx : ∀ (n : Nat) (a : Addr), ρi.ix[n]? = some a → (ρi.ix ++ [dd])[n]? = some a := fun n a z => by
          rw [List.getElem?_append_left (List.getElem?_eq_some_iff.mp z).1]; exact z
        refine oo ⟨ρi.ix ++ [dd], ρ1.fb⟩ Hh (.ref dd) ⟨⟨ext ++ [dd], by show ρi.ix ++ [dd] = _; rw [he1, List.append_assoc], fun a ha => ?_⟩, rfl, eB.keep, eB.ref⟩ ⟨by simp [st'.len], ?_, fun a ha => stu.fbs a ha, st'.tab, fun n xs q => ?_⟩ ⟨dd, rfl, ?_⟩
        · rcases List.mem_append.mp ha with z | z
          · exact he2 a z
          · have : a = dd := by simpa using z
            rw [this]; exact NT.none hD
        · show (ρi.ix ++ [dd]).Nodup
          rw [List.nodup_append]
          refine ⟨st'.nd, by simp, fun a ha b hb => ?_⟩
          have : b = dd := by simpa using hb
          subst this
          rintro rfl
          exact hDi ha
        · by_cases hn : n < S'.length
          · rw [List.getElem?_append_left hn] at q
            obtain ⟨a, us', q1, q2, q3⟩ := st'.at_ n xs q
            exact ⟨a, us', hx n a q1, q2, RVs.cong hh hx _ _ q3⟩
          · have hn' : n = S'.length := by
              have := (List.getElem?_eq_some_iff.mp q).1
              simp at this; omega
            subst hn'
            rw [List.getElem?_append_right (Nat.le_refl _)] at q
            simp at q
            subst q
            refine ⟨dd, us, ?_, hDu, RVs.cong hh hx _ _ racc⟩
            show (ρi.ix ++ [dd])[S'.length]? = some dd
            rw [← st'.len, List.getElem?_append_right (Nat.le_refl _)]
            simp
        · show (ρi.ix ++ [dd])[S'.length]? = some dd
          rw [← st'.len, List.getElem?_append_right (Nat.le_refl _)]
          simp
end
end Nv

end

section
set_option linter.all false
set_option maxRecDepth 100000
set_option maxHeartbeats 1000000
/-! Nv8: statements. -/
namespace Nv
open PySem PySem.Spec PyProof.Rows L2

def OutS (xr : XRel) (K : PySem.W.Frag) (W : WX) (Z : Ends) (r : R Fl) (ρ : Rh) (H : Hp) : Prop :=
  match r with
  | .ok (.nx sl) S => ∀ ρ' H' σ', Ext ρ H ρ' H' → StR K ρ' S H' → SlR K ρ' H' sl σ' → Z.nx σ' H'
  | .ok (.rt d) S => ∀ ρ' H' v, Ext ρ H ρ' H' → StR K ρ' S H' → RV K ρ' H' d v → Z.rt v H'
  | .ok (.bk sl) S => ∀ ρ' H' σ', Ext ρ H ρ' H' → StR K ρ' S H' → SlR K ρ' H' sl σ' → Z.bk σ' H'
  | .ex x S => ∀ ρ' H' cls d σ', Ext ρ H ρ' H' → StR K ρ' S H' → xr x cls d ρ' H' → W cls d σ' H'
  | .no => False
def tS (xr : XRel) (K : PySem.W.Frag) (W : WX) (f : Sl → Sto → R Fl) : TS := fun Z σ H => ∃ ρ S sl, StR K ρ S H ∧ SlR K ρ H sl σ ∧ OutS xr K W Z (f sl S) ρ H

section
variable {X : Cx} {W : WX} {xr : XRel} {K : PySem.W.Frag} {Z : Ends} {ρ ρ' : Rh} {H H' : Hp} {σ : St}
theorem OutS.ext {r : R Fl} (h : OutS xr K W Z r ρ H) (e : Ext ρ H ρ' H') : OutS xr K W Z r ρ' H' := by
  cases r with
  | ok f S =>
    cases f with
    | nx sl => exact fun ρ2 H2 v e2 => h ρ2 H2 v (e.trans e2)
    | rt sl => exact fun ρ2 H2 v e2 => h ρ2 H2 v (e.trans e2)
    | bk sl => exact fun ρ2 H2 v e2 => h ρ2 H2 v (e.trans e2)
  | ex x S => exact fun ρ2 H2 c d v e2 => h ρ2 H2 c d v (e.trans e2)
  | no => exact h
theorem OutS.bind {α β : Type} {rel : Rh → Hp → α → β → Prop} {r : R α} {g : α → Sto → R Fl} (h : OutS xr K W Z (r.bind g) ρ H) :
    OutG xr K W rel σ r ρ H (fun x H1 => ∃ ρ1 S1 a, Ext ρ H ρ1 H1 ∧ StR K ρ1 S1 H1 ∧ rel ρ1 H1 a x ∧ OutS xr K W Z (g a S1) ρ1 H1) := by
  cases r with
  | ok a S => exact fun ρ2 H2 v e2 st rv => ⟨ρ2, S, a, e2, st, rv, OutS.ext h e2⟩
  | ex x S => exact fun ρ2 H2 c d e2 st2 xx => h ρ2 H2 c d σ e2 st2 xx
  | no => exact h
theorem OutS.bindT {ix : List Nat} {r : R Sl} {g : Sl → Sto → R Fl} (h : OutS xr K W Z (r.bind g) ρ H) :
    OutT xr K W ix σ r ρ H (fun σ1 H1 => ∃ ρ1 S1 sl1, Ext ρ H ρ1 H1 ∧ StR K ρ1 S1 H1 ∧ SlR K ρ1 H1 sl1 σ1 ∧ OutS xr K W Z (g sl1 S1) ρ1 H1) := by
  cases r with
  | ok a S => exact fun ρ2 H2 v e2 st sr _ => ⟨ρ2, S, a, e2, st, sr, OutS.ext h e2⟩
  | ex x S => exact fun ρ2 H2 c d v e2 st2 xx => h ρ2 H2 c d v e2 st2 xx
  | no => exact h
theorem tS.bind {α β : Type} {rel : Rh → Hp → α → β → Prop} {f : Sl → Sto → R α} {g : α → Sl → Sto → R Fl} (h : tS xr K W (fun sl S => (f sl S).bind fun a S1 => g a sl S1) Z σ H) :
    tG xr K W rel f σ H (fun x H1 => ∃ ρ1 S1 sl a, StR K ρ1 S1 H1 ∧ SlR K ρ1 H1 sl σ ∧ rel ρ1 H1 a x ∧ OutS xr K W Z (g a sl S1) ρ1 H1) := by
  obtain ⟨ρ, S, sl, st, sr, o⟩ := h
  exact ⟨ρ, S, sl, st, sr, (OutS.bind (rel := rel) o).imp fun x H1 ⟨ρ1, S1, a, e, st1, ra, o1⟩ => ⟨ρ1, S1, sl, a, st1, sr.mono e, ra, o1⟩⟩

variable {a b e tg : Expr} {pos : Pos} {fa : Sl → Sto → R D} {ta : Sl → Sto → R Bool} {fs : Sl → Sto → R (List D)} {gs : S → Sl → Sto → R Fl}
theorem x_nil {f : S → Sl → Sto → R Fl} : PSs X [] (tS xr X.K W fun sl S => evSs f [] sl S) := PSs.imp pss_nil fun Z σ H ⟨ρ, S, sl, st, sr, o⟩ => o ρ H σ Ext.refl st sr
theorem OutS.seq {f : S → Sl → Sto → R Fl} {c : S} {cs : List S} {sl : Sl} {S : Sto} (h : OutS xr K W Z (evSs f (c :: cs) sl S) ρ H) : OutS xr K W { Z with nx := fun σ' H' => tS xr K W (fun sl S => evSs f cs sl S) Z σ' H' } (f c sl S) ρ H := by
  have h : OutS xr K W Z ((f c sl S).bind fun g S1 => match g with
    | .nx sl1 => evSs f cs sl1 S1
    | g => .ok g S1) ρ H := h
  cases q : f c sl S with
  | ok g S1 =>
    rw [q] at h
    cases g with
    | nx sl1 => exact fun ρ2 H2 σ2 e2 st2 sr2 => ⟨ρ2, S1, sl1, st2, sr2, OutS.ext (r := evSs f cs sl1 S1) h e2⟩
    | rt d => exact h
    | bk sl1 => exact h
  | ex x S1 => rw [q] at h; exact h
  | no => rw [q] at h; exact h
theorem x_cons {f : S → Sl → Sto → R Fl} {c : S} {cs : List S} {st : Stmt} {sts : List Stmt} (h1 : PS X st (tS xr X.K W (f c))) (h2 : PSs X sts (tS xr X.K W fun sl S => evSs f cs sl S)) : PSs X (st :: sts) (tS xr X.K W fun sl S => evSs f (c :: cs) sl S) :=
  PSs.imp (pss_cons h1 h2) fun Z σ H ⟨ρ, S, sl, stt, sr, o⟩ => ⟨ρ, S, sl, stt, sr, OutS.seq o⟩
theorem x_pass : PS X (.Pass pos) (tS xr X.K W fun sl S => .ok (.nx sl) S) := PS.imp ps_pass fun Z σ H ⟨ρ, S, sl, st, sr, o⟩ => o ρ H σ Ext.refl st sr
theorem x_break : PS X (.Break pos) (tS xr X.K W fun sl S => .ok (.bk sl) S) := PS.imp ps_break fun Z σ H ⟨ρ, S, sl, st, sr, o⟩ => o ρ H σ Ext.refl st sr
theorem x_ret (ha : PE X a (tE xr X.K W fa)) : PS X (.Return (some a) pos) (tS xr X.K W fun sl S => (fa sl S).bind fun d S1 => .ok (.rt d) S1) :=
  PS.imp (ps_ret ha) fun Z σ H q => (tS.bind (rel := RV X.K) q).imp fun x H1 ⟨ρ1, S1, sl, d, st, sr, rd, (o : OutS xr X.K W Z (.ok (.rt d) S1) ρ1 H1)⟩ => o ρ1 H1 x Ext.refl st rd
theorem x_retN : PS X (.Return none pos) (tS xr X.K W fun sl S => .ok (.rt .non) S) := PS.imp ps_retN fun Z σ H ⟨ρ, S, sl, st, sr, o⟩ => o ρ H .non Ext.refl st rfl
theorem x_expr (hs : swapsWith a none pos.line X.env = pure false) (ha : PE X a (tE xr X.K W fa)) : PS X (.Expr a pos) (tS xr X.K W fun sl S => (fa sl S).bind fun _ S1 => .ok (.nx sl) S1) :=
  PS.imp (ps_expr ha hs) fun Z σ H q => (tS.bind (rel := RV X.K) q).imp fun x H1 ⟨ρ1, S1, sl, d, st, sr, rd, (o : OutS xr X.K W Z (.ok (.nx sl) S1) ρ1 H1)⟩ => o ρ1 H1 σ Ext.refl st sr
theorem x_if {x y : List Stmt} {fx fy : Sl → Sto → R Fl} (hc : PT X a (tB xr X.K W ta)) (hx : PSs X x (tS xr X.K W fx)) (hy : PSs X y (tS xr X.K W fy)) : PS X (.If a x y pos) (tS xr X.K W fun sl S => (ta sl S).bind fun k S1 => match k with
    | true => fx sl S1
    | false => fy sl S1) := by
  refine PS.imp (ps_if hc hx hy) fun Z σ H q => (tS.bind (rel := relB) q).imp fun k H1 ⟨ρ1, S1, sl, k', st, sr, ek, o⟩ => ?_
  subst ek
  cases k' with
  | true => exact ⟨ρ1, S1, sl, st, sr, o⟩
  | false => exact ⟨ρ1, S1, sl, st, sr, o⟩
theorem x_asg {ix : List Nat} {stf : D → Sl → Sto → R Sl} (hn : noStar tg = true) (hs : swapsWithSole [tg] a pos.line X.env = pure false) (hw : swappedStores [tg] a X.env = pure none) (ha : PE X a (tE xr X.K W fa)) (hg : PG X tg (tTg xr X.K W ix stf)) :
    PS X (.Assign [tg] a pos) (tS xr X.K W fun sl S => (fa sl S).bind fun d S1 => (stf d sl S1).bind fun sl1 S2 => .ok (.nx sl1) S2) := by
  refine PS.imp (ps_asg ha hg hs hw (by rw [asg_cons hn]; rfl)) fun Z σ H q => (tS.bind (rel := RV X.K) q).imp fun x H1 ⟨ρ1, S1, sl, d, st, sr, rd, o⟩ => ?_
  exact ⟨ρ1, S1, sl, d, st, sr, rd, (OutS.bindT (ix := ix) (σ := σ) o).imp fun σ2 H2 ⟨ρ2, S2, sl2, e2, st2, sr2, o2⟩ => o2 ρ2 H2 σ2 Ext.refl st2 sr2⟩
/-- a loop that goes on while a test holds, by the evaluator's own turns -/
theorem x_whl {bd : List Stmt} {P : Pg} {bb : Nat} {c : E} {cs : List S} (hp : PassesOwn (model X.prog X.w) X.A X.env X.xe) :
    ∀ n, (∀ m, m < n → PT X a (tB xr X.K W fun sl S => (evN P m).t bb c sl S)) → (∀ m, m < n → PSs X bd (tS xr X.K W fun sl S => evSs ((evN P m).s bb) cs sl S)) →
    PS X (.While a bd [] pos) (tS xr X.K W fun sl S => (evN P n).s bb (.whl c cs) sl S) := by
  intro n hc hb
  have pt : PT X a (fun σ H Q => ∃ m, m < n ∧ tB xr X.K W (fun sl S => (evN P m).t bb c sl S) σ H Q) := ⟨fun pins s σ H Q I ⟨m, hm, q⟩ => (hc m hm).run pins s σ H Q I q⟩
  have ps : PSs X bd (fun Z σ H => ∃ m, m < n ∧ tS xr X.K W (fun sl S => evSs ((evN P m).s bb) cs sl S) Z σ H) := ⟨fun pins s σ H Z I ⟨m, hm, q⟩ => (hb m hm).run pins s σ H Z I q⟩
  refine PS.imp (ps_while hp pt ps) fun Z σ H q => ?_
  refine ⟨fun k σ H => k ≤ n ∧ tS xr X.K W (fun sl S => (evN P k).s bb (.whl c cs) sl S) Z σ H, ⟨n, Nat.le_refl _, q⟩, ?_⟩
  rintro k σ H ⟨hk, ρ, S, sl, st, sr, o⟩
  cases k with
  | zero => exact o.elim
  | succ k =>
    have o : OutS xr X.K W Z (((evN P k).t bb c sl S).bind fun q S1 => match q with
      | true => (evSs ((evN P k).s bb) cs sl S1).bind fun f S2 => match f with
        | .nx sl2 => (evN P k).s bb (.whl c cs) sl2 S2
        | .bk sl2 => .ok (.nx sl2) S2
        | .rt x => .ok (.rt x) S2
      | false => .ok (.nx sl) S1) ρ H := o
    refine ⟨k, hk, ρ, S, sl, st, sr, (OutS.bind (rel := relB) (σ := σ) o).imp fun x H1 ⟨ρ1, S1, x', e1, st1, ex, o1⟩ => ?_⟩
    subst ex
    cases x' with
    | false =>
      rw [if_neg (by decide)]
      exact o1 ρ1 H1 σ Ext.refl st1 (sr.mono e1)
    | true =>
      rw [if_pos rfl]
      refine ⟨fun σ' H' => tS xr X.K W (fun sl S => (evN P k).s bb (.whl c cs) sl S) Z σ' H', fun σ' H' q' => ⟨k, Nat.lt_succ_self k, by omega, q'⟩, k, hk, ρ1, S1, sl, st1, sr.mono e1, ?_⟩
      dsimp only at o1
      show OutS xr X.K W _ (evSs ((evN P k).s bb) cs sl S1) ρ1 H1
      cases q : evSs ((evN P k).s bb) cs sl S1 with
      | ok f S2 =>
        rw [q] at o1
        cases f with
        | nx sl2 => exact fun ρ2 H2 σ2 e2 st2 sr2 => ⟨ρ2, S2, sl2, st2, sr2, OutS.ext (r := (evN P k).s bb (.whl c cs) sl2 S2) o1 e2⟩
        | rt d => exact o1
        | bk sl2 => exact o1
      | ex x S2 => rw [q] at o1; exact o1
      | no => rw [q] at o1; exact o1
theorem forL_gd {g : Option (Nat × List D)} {stf : D → Sl → Sto → R Sl} {bf : Sl → Sto → R Fl} {l : List D} {sl : Sl} {S : Sto} (o : OutS xr K W Z (forL g stf bf l sl S) ρ H) : gdOk S g = true := by
  by_cases h : gdOk S g = true
  · exact h
  · cases l <;> (unfold forL at o; rw [if_neg h] at o; exact o.elim)
/-- a loop over what is walked -/
theorem x_for {iter : Expr} {bd : List Stmt} {it : Sl → Sto → R Wk} {ix : List Nat} {stf : D → Sl → Sto → R Sl} {bf : Sl → Sto → R Fl} (hp : PassesOwn (model X.prog X.w) X.A X.env X.xe) (hc : X.calm = true) (hs : ∀ x, foldedSetIterable iter X.env x = pure x)
    (hi : PI X tg iter (tIt xr X.K W it)) (hg : PG X tg (tTg xr X.K W ix stf)) (hb : PSs X bd (tS xr X.K W bf)) :
    PS X (.For tg iter bd [] pos) (tS xr X.K W fun sl S => (it sl S).bind fun w S1 => forL w.gd (fun d sl S => stf d sl S) (fun sl S => bf sl S) w.ds sl S1) := by
  refine PS.imp (ps_for hp hc hi hg hb hs) fun Z σ H ⟨ρ, S, sl, st, sr, o⟩ => ⟨ρ, S, sl, st, sr, ?_⟩
  dsimp only at o
  cases hit : it sl S with
  | ex x S1 => rw [hit] at o; exact fun ρ2 H2 c d e2 st2 xx => o ρ2 H2 c d σ e2 st2 xx
  | no => rw [hit] at o; exact o
  | ok w S1 =>
    rw [hit] at o
    obtain ⟨ds, g⟩ := w
    intro ρ1 H1 J e1 st1 hJ
    refine ⟨fun i m σ' H' => m = ds.length - i ∧ i ≤ ds.length ∧ ∃ ρ' S' sl', Ext ρ1 H1 ρ' H' ∧ StR X.K ρ' S' H' ∧ SlR X.K ρ' H' sl' σ' ∧ OutS xr X.K W Z (forL g (fun d sl S => stf d sl S) (fun sl S => bf sl S) (ds.drop i) sl' S') ρ' H',
      ⟨ds.length, by simp, Nat.zero_le _, ρ1, S1, sl, Ext.refl, st1, sr.mono e1, OutS.ext (r := forL g (fun d sl S => stf d sl S) (fun sl S => bf sl S) ds sl S1) o e1⟩, ?_⟩
    rintro i m σ' H' ⟨rfl, hil, ρ', S', sl', ex, st', sr', oo⟩
    have hgd : gdOk S' g = true := forL_gd oo
    have J' := hJ i ρ' S' H' ex.b st' hgd
    by_cases hlt : i < ds.length
    · right
      have hd : ds[i]? = some ds[i] := List.getElem?_eq_getElem hlt
      obtain ⟨jg, jy⟩ := J'.1 _ hd
      refine ⟨jg, fun σ2 H2 => ∃ m', m' < ds.length - i ∧ _, fun σ2 H2 q => q, fun x H2 y => ?_⟩
      obtain ⟨ey, sty, ry⟩ := jy x H2 y
      have hdrop : ds.drop i = ds[i] :: ds.drop (i + 1) := List.drop_eq_getElem_cons hlt
      rw [hdrop] at oo
      unfold forL at oo
      rw [if_pos hgd] at oo
      have oo : OutS xr X.K W Z ((stf ds[i] sl' S').bind fun sl1 S1 => (bf sl1 S1).bind fun f S2 => match f with
        | .nx sl2 => forL g (fun d sl S => stf d sl S) (fun sl S => bf sl S) (ds.drop (i + 1)) sl2 S2
        | .bk sl2 => .ok (.nx sl2) S2
        | .rt x => .ok (.rt x) S2) ρ' H' := oo
      refine ⟨ρ', S', sl', ds[i], sty, sr'.mono ey, ry, (OutS.bindT (ix := ix) (σ := σ') (OutS.ext oo ey)).imp fun σ3 H3 ⟨ρ3, S3, sl3, e3, st3, sr3, o3⟩ => ?_⟩
      refine ⟨ρ3, S3, sl3, st3, sr3, ?_⟩
      cases q : bf sl3 S3 with
      | ok f S4 =>
        rw [q] at o3
        cases f with
        | nx sl4 => exact fun ρ4 H4 σ4 e4 st4 sr4 => ⟨ds.length - (i + 1), by omega, rfl, by omega, ρ4, S4, sl4, ex.trans (ey.trans (e3.trans e4)), st4, sr4, OutS.ext (r := forL g (fun d sl S => stf d sl S) (fun sl S => bf sl S) (ds.drop (i + 1)) sl4 S4) o3 e4⟩
        | rt d => exact o3
        | bk sl4 => exact o3
      | ex x S4 => rw [q] at o3; exact o3
      | no => rw [q] at o3; exact o3
    · left
      have hie : i = ds.length := by omega
      subst hie
      rw [List.drop_length] at oo
      unfold forL at oo
      rw [if_pos hgd] at oo
      exact ⟨J'.2 (Nat.le_refl _), oo ρ' H' σ' Ext.refl st' sr'⟩
end
end Nv

end

section
set_option linter.all false
set_option maxRecDepth 100000
set_option maxHeartbeats 2000000
/-! NvL: a lambda handed to a def that calls it and tells its error. -/
namespace Nv
open PySem PySem.Spec PyProof.Rows L2 LamX

abbrev xeL (X : Cx) (A : Around) (outer : List Env) (s : Shared) (H : Hp) (E : XK) (scope : Scope) (f c : Addr) : Value → Shared → Prop := fun e s' =>
  wpAny (model X.prog X.w) (A.deeper (lamEnv X scope s.heap.objs.size f c)) (leaving (lamEnv X scope s.heap.objs.size f c) e)
    (fun _ z => L2N.CX X.prog X.w outer H s E e z) (fun e' z => L2N.CX X.prog X.w outer H s E e' z) s'
/-- the body's context -/
abbrev lamX (X : Cx) (A : Around) (outer : List Env) (s : Shared) (H : Hp) (E : XK) (scope : Scope) (f c : Addr) : Cx := (lamCx X A outer s H E scope f c).tr [] (xeL X A outer s H E scope f c)
/-- the context of the def that calls it -/
abbrev cxZ (P : Program) (w : World) (K : PySem.W.Frag) (mg : Str → Option Value) (base : Heap) (Ng : List Str) (x : Str) (sg : Scope) (g : Addr) (cd : Value) (A : Around) (outer : List Env) (s : Shared) (H : Hp) : Cx := cxOf C8.CX0 P w K mg base Ng x sg g cd A outer s H C8.E0
section
variable {X : Cx} {pins : List (Addr × Obj)} {σ : St} {H : Hp} {s : Shared}
theorem actN {Ng : List Str} {qg : Str} {sg : Scope} {g f c' : Addr} {cdg pm ctv : Value} {params : Arguments} {body : Expr} {scope : Scope} {k : Nat} {a : Str} {pn : List (Addr × Obj)} {xe : Value → Shared → Prop} {W : WX} {E : XK} {tb : TE} {p1 p2 : Pos}
    (I : Inv X pins σ H s) (L : LamS X.env.scope scope) (hf : s.heap.get? f = some (PySem.W.kla_obj "<lambda>" (X.env.qual ++ "<lambda>") params body scope (cloFrom X.env.cells scope.names []) pm c' ctv)) (hfn : H f = none) (hfr : f ∉ frs X.stack)
    (hbind : bindArgs (PySem.W.kla_fn "<lambda>" (X.env.qual ++ "<lambda>") params body scope (cloFrom X.env.cells scope.names []) pm (.ref c') ctv) ⟨[], []⟩ = pure [])
    (tk : L2N.Takes ((cxZ X.prog X.w X.K X.mg X.base Ng qg sg g cdg X.A X.stack s H).tr pn xe) W) (hW : ∀ cls d σ' H', E cls d H' → W cls d σ' H') (hr : Room (k + 1) (X.A.deeper (envOfC qg sg s.heap.objs.size g cdg)))
    (hbody : ∀ (A : Around) (outer : List Env) (s : Shared) (H : Hp), Room k (A.deeper (lamEnv X scope s.heap.objs.size f c')) → PE (lamX X A outer s H E scope f c') body tb)
    (hN : Ng[0]? = some a) (hv : Vis sg a) (hd : (a == ("__debug__" : Str)) = false) (hcd : (a == ("__classdict__" : Str)) = false) :
    PE ((cxZ X.prog X.w X.K X.mg X.base Ng qg sg g cdg X.A X.stack s H).tr pn xe) (.Call (.Name a p1) [] [] p2)
      (fun σZ HZ Q => σZ[0]? = some (some (.ref f)) ∧ HZ c' = some (CodeO c' (X.env.qual ++ "<lambda>")) ∧ tb σ HZ Q) := by
  refine ⟨fun pinsZ sZ σZ HZ Q IZ ⟨hs, hc, ht⟩ => wpAny_Call_Name_kw (thn ((pe_var (pos := p1) (i := 0) hN hv hd hcd).run pinsZ sZ σZ HZ (fun v H1 => v = .ref f ∧ H1 = HZ) IZ ⟨.ref f, hs, rfl, rfl⟩) fun u s1 ⟨v, H1, I1, r1, ev, eH⟩ => ?_)⟩
  subst ev eH
  obtain rfl : u = Value.ref f := r1
  have of1 := I1.base.keep f _ hf hfn hfr (fun z => nomatch (show f ∈ ([] : List Addr) from z))
  refine PySem.W.callWith_F0 ⟨_, _, _, _, of1⟩ ?_
  have un : Un (frs X.stack) [] H H1 s.heap s1.heap := I1.base
  obtain ⟨⟨oc, vs, t, hoc, hdc, hvc⟩, _, _⟩ := I1.hok c' _ hc
  have rc : codeAny (model X.prog X.w) (X.A.deeper (envOfC qg sg s.heap.objs.size g cdg)) (.call (.ref f) ⟨[], []⟩) (CR (L2N.CX X.prog X.w) (envOfC qg sg s.heap.objs.size g cdg :: X.stack) X.prog X.w H1 s1 Q E) s1 := by
    refine PySem.W.kla_callFunE hr.depth of1 rfl L.co L.gen rfl ⟨c', oc, vs, t, rfl, hoc, hdc, hvc⟩ ?_
    rw [hbind]
    refine wpAny_pure (wpAny_newFunctionEnv (fun y hy => (L.own y hy).2) (fun y hy => absurd hy (by simp)) (fun h₁ hns hsb => ⟨I1.nolimit.fresh _ hsb, ?_⟩) L.kind)
    have kp : ∀ b o, s1.heap.get? b = some o → h₁.get? b = some o := fun b o e => hsb.extBut b o (Nat.ne_of_lt (Heap.lt_size e)) (Heap.get?_push_of_some _ e)
    have J := (lam_start2 (E := E) (f := f) (c' := c') (tk := s1.toks + ([] : List (Str × Value)).length) I L I1.env0 hr.hd un hns kp).toTry (xeL X (X.A.deeper (envOfC qg sg s.heap.objs.size g cdg)) (envOfC qg sg s.heap.objs.size g cdg :: X.stack) s1 H1 E scope f c')
    refine PySem.W.kla_codeExpr (wpAny_mono ((hbody (X.A.deeper (envOfC qg sg s.heap.objs.size g cdg)) (envOfC qg sg s.heap.objs.size g cdg :: X.stack) s1 H1 (hr.deeper _)).run [] _ _ H1 Q J ht) (fun v s' hq => ?_) fun e s' hq => hq)
    obtain ⟨w', H', J', rv, q⟩ := hq
    exact ⟨w', H', J'.os, J'.bare, J'.base, J'.hok, rv, q⟩
  refine wpAny_call (codeAny_mono rc fun r s' hq => ?_)
  cases r with
  | error e => exact L2N.passes_call tk hW pinsZ σZ H1 s1 e s' I1 hq
  | ok fl => cases fl with
    | ret u => exact I1.after hq
    | next => exact hq.elim
    | brk => exact hq.elim
    | cont => exact hq.elim
end
/-- the def that calls what it got: TT, what it makes of the lambda's reading -/
def GivesN (P : Program) (w : World) (K : PySem.W.Frag) (mg : Str → Option Value) (base : Heap) (Ng : List Str) (x : Str) (sg : Scope) (g : Addr) (cd : Value) (bg : List Stmt) (a : Str) (TT : (XK → Hp → VK → Prop) → Hp → VK → Prop) : Prop :=
  ∀ (A : Around) (outer : List Env) (q : Str) (f c' : Addr) (s : Shared) (H : Hp) (Q : VK) (tl : XK → Hp → VK → Prop), Room 2 (A.deeper (envOfC x sg s.heap.objs.size g cd)) →
    (∀ (W : WX) (pn : List (Addr × Obj)) (xe : Value → Shared → Prop) (E : XK) (p1 p2 : Pos), L2N.Takes ((cxZ P w K mg base Ng x sg g cd A outer s H).tr pn xe) W → (∀ cls d σ' H', E cls d H' → W cls d σ' H') →
      PE ((cxZ P w K mg base Ng x sg g cd A outer s H).tr pn xe) (.Call (.Name a p1) [] [] p2) (fun σZ HZ Q => σZ[0]? = some (some (.ref f)) ∧ HZ c' = some (CodeO c' q) ∧ tl E HZ Q)) →
    H c' = some (CodeO c' q) → TT tl H Q →
    ∃ t, PSs (cxZ P w K mg base Ng x sg g cd A outer s H).nox bg t ∧ t { nx := fun _ H' => Q .non H', rt := Q } (L2.start Ng [.ref f]) H
/-- such a def, at the module's top -/
structure LamDef (P : Program) (w : World) (K : PySem.W.Frag) (mg : Str → Option Value) (base : Heap) (x : Str) (TT : (XK → Hp → VK → Prop) → Hp → VK → Prop) : Prop where
  ex : ∃ (g : Addr) (a : Str) (pg : Arguments) (bg : List Stmt) (sg : Scope) (dV kV doc pm cdv ct oc : Value) (an od : Option Addr) (osl : Array (Option Value)) (Ng : List Str),
    mg x = some (.ref g) ∧ PySem.W.keepIn K (.ref g) = true ∧ K.lookup g = some ⟨oc, od, .func (PySem.W.fnOf x x pg bg sg dV kV doc pm an cdv ct), osl⟩ ∧ PySem.W.codeIn K cdv x = true ∧ L2.Binds K (PySem.W.fnOf x x pg bg sg dV kV doc pm an cdv ct) [a] [] ∧ FnScope Ng [a] sg ∧ Ng[0]? = some a ∧
    (a == ("__debug__" : Str)) = false ∧ (a == ("__classdict__" : Str)) = false ∧ Vis sg a ∧ GivesN P w K mg base Ng x sg g cdv bg a TT
section
variable {X : Cx}
theorem pe_lamN {T : List (Addr × Str)} {TT : (XK → Hp → VK → Prop) → Hp → VK → Prop} {x : Str} {c P : Addr} {k : Nat} {params : Arguments} {body : Expr} {scope : Scope} {t : XK → TE} {p lpos pos : Pos} (hg : Gl X x) (D : LamDef X.prog X.w X.K X.mg X.base x TT)
    (TB : TabB X.base X.mg c P) (hcode : X.env.code = .ref c) (hmT : (P, X.env.qual ++ "<lambda>") ∈ T) (hu : ∀ p ∈ T, p.1 = P → p.2 = X.env.qual ++ "<lambda>") (hr : Room (k + 3) X.A) (L : LamS X.env.scope scope) (hdef : defaultsOf params X.env = ([], []))
    (hbind : ∀ (q : Str) (cl : List (Str × Addr)) (pm cv ctv : Value), bindArgs (PySem.W.kla_fn "<lambda>" q params body scope cl pm cv ctv) ⟨[], []⟩ = pure [])
    (hbody : ∀ (A : Around) (outer : List Env) (s : Shared) (H : Hp) (E : XK) (f c' : Addr), Room (k + 1) (A.deeper (lamEnv X scope s.heap.objs.size f c')) → PE (lamX X A outer s H E scope f c') body (t E))
    (hdb : (x == ("__debug__" : Str)) = false) : PE X (.Call (.Name x p) [.Lambda params body scope lpos] [] pos) (tLam T TT t) := by
  obtain ⟨g, a, pg, bg, sg, dV, kV, doc, pm, cdv, ct, oc, an, od, osl, Ng, hm, hk, lk, hcg, hb, Sg, hNg, hd, hcd, hva, hG⟩ := D.ex
  refine ⟨fun pins s σ H Q I ⟨hT, h⟩ => wpAny_Call_Name_kw (ld_glob I hg hm ?_ hdb)⟩
  refine PySem.W.callWith_K (h₀ := X.base) I.ok.mod.kin hk ?_ (by rfl) (by rfl)
  show wpAny _ _ (spliced ((false, eval (.Lambda params body scope lpos) X.env) :: backTo pos (starEach [] X.env))) _ _ s
  refine Calls.spliced_cons (lam_make2 I TB hcode hmT hu hT hdef (L.has I.ok) fun f c' pm' ctv H1 s' I1 eN T1 hf hfn hfr hco => Calls.spliced_nil ⟨I1.kIn, ?_⟩)
  have rc : codeAny (model X.prog X.w) X.A (.call (.ref g) ⟨[.ref f], []⟩) (CR C8.CX0 X.stack X.prog X.w H1 s' Q C8.E0) s' :=
    run_ofS (N := Ng) (ps := [a]) (us := [.ref f]) (vs := [.ref f]) lk hcg Sg hr I1.env0 (hb s' [.ref f] I1.kIn rfl) (.cons rfl .nil) rfl fun hr' => by
      obtain ⟨t', ht', hq'⟩ := hG X.A X.stack (X.env.qual ++ "<lambda>") f c' s' H1 Q (fun E H' Q' => t E σ H' Q') (hr'.mono (by omega)) (fun W pn xe E p1 p2 tk hW => actN I1 L hf hfn hfr (hbind _ _ _ _ _) tk hW hr' (fun A outer s H hr2 => hbody A outer s H E f c' hr2) hNg hva hd hcd) hco (h H1 eN T1)
      exact ⟨t', ht'.nox, hq'⟩
  refine wpAny_call (codeAny_mono rc fun r s2 hq => ?_)
  cases r with
  | error e => exact (show False from hq).elim
  | ok fl => cases fl with
    | ret u => exact I1.after hq
    | next => exact hq.elim
    | brk => exact hq.elim
    | cont => exact hq.elim
end

/-! ### read by the evaluator -/
/-- a written answer -/
def conV : D → V
  | .non => .non
  | .bl b => .bl b
  | .int i => .int i
  | .str s => .str (toStr s)
  | _ => .non
theorem conV_ok {K : PySem.W.Frag} {ρ : Rh} {H : Hp} {c : D} (h : conD c = true) : RV K ρ H c (conV c) := by
  cases c with
  | non => rfl
  | bl b => rfl
  | int i => rfl
  | str s => exact ⟨rfl, by rw [← sizeMax_eq]; exact of_decide_eq_true h⟩
  | _ => cases h
/-- what such a def makes of the lambda -/
def okQ (L : Lm) (Q : VK) : VK := match L.okv with
  | some c => fun _ H' => Q (conV c) H'
  | none => Q
def lmTT (xr : XRel) (L : Lm) : (XK → Hp → VK → Prop) → Hp → VK → Prop := fun tl H Q =>
  tl (fun cls d H' => ∃ x ρ c, xr x cls d ρ H' ∧ L.exv x.cls x.fld = some c ∧ conD c = true ∧ ∀ H'', (∀ b o, H' b = some o → H'' b = some o) → Q (conV c) H'') H (okQ L Q)
section
variable {K : PySem.W.Frag} {ρ : Rh} {H H' : Hp}
theorem Ext.ofN (e : ExtN H H') : Ext ρ H ρ H' := ⟨⟨[], by simp, by simp⟩, rfl, fun a o h _ t => e a o h t, fun a _ ⟨o, h, t⟩ => ⟨o, e a o h t, t⟩⟩
theorem StR.extN {S : Sto} (st : StR K ρ S H) (e : ExtN H H') (t : Tabs (tbK K) H') : StR K ρ S H' :=
  ⟨st.len, st.nd, fun a ha => by
    obtain ⟨vs, q⟩ := st.fbs a ha
    exact ⟨vs, e a _ q (by simp)⟩, t, fun n xs q => by
    obtain ⟨a, vs, h1, h2, h3⟩ := st.at_ n xs q
    exact ⟨a, vs, h1, e a _ h2 (by simp), RVs.mono (Ext.ofN e) _ _ h3⟩⟩
theorem StR.grow {S : Sto} (st : StR K ρ S H) (e : ∀ b o, H b = some o → H' b = some o) : StR K ρ S H' := st.extN (ExtN.of e) (st.tab.ext e)
/-- x(lambda: body) -/
theorem s_lam {xr : XRel} {W : WX} {L : Lm} {fe : Sl → Sto → R D} {σ : St} {Q : VK} (q : tE xr K W (fun sl S => lmR L (fe sl S)) σ H Q) : tLam (tbK K) (lmTT xr L) (fun E => tE xr K (fun cls d _ H => E cls d H) fe) σ H Q := by
  obtain ⟨ρ, S, sl, st, sr, o⟩ := q
  have o : OutG xr K W (RV K) σ (lmR L (fe sl S)) ρ H Q := o
  refine ⟨st.tab, fun H1 eN T1 => ⟨ρ, S, sl, st.extN eN T1, sr.mono (Ext.ofN eN), ?_⟩⟩
  cases hr : fe sl S with
  | no => rw [hr] at o; exact o
  | ok d S1 =>
    rw [hr] at o
    intro ρ' H' v e st' rv
    unfold lmR at o
    unfold okQ
    cases hk : L.okv with
    | none =>
      simp only [hk] at o ⊢
      exact o ρ' H' v ((Ext.ofN eN).trans e) st' rv
    | some c =>
      simp only [hk] at o ⊢
      by_cases hc : conD c = true
      · rw [if_pos hc] at o
        exact o ρ' H' _ ((Ext.ofN eN).trans e) st' (conV_ok hc)
      · rw [if_neg hc] at o
        exact o.elim
  | ex x S1 =>
    rw [hr] at o
    intro ρ' H' cls d e st' hx
    unfold lmR at o
    cases hk : L.exv x.cls x.fld with
    | none => simp only [hk] at o; exact o.elim
    | some c =>
      simp only [hk] at o
      by_cases hc : conD c = true
      · rw [if_pos hc] at o
        exact ⟨x, ρ', c, hx, hk, hc, fun H'' g => o ρ' H'' _ ((Ext.ofN eN).trans (e.trans (Ext.ofN (ExtN.of g)))) (st'.grow g) (conV_ok hc)⟩
      · rw [if_neg hc] at o
        exact o.elim
end
end Nv

end

section
set_option linter.all false
set_option maxRecDepth 100000
set_option maxHeartbeats 2000000
/-! Nv9: assignments of several names; the checker of statements; the evaluator is right. -/
namespace Nv
open PySem PySem.Spec PyProof.Rows L2

def isStarE : Expr → Bool
  | .Starred .. => true
  | _ => false
def nameF (sc : Scope) (l : Nat) : Expr → Option Str
  | .Name id pos => if (sc.names.lookup id == some .local && pos.line == l) = true then some id else none
  | _ => none
def swapK (sc : Scope) (ts vs : List Expr) : Option (Option (List Str)) :=
  if (!(ts.length == 2 || ts.length == 3) || vs.length != ts.length) = true then some none
  else if (vs.any isStarE) = true then some none
  else
    let names := ts.filterMap (nameF sc ((ts.head?.map (·.pos.line)).getD 0))
    if (names.length != ts.length || names.eraseDups.length != names.length) = true then some none
    else if (vs.all (foldedForSure 8)) = true then some none
    else if (vs.all (constantsAlone 8)) = true then none
    else some (some names)
theorem swapK_ok {env : Env} (hk : env.scope.kind = .function) {ts vs : List Expr} {k k2 : Nat} {p p2 : Pos} {r : Option (List Str)} (h : swapK env.scope ts vs = some r) : swappedStores [.Tuple ts k p] (.Tuple vs k2 p2) env = pure r := by
  have hb : env.blockKind = .function := by unfold Env.blockKind; rw [hk]; rfl
  unfold swapK at h
  unfold swappedStores
  simp only [hb, bne_self_eq_false, Bool.or_false]
  by_cases c1 : (!(ts.length == 2 || ts.length == 3) || vs.length != ts.length) = true
  · rw [if_pos c1] at h ⊢
    cases h
    rfl
  · rw [if_neg c1] at h ⊢
    have hA : ∀ (f : Expr → Bool) (g : Expr → Option Str), f = isStarE → g = nameF env.scope ((ts.head?.map (·.pos.line)).getD 0) →
        (if (vs.any f) = true then (pure none : Sem (Option (List Str))) else if ((ts.filterMap g).length != ts.length || (ts.filterMap g).eraseDups.length != (ts.filterMap g).length) = true then pure none else if (vs.all (foldedForSure 8)) = true then pure none
          else if (vs.all (constantsAlone 8)) = true then (do unsupported "assign.tuple-of-constant-expressions:order-of-the-stores"; pure (some (ts.filterMap g))) else pure (some (ts.filterMap g))) = pure r := ?_
    · exact hA _ _ (by funext x; cases x <;> rfl) (by funext x; cases x <;> rfl)
    intro f g hf hg
    subst hf hg
    by_cases c2 : (vs.any isStarE) = true
    · rw [if_pos c2] at h ⊢
      cases h
      rfl
    · rw [if_neg c2] at h ⊢
      dsimp only at h
      generalize ts.filterMap (nameF env.scope ((ts.head?.map (·.pos.line)).getD 0)) = names at h ⊢
      by_cases c3 : (names.length != ts.length || names.eraseDups.length != names.length) = true
      · rw [if_pos c3] at h ⊢
        cases h
        rfl
      · rw [if_neg c3] at h ⊢
        by_cases c4 : (vs.all (foldedForSure 8)) = true
        · rw [if_pos c4] at h ⊢
          cases h
          rfl
        · rw [if_neg c4] at h ⊢
          by_cases c5 : (vs.all (constantsAlone 8)) = true
          · rw [if_pos c5] at h
            cases h
          · rw [if_neg c5] at h ⊢
            cases h
            rfl
/-- no several stores -/
theorem noswap {tg v : Expr} {env : Env} (h : (match v with
    | .Tuple _ _ _ => (match tg with | .Tuple _ _ _ => false | .List _ _ => false | _ => true)
    | _ => true) = true) : swappedStores [tg] v env = pure none := by
  cases v with
  | Tuple vs k p => cases tg <;> first | rfl | cases h
  | _ => cases tg <;> rfl
def isComp : Expr → Bool
  | .ListComp .. => true
  | .SetComp .. => true
  | .DictComp .. => true
  | _ => false
theorem nocomp {v : Expr} {t : Option Expr} {l : Nat} {env : Env} (h : isComp v = false) : swapsWith v t l env = pure false := by
  cases v <;> first | rfl | cases h
def swapC (sc : Scope) (y : Str) (py : Pos) (scope : Scope) (lpos : Pos) : Bool := isLocB sc y && py.line == lpos.line && !(scope.names.any fun (n, k) => n == y && (k == .local || k == .cell))
/-- a list display goes to a name by the common way -/
theorem comp_no {elt : Expr} {gs : List Comprehension} {scope : Scope} {pos py : Pos} {y : Str} {l : Nat} {env : Env} (hk : env.scope.kind = .function) (h : swapC env.scope y py scope pos = false) : swapsWith (.ListComp elt gs scope pos) (some (.Name y py)) l env = pure false := by
  have hb : env.blockKind = .function := by unfold Env.blockKind; rw [hk]; rfl
  unfold swapsWith
  have e : (env.blockKind == ScopeKind.function && env.kindOf y == some NameKind.local && py.line == (Expr.ListComp elt gs scope pos).pos.line && !(scope.names.any fun (n, k) => n == y && (k == .local || k == .cell))) = false := by
    rw [hb]
    show (true && env.scope.names.lookup y == some NameKind.local && py.line == pos.line && _) = false
    unfold swapC isLocB at h
    cases q : env.scope.names.lookup y with
    | none => rfl
    | some z => cases z <;> first | rfl | (rw [q] at h; exact h)
  show (pure _ : Sem Bool) = pure false
  rw [e]
theorem comp_sole {elt : Expr} {gs : List Comprehension} {scope : Scope} {pos : Pos} {tg : Expr} {l : Nat} {env : Env} (h : (match tg with | .Name _ _ => false | _ => true) = true) : swapsWith (.ListComp elt gs scope pos) (some tg) l env = pure false := by
  cases tg <;> first | rfl | cases h

section
variable {X : Cx} {W : WX} {xr : XRel} {pos : Pos} {fs : Sl → Sto → R (List D)}
theorem x_par2 {i j : Nat} {x y : Str} {a b : Expr} {px py pt : Pos} {kt k2 : Nat} {pt2 : Pos} (hc : X.calm = true) (hN : X.N.Nodup) (hi : X.N[i]? = some x) (hj : X.N[j]? = some y) (hij : i ≠ j) (hx : isLocB X.env.scope x = true) (hy : isLocB X.env.scope y = true)
    (hw : swappedStores [.Tuple [.Name x px, .Name y py] kt pt] (.Tuple [a, b] k2 pt2) X.env = pure (some [x, y])) (ha : PA X [a, b] (tA xr X.K W fs)) :
    PS X (.Assign [.Tuple [.Name x px, .Name y py] kt pt] (.Tuple [a, b] k2 pt2) pos) (tS xr X.K W fun sl S => (fs sl S).bind fun ds S1 => if ds.length = [i, j].length ∧ [i, j].all (· < sl.length) = true then .ok (.nx (([i, j].zip ds).foldl (fun sl p => sl.set p.1 (some p.2)) sl)) S1 else .no) := by
  refine PS.imp (ps_par hc hN hi hj hij (isLocB_ok hx) (isLocB_ok hy) ha hw) fun Z σ H q => (tS.bind (rel := RVs X.K) q).imp fun xs H1 ⟨ρ1, S1, sl, ds, st, sr, rd, o⟩ => ?_
  split at o
  · rename_i hl
    match ds, hl with
    | [d1, d2], _ =>
      obtain ⟨v, u, rfl, r1, r2⟩ := rvs2 rd
      exact ⟨v, u, rfl, o ρ1 H1 _ Ext.refl st ((sr.set r1).set r2)⟩
    | [], h => simp at h
    | [_], h => simp at h
    | _ :: _ :: _ :: _, h => simp at h
  · exact o.elim
theorem rvs3 {K : PySem.W.Frag} {ρ : Rh} {H : Hp} {d e f : D} {xs : List V} (h : RVs K ρ H [d, e, f] xs) : ∃ v u w, xs = [v, u, w] ∧ RV K ρ H d v ∧ RV K ρ H e u ∧ RV K ρ H f w := by
  obtain ⟨v, t, rfl, h1, h2⟩ := h
  obtain ⟨u, w, rfl, h3, h4⟩ := rvs2 h2
  exact ⟨v, u, w, rfl, h1, h3, h4⟩
theorem x_par3 {i j l : Nat} {x y z : Str} {a b c : Expr} {px py pz pt : Pos} {kt k2 : Nat} {pt2 : Pos} (hc : X.calm = true) (hN : X.N.Nodup) (hi : X.N[i]? = some x) (hj : X.N[j]? = some y) (hl : X.N[l]? = some z) (hij : i ≠ j) (hil : i ≠ l) (hjl : j ≠ l) (hx : isLocB X.env.scope x = true) (hy : isLocB X.env.scope y = true) (hz : isLocB X.env.scope z = true)
    (hw : swappedStores [.Tuple [.Name x px, .Name y py, .Name z pz] kt pt] (.Tuple [a, b, c] k2 pt2) X.env = pure (some [x, y, z])) (ha : PA X [a, b, c] (tA xr X.K W fs)) :
    PS X (.Assign [.Tuple [.Name x px, .Name y py, .Name z pz] kt pt] (.Tuple [a, b, c] k2 pt2) pos) (tS xr X.K W fun sl S => (fs sl S).bind fun ds S1 => if ds.length = [i, j, l].length ∧ [i, j, l].all (· < sl.length) = true then .ok (.nx (([i, j, l].zip ds).foldl (fun sl p => sl.set p.1 (some p.2)) sl)) S1 else .no) := by
  refine PS.imp (ps_par3 hc hN hi hj hl hij hil hjl (isLocB_ok hx) (isLocB_ok hy) (isLocB_ok hz) ha hw) fun Z σ H q => (tS.bind (rel := RVs X.K) q).imp fun xs H1 ⟨ρ1, S1, sl, ds, st, sr, rd, o⟩ => ?_
  split at o
  · rename_i hl
    match ds, hl with
    | [d1, d2, d3], _ =>
      obtain ⟨v, u, w, rfl, r1, r2, r3⟩ := rvs3 rd
      exact ⟨v, u, w, rfl, o ρ1 H1 _ Ext.refl st (((sr.set r1).set r2).set r3)⟩
    | [], h => simp at h
    | [_], h => simp at h
    | [_, _], h => simp at h
    | _ :: _ :: _ :: _ :: _, h => simp at h
  · exact o.elim
end

/-! ### the checker of statements -/
def okSwap (C : Cs) (tg v : Expr) : Bool :=
  match v with
  | .ListComp _ _ scope lp => match tg with
    | .Name y py => !swapC C.sc y py scope lp
    | _ => true
  | .SetComp .. => false
  | .DictComp .. => false
  | .Tuple vs _ _ => match tg with
    | .Tuple ts _ _ => (match swapK C.sc ts vs with | some none => true | _ => false)
    | .List _ _ => false
    | _ => true
  | _ => true
def okPar (C : Cs) (is : List Nat) (ts vs : List Expr) : Bool :=
  match is, ts, vs with
  | [i, j], [.Name x _, .Name y _], [_, _] => decide (C.N[i]? = some x) && decide (C.N[j]? = some y) && decide (i ≠ j) && isLocB C.sc x && isLocB C.sc y && (match swapK C.sc ts vs with | some (some ns) => decide (ns = [x, y]) | _ => false)
  | [i, j, l], [.Name x _, .Name y _, .Name z _], [_, _, _] => decide (C.N[i]? = some x) && decide (C.N[j]? = some y) && decide (C.N[l]? = some z) && decide (i ≠ j) && decide (i ≠ l) && decide (j ≠ l) && isLocB C.sc x && isLocB C.sc y && isLocB C.sc z &&
      (match swapK C.sc ts vs with | some (some ns) => decide (ns = [x, y, z]) | _ => false)
  | _, _, _ => false
def okS (B : Tab) : Nat → Cs → Stmt → S → Bool
  | 0, _, _, _ => false
  | n + 1, C, st, c => match c with
    | .asg t e => match st with
      | .Assign [tg] v _ => okE B n C v e && okT B n C tg t && okSwap C tg v
      | _ => false
    | .lcs i e => match st with
      | .Assign [.Name y py] (.ListComp elt gs scope lp) _ => okE B n C (.ListComp elt gs scope lp) e && decide (C.N[i]? = some y) && swapC C.sc y py scope lp
      | _ => false
    | .par is es => match st with
      | .Assign [.Tuple ts _ _] (.Tuple vs _ _) _ => okPar C is ts vs && all2 (okE B n C) vs es
      | _ => false
    | .ret e => match st with
      | .Return (some v) _ => okE B n C v e
      | _ => false
    | .retN => match st with
      | .Return none _ => true
      | _ => false
    | .ex e => match st with
      | .Expr v _ => okE B n C v e && !isComp v
      | _ => false
    | .iff c x y => match st with
      | .If t a b _ => okE B n C t c && all2 (okS B n C) a x && all2 (okS B n C) b y
      | _ => false
    | .for_ t i b => match st with
      | .For tg iter bd [] _ => okI B n C tg iter i && okT B n C tg t && all2 (okS B n C) bd b
      | _ => false
    | .whl c b => match st with
      | .While t bd [] _ => okE B n C t c && all2 (okS B n C) bd b
      | _ => false
    | .pass => match st with
      | .Pass _ => true
      | _ => false
    | .brk => match st with
      | .Break _ => true
      | _ => false
    | .rai k => match st with
      | .Raise (some (.Call (.Name x _) [.Constant (.str _) _ _] [] _)) none _ => decide (B.cnm[k]? = some x) && glB C.sc x && plainNm x
      | _ => false
    | .nev => true

/-! ### where code stands -/
structure Gm where
  P : Pg
  B : Tab
  xr : XRel
def bltNames : List Str := ["len", "abs", "int", "tuple", "list", "sorted", "all", "any", "max", "min", "sum", "isinstance", "bool", "str", "range", "enumerate", "zip"]
structure CokM (G : Gm) (X : Cx) (b : Nat) : Prop where
  bf : ∀ x ∈ bltNames, X.mg x = none
  gl : ∀ (i : Nat) (x : Str), G.B.gnm[i]? = some x → ∃ u v d, X.mg x = some u ∧ RelV v u ∧ G.P.glb[i]? = some d ∧ ∀ ρ H, RV X.K ρ H d v
  fn : ∀ (f : Nat) (x : Str), G.B.fnm[f]? = some x → ∃ a fd ps fn, X.mg x = some (.ref a) ∧ PySem.W.keepIn X.K (.ref a) = true ∧ Binds X.K fd ps [] ∧ G.P.fns[f]? = some fn ∧
    ∀ b', b' < b → FnOk X.prog X.w X.K X.mg X.base (L2N.CX X.prog X.w) (b' + 1) a fd ps (spF G.xr X.K G.P b' fn)
  cl : ∀ (k : Nat) (x : Str), G.B.cnm[k]? = some x → ∃ C, X.mg x = some (.ref C) ∧ PySem.W.keepIn X.K (.ref C) = true ∧ PySem.W.excIn X.K C He.veBase "ValueError.__new__" = true ∧ PySem.W.subIn X.K (.ref C) (.type "BaseException") = some true ∧
    PySem.W.typeIn X.K (.ref C) = some (.type "type") ∧ ∀ ρ H, G.xr ⟨k, none⟩ (.ref C) none ρ H
  lm : ∀ (k : Nat) (x : Str), G.B.lnm[k]? = some x → ∃ L, G.P.lms[k]? = some L ∧ LamDef X.prog X.w X.K X.mg X.base x (lmTT G.xr L)
  tb : ∀ d ∈ tfL, LamX.TabB X.base X.mg (He.cT X.K d).1 (He.cT X.K d).2
  tu : ∀ d ∈ tfL, ∀ d' ∈ tfL, (He.cT X.K d).2 = (He.cT X.K d').2 → d = d'
structure Cok (G : Gm) (X : Cx) (C : Cs) (W : WX) (b : Nat) : Prop where
  N : X.N = C.N
  nd : C.N.Nodup
  sc : X.env.scope = C.sc
  kind : C.sc.kind = .function
  fb : X.fn = C.fb
  calm : X.calm = true
  room : Room b X.A
  own : PassesOwn (model X.prog X.w) X.A X.env X.xe
  tk : L2N.Takes X W
  md : CokM G X b
  dn : ∀ d, C.dn = some d → d ∈ tfL ∧ X.env.code = .ref (He.cT X.K d).1 ∧ X.env.qual = d.1 ++ ".<locals>."
abbrev blkCs (C : Cs) (scope : Scope) : Cs := ⟨C.N, relS scope C.sc, fun x => scope.names.lookup x == some .cell, C.dn⟩
theorem Cok.blk {G : Gm} {X : Cx} {C : Cs} {W : WX} {b : Nat} (h : Cok G X C W b) {scope : Scope} (hk : scope.kind = .function) (s : Shared) (H : Hp) (Ca : Addr) (cl : List (Str × Addr)) (fp : List Addr) :
    Cok G (X.blk s H scope (compEnvC scope cl Ca X.env) fp) (blkCs C scope) W0 b where
  N := h.N
  nd := h.nd
  sc := by
    show relabel scope X.env = relS scope C.sc
    rw [← h.sc]
    rfl
  kind := hk
  fb := rfl
  calm := h.calm
  room := h.room
  own := PassesOwn.never
  tk := fun u s' ⟨a, B, sI, pins, σ, H, cls, d, e, I, nb, up, sky, na, os, ag, w⟩ => w.elim
  md := ⟨h.md.bf, h.md.gl, h.md.fn, h.md.cl, h.md.lm, h.md.tb, h.md.tu⟩
  dn := h.dn
theorem CokM.le {G : Gm} {X : Cx} {b b' : Nat} (h : CokM G X b) (l : b' ≤ b) : CokM G X b' := ⟨h.bf, h.gl, fun f x e => by
  obtain ⟨a, fd, ps, fn, h1, h2, h3, h4, h5⟩ := h.fn f x e
  exact ⟨a, fd, ps, fn, h1, h2, h3, h4, fun c hc => h5 c (Nat.lt_of_lt_of_le hc l)⟩, h.cl, h.lm, h.tb, h.tu⟩
/-- the lambda's body -/
theorem Cok.lam {G : Gm} {X : Cx} {C : Cs} {W : WX} {b : Nat} (h : Cok G X C W (b + 3)) {scope : Scope} (L : LamX.LamS X.env.scope scope) (A : Around) (outer : List Env) (s : Shared) (H : Hp) (E : XK) (f c' : Addr)
    (hr : Room (b + 1) (A.deeper (LamX.lamEnv X scope s.heap.objs.size f c'))) : Cok G (lamX X A outer s H E scope f c') ⟨C.N, scope, fun _ => false, none⟩ (fun cls d _ H => E cls d H) (b + 1) where
  N := h.N
  nd := h.nd
  sc := rfl
  kind := L.kind
  fb := rfl
  calm := rfl
  room := hr
  own := passes_of (X := lamX X A outer s H E scope f c') (E₁ := fun e' z => L2N.CX X.prog X.w outer H s E e' z) rfl
  tk := L2N.takes_of (X := lamX X A outer s H E scope f c') (E := E) (E₁ := fun e' z => L2N.CX X.prog X.w outer H s E e' z) rfl rfl rfl rfl
  md := (CokM.le ⟨h.md.bf, h.md.gl, h.md.fn, h.md.cl, h.md.lm, h.md.tb, h.md.tu⟩ (by omega) : CokM G (lamX X A outer s H E scope f c') (b + 1))
  dn := fun d z => by cases z
end Nv

end

section
set_option linter.all false
set_option maxRecDepth 100000
set_option maxHeartbeats 2000000
/-! NvH: within an except suite: zip of lists in a list display. -/
namespace Nv
open PySem PySem.Spec PyProof.Rows L2 HotX L2H

section
variable {prog : Program} {w : World} {A : Around} {E : Value → Shared → Prop} {s : Shared}
/-- a list's iterator is at its end -/
theorem endL_hot {x1 it l : Addr} {i : Nat} {items : Array Value} {Q : Value → Shared → Prop} (hot : HotAt A x1 s.heap) (hx1 : x1 ≠ it) (hit : s.heap.IsListIter it l i) (hl : s.heap.IsList l items) (hx : items[i]? = none)
    (hE : ∀ h' e, Heap.ExtBut it s.heap h' → (∃ o, h'.get? e = some o ∧ o.cls = .type "StopIteration") → E (.ref e) { s with heap := h' }) : wpAny (model prog w) A (Builtin.SmallTypes.nextOf (.ref it)) Q E s := by
  obtain ⟨o, ho, hc, hd⟩ := id hit
  obtain ⟨ol, hol, _, nl, hdl⟩ := hl
  obtain ⟨hh, o1, vs1, g1, d1, c1⟩ := hot
  unfold Builtin.SmallTypes.nextOf
  refine wpAny_bind (wpAny_callSpecial?_slot (name := Str.ofString "__next__") hit.typeIs slot_listiter_next (wpAny_call_entry slot_listiter_next hit.typeIs entry_listiter_next ?_ (args_listiter_next _)))
  refine wpAny_bind (m := field (.ref it) 0) (wpAny_field ho hd (x := .ref l) rfl ?_)
  show wpAny _ _ (if (Value.ref l == Value.none) = true then _ else _) _ _ s
  rw [if_neg (show ¬ ((Value.ref l == Value.none) = true) from Bool.false_ne_true)]
  refine wpAny_bind (m := field (.ref it) 1) (wpAny_field ho hd (x := .int i 0) rfl ?_)
  refine wpAny_bind (m := seqItems? (.ref l)) (wpAny_seqItems hol hdl ?_)
  simp only [Int.toNat_natCast, hx]
  refine wpAny_bind (wpAny_rule (wpAny_bind (wpAny_setField ho hd (by simp) ?_)))
  refine wpAny_bind (m := newExc (.type "StopIteration") []) ?_
  simp only [newExc, newTuple]
  refine wpAny_bind (wpAny_newObj_type ?_ (by size_fits))
  refine wpAny_bind (m := firstArgMember _ _) (wpAny_of_eq (a := Value.none) (by first | rfl | (simp only [firstArgMember]; rfl)) (wpAny_newObj_type ?_ (by size_fits)))
  have g2 : (s.heap.update it (Obj.mapFields (·.setIfInBounds 0 Value.none))).get? x1 = some o1 := by rw [Heap.get?_update_other _ _ (Ne.symm hx1)]; exact g1
  refine raiseNew_hot (x1 := x1) ⟨hh, o1, vs1, Heap.get?_push_of_some _ (Heap.get?_push_of_some _ g2), d1, c1⟩ (Nat.ne_of_lt (Heap.lt_size (Heap.get?_push_of_some _ g2))) (Heap.get?_push_size _ rfl) rfl (by first | (simp; done) | (simp; omega) | (simp only [Array.size_append]; simp; omega)) ?_
  refine hE _ _ (fun b ob hb e => ?_) ⟨_, Heap.get?_update_self _ (Heap.get?_push_size _ rfl) rfl, rfl⟩
  have e1 : (s.heap.update it (Obj.mapFields (·.setIfInBounds 0 Value.none))).get? b = some ob := by rw [Heap.get?_update_other _ _ (Ne.symm hb)]; exact e
  have e2 := Heap.get?_push_of_some { cls := .type "tuple", data := .seq ([] : List Value).toArray } e1
  rw [Heap.get?_update_other _ _ (Nat.ne_of_gt (Heap.lt_size e2))]
  exact Heap.get?_push_of_some _ e2
theorem zipE_hot {x1 z TI TO i1 i2 l1 l2 : Addr} {k1 k2 : Nat} {xs ys : Array Value} {a b : Value} {Q : Fin → Shared → Prop} (hot : HotAt A x1 s.heap) (n1 : x1 ≠ z) (n2 : x1 ≠ TO) (n3 : x1 ≠ i1) (n4 : x1 ≠ i2) (D : ZipApart z TI TO i1 i2 l1 l2)
    (hz : IsZip s.heap z TI TO .none) (hTI : IsPair s.heap TI (.ref i1) (.ref i2)) (hTO : IsPair s.heap TO a b) (h1 : s.heap.IsListIter i1 l1 k1) (h2 : s.heap.IsListIter i2 l2 k2) (hl1 : s.heap.IsList l1 xs) (hl2 : s.heap.IsList l2 ys) (hend : xs[k1]? = none ∨ ys[k2]? = none)
    (hE : ∀ h' e, (∀ c o, c ≠ z → c ≠ TO → c ≠ i1 → c ≠ i2 → s.heap.get? c = some o → h'.get? c = some o) → (∃ o, h'.get? e = some o ∧ o.cls = .type "StopIteration") → E (.ref e) { s with heap := h' }) :
    wpAny (model prog w) A (Builtin.«zip.__next__» ⟨[.ref z], []⟩) Q E s := by
  obtain ⟨hh, o1, vs1, g1, d1, c1⟩ := hot
  refine wpAny_bind (m := field (.ref z) 2) (wpAny_field hz rfl (x := .bool false) rfl ?_)
  refine wpAny_bind (m := field (.ref z) 3) (wpAny_field hz rfl (x := .ref TI) rfl (wpAny_bind (wpAny_seqItems hTI rfl ?_)))
  refine wpAny_bind (m := Builtin.SmallTypes.ownedTupleIsFree (.ref z)) ?_
  unfold Builtin.SmallTypes.ownedTupleIsFree
  refine wpAny_bind (wpAny_field hz rfl (x := .none) rfl (wpAny_pure ?_))
  simp only [if_true]
  refine wpAny_bind (wpAny_rule (wpAny_bind (wpAny_field hz rfl (x := .ref TO) rfl (wpAny_bind (wpAny_setField_rec hz (by simp) fun h₁ hz₁ hs₁ => ?_)))))
  have hz₁ : IsZip h₁ z TI TO .ellipsis := hz₁
  have p1 : h₁.get? x1 = some o1 := hs₁.extBut _ _ n1 g1
  refine wpAny_bind ?_
  simp only [List.zipIdx_cons, List.zipIdx_nil, List.forIn_cons, List.forIn_nil]
  refine wpAny_bind (wpAny_bind (wpAny_onRaise (wpAny_bind (m := Builtin.SmallTypes.nextOf (.ref i1)) ?_)))
  cases hx : xs[k1]? with
  | none =>
    refine endL_hot (x1 := x1) ⟨hh, o1, vs1, p1, d1, c1⟩ n3 (h1.extBut hs₁.extBut D.i1z) (hl1.extBut hs₁.extBut D.l1z) hx fun h₂ e hs₂ ⟨oe, hoe, hce⟩ => ?_
    have hz₂ : IsZip h₂ z TI TO .ellipsis := hs₂ _ _ D.i1z.symm hz₁
    have hez : e ≠ z := fun q => by subst q; rw [hz₂] at hoe; cases hoe; simp at hce
    exact wpAny_setField_rec hz₂ (by simp) fun h₃ _ hs₃ => hE h₃ e (fun c o c1 _ c3 _ q => hs₃.extBut _ _ c1 (hs₂ _ _ c3 (hs₁.extBut _ _ c1 q))) ⟨oe, hs₃.extBut _ _ hez hoe, hce⟩
  | some y =>
    have hy : ys[k2]? = none := hend.elim (fun q => by rw [hx] at q; cases q) id
    refine wpAny_nextOf_list_item (h1.extBut hs₁.extBut D.i1z) (hl1.extBut hs₁.extBut D.l1z) hx fun h₂ _ hs₂ => wpAny_pure ?_
    have hTO₂ : IsPair h₂ TO a b := hs₂.extBut _ _ D.TOi1 (hs₁.extBut _ _ D.TOz hTO)
    refine wpAny_bind (wpAny_seqItems hTO₂ rfl (wpAny_bind (wpAny_updateSeq_pair hTO₂ fun h₃ _ hs₃ => wpAny_bind (wpAny_letGo (wpAny_pure ?_)))))
    refine wpAny_bind (wpAny_bind (wpAny_onRaise (wpAny_bind (m := Builtin.SmallTypes.nextOf (.ref i2)) ?_)))
    refine endL_hot (x1 := x1) ⟨hh, o1, vs1, hs₃.extBut _ _ n2 (hs₂.extBut _ _ n3 p1), d1, c1⟩ n4 (((h2.extBut hs₁.extBut D.i2z).extBut hs₂.extBut D.i12.symm).extBut hs₃.extBut D.TOi2.symm) (((hl2.extBut hs₁.extBut D.l2z).extBut hs₂.extBut D.l2i1).extBut hs₃.extBut D.l2TO) hy fun h₄ e hs₄ ⟨oe, hoe, hce⟩ => ?_
    have hz₄ : IsZip h₄ z TI TO .ellipsis := hs₄ _ _ D.i2z.symm (hs₃.extBut _ _ D.TOz.symm (hs₂.extBut _ _ D.i1z.symm hz₁))
    have hez : e ≠ z := fun q => by subst q; rw [hz₄] at hoe; cases hoe; simp at hce
    exact wpAny_setField_rec hz₄ (by simp) fun h₅ _ hs₅ => hE h₅ e (fun c o c1 c2 c3 c4 q => hs₅.extBut _ _ c1 (hs₄ _ _ c4 (hs₃.extBut _ _ c2 (hs₂.extBut _ _ c3 (hs₁.extBut _ _ c1 q))))) ⟨oe, hs₅.extBut _ _ hez hoe, hce⟩
theorem zipN_hot {x1 z TI TO i1 i2 l1 l2 : Addr} {k1 k2 : Nat} {xs ys : Array Value} {a b : Value} {Q : Option Value → Shared → Prop} (hot : HotAt A x1 s.heap) (n1 : x1 ≠ z) (n2 : x1 ≠ TO) (n3 : x1 ≠ i1) (n4 : x1 ≠ i2) (D : ZipApart z TI TO i1 i2 l1 l2)
    (hz : IsZip s.heap z TI TO .none) (hTI : IsPair s.heap TI (.ref i1) (.ref i2)) (hTO : IsPair s.heap TO a b) (h1 : s.heap.IsListIter i1 l1 k1) (h2 : s.heap.IsListIter i2 l2 k2) (hl1 : s.heap.IsList l1 xs) (hl2 : s.heap.IsList l2 ys) (hend : xs[k1]? = none ∨ ys[k2]? = none)
    (hQ : ∀ h', (∀ c o, c ≠ z → c ≠ TO → c ≠ i1 → c ≠ i2 → s.heap.get? c = some o → h'.get? c = some o) → Q none { s with heap := h' }) : wpAny (model prog w) A (pyNext (.ref z)) Q E s := by
  have hT : s.TypeIs (.ref z) "zip" := ⟨_, hz, rfl⟩
  have hot' : HotAt A.in1 x1 s.heap := hot
  unfold pyNext
  refine wpAny_bind (wpAny_attempt (wpAny_callSpecial?_slot (name := Str.ofString "__next__") hT F.slot_zip_next (wpAny_call_entry F.slot_zip_next hT F.entry_zip_next (zipE_hot (x1 := x1) (by first | exact hot | exact hot') n1 n2 n3 n4 D hz hTI hTO h1 h2 hl1 hl2 hend fun h' e hk ⟨o, ho, hc⟩ => ?_) (F.args_zip_next_1 _))))
  exact wpAny_bind (wpAny_isInstance (T := "StopIteration") (b := true) ⟨o, ho, hc⟩ isSubtype_stop (wpAny_pure (hQ _ hk)))
end

section
variable {prog : Program} {w : World} {A : Around} {E : Value → Shared → Prop} {s : Shared}
theorem endT_hot {x1 it t : Addr} {i : Nat} {items : Array Value} {Q : Option Value → Shared → Prop} (hot : HotAt A x1 s.heap) (hx1 : x1 ≠ it) (hit : s.heap.IsTupleIter it t i) (ht : s.heap.IsTuple t items) (hx : items[i]? = none)
    (hQ : ∀ h', Heap.ExtBut it s.heap h' → Q none { s with heap := h' }) : wpAny (model prog w) A (pyNext (.ref it)) Q E s := by
  obtain ⟨o, ho, hc, hd⟩ := id hit
  obtain ⟨ol, hol, _, nl, hdl⟩ := ht
  obtain ⟨hh, o1, vs1, g1, d1, c1⟩ := hot
  unfold pyNext
  refine wpAny_bind (wpAny_attempt (wpAny_callSpecial?_slot (name := Str.ofString "__next__") hit.typeIs F.slot_tuple_iterator_next (wpAny_call_entry F.slot_tuple_iterator_next hit.typeIs F.entry_tuple_iterator_next ?_ (F.args_tuple_iterator_next_1 _))))
  refine wpAny_bind (m := field (.ref it) 0) (wpAny_field ho hd (x := .ref t) rfl ?_)
  show wpAny _ _ (if (Value.ref t == Value.none) = true then _ else _) _ _ s
  rw [if_neg (show ¬ ((Value.ref t == Value.none) = true) from Bool.false_ne_true)]
  refine wpAny_bind (m := field (.ref it) 1) (wpAny_field ho hd (x := .int i 0) rfl (wpAny_bind (m := seqItems? (.ref t)) (wpAny_seqItems hol hdl ?_)))
  simp only [Int.toNat_natCast, hx]
  refine wpAny_bind (wpAny_rule (wpAny_bind (wpAny_setField ho hd (by simp) (wpAny_bind (m := newExc (.type "StopIteration") []) ?_))))
  simp only [newExc, newTuple]
  refine wpAny_bind (wpAny_newObj_type (wpAny_bind (m := firstArgMember _ _) (wpAny_of_eq (a := Value.none) (by first | rfl | (simp only [firstArgMember]; rfl)) (wpAny_newObj_type ?_ (by size_fits)))) (by size_fits))
  have g2 : (s.heap.update it (Obj.mapFields (·.setIfInBounds 0 Value.none))).get? x1 = some o1 := by rw [Heap.get?_update_other _ _ (Ne.symm hx1)]; exact g1
  refine raiseNew_hot (x1 := x1) ⟨hh, o1, vs1, Heap.get?_push_of_some _ (Heap.get?_push_of_some _ g2), d1, c1⟩ (Nat.ne_of_lt (Heap.lt_size (Heap.get?_push_of_some _ g2))) (Heap.get?_push_size _ rfl) rfl (by first | (simp; done) | (simp; omega) | (simp only [Array.size_append]; simp; omega)) ?_
  refine wpAny_bind (wpAny_isInstance (T := "StopIteration") (b := true) ⟨_, Heap.get?_update_self _ (Heap.get?_push_size _ rfl) rfl, rfl⟩ isSubtype_stop (wpAny_pure (hQ _ fun b ob hb e => ?_)))
  have e1 : (s.heap.update it (Obj.mapFields (·.setIfInBounds 0 Value.none))).get? b = some ob := by rw [Heap.get?_update_other _ _ (Ne.symm hb)]; exact e
  have e2 := Heap.get?_push_of_some { cls := .type "tuple", data := .seq ([] : List Value).toArray } e1
  rw [Heap.get?_update_other _ _ (Nat.ne_of_gt (Heap.lt_size e2))]
  exact Heap.get?_push_of_some _ e2
theorem unpackT_hot {x1 t : Addr} {items : Array Value} {Q : List Value → Shared → Prop} (hot : HotAt A x1 s.heap) (ht : s.heap.IsTuple t items)
    (hQ : ∀ h', Heap.ExtBut s.heap.objs.size s.heap h' → Q items.toList { s with heap := h' }) : wpAny (model prog w) A (unpackItems (.ref t) items.size none) Q E s := by
  have hlt : t ≠ s.heap.objs.size := by obtain ⟨o, ho, _⟩ := ht; exact Nat.ne_of_lt (Heap.lt_size ho)
  obtain ⟨hh, o1, vs1, g1, d1, c1⟩ := hot
  have hx1 : x1 ≠ s.heap.objs.size := Nat.ne_of_lt (Heap.lt_size g1)
  unfold unpackItems
  refine wpAny_bind ?_
  unfold notIterableAtAll
  refine wpAny_bind (wpAny_specialOf ht.typeIs F.slot_tuple_iter.lookup (wpAny_pure ?_))
  simp only [Bool.false_eq_true, if_false]
  refine wpAny_bind (wpAny_holding (wpAny_pyIter_tuple ht (wpAny_bind (wpAny_holding (wpAny_draw_tuple hlt items.size 0 _ _ ⟨_, Heap.get?_push_size _ rfl, rfl, rfl⟩ (ht.push _) (by omega) fun h₁ hit₁ hs₁ => ?_)))))
  rw [List.drop_zero, List.take_of_length_le (by simp), if_neg (by simp)]
  refine wpAny_bind (wpAny_holding (endT_hot (x1 := x1) ⟨hh, o1, vs1, hs₁.extBut _ _ hx1 (Heap.get?_push_of_some _ g1), d1, c1⟩ hx1 hit₁ ((ht.push _).extBut hs₁.extBut hlt) (by simp) fun h₂ he₂ => ?_))
  simp only [Option.isSome_none, Bool.false_eq_true, if_false]
  exact wpAny_pure (hQ h₂ fun b o hb e => he₂ b o hb (hs₁.extBut b o hb (Heap.get?_push_of_some _ e)))
end
/-- a target, while x1 is handled -/
structure PGh (x1 : Addr) (X : Cx) (e : Expr) (t : TG) : Prop where
  run : ∀ (pins : List (Addr × Obj)) (s : Shared) (σ : St) (H : Hp) (v : V) (u : Value) (Q : St → Hp → Prop), Inv X pins σ H s → HotAt X.A x1 s.heap → RelV v u → t v σ H Q → wpAny (model X.prog X.w) X.A (assign e X.env u) (fun _ s' => ∃ σ' H', Inv X pins σ' H' s' ∧ Q σ' H') X.xe s
theorem pg_tupH {x1 : Addr} {X : Cx} {es : List Expr} {k : Nat} {t : TGs} {n : Nat} {pos : Pos} (h : PGs X es t) (hn : (assignEach es X.env).length = n) (hst : (assignEach es X.env).findIdx? (·.1) = none) : PGh x1 X (.Tuple es k pos) (gTup X.K n t) := by
  refine ⟨fun pins s σ H v u Q I hot r ⟨a, xs, e1, hq, hl, hw⟩ => ?_⟩
  subst e1
  cases r
  obtain ⟨its, rv, ht, hz⟩ := I.tuple hq
  have hsz : (assignEach es X.env).length = its.toArray.size := by simp [hn, ← hl, rv.length]
  rw [assign_Tuple]
  refine wpAny_bind (wpAny_standAt ?_)
  unfold unpack
  rw [hsz, hst]
  refine wpAny_bind (wpAny_holding (unpackT_hot hot (show s.heap.IsTuple a _ from ht) fun h' hx => ?_))
  have I1 : Inv X pins σ H { s with heap := h' } := I.kept (t' := s.toks) fun b o e => hx b o (Nat.ne_of_lt (Heap.lt_size e)) e
  exact h.run pins _ σ H xs _ Q I1 (by simpa using rv) hw

/-! ### a walk there -/
structure TurnX (P : Program) (w : World) (K : PySem.W.Frag) (tg : Expr) (J : It) (fp : List Addr) (it : Addr) (tn : Nat → Heap → Prop) : Prop where
  mem : it ∈ fp
  obj : ∀ i h, tn i h → ∀ b ∈ fp, ∃ o, h.get? b = some o ∧ ∀ v, o.data ≠ .cell v
  keep : ∀ i h h', tn i h → (∀ b ∈ fp, ∀ o, h.get? b = some o → h'.get? b = some o) → tn i h'
  item : ∀ (X : Cx), X.prog = P → X.w = w → X.K = K → ∀ (i : Nat) (pins : List (Addr × Obj)) (s : Shared) (σ : St) (H : Hp) (E : Value → Shared → Prop), Inv X pins σ H s → (∀ b ∈ fp, FpOk X pins H b) → tn i s.heap → J.go i H →
    wpAny (model P w) X.A (pyNext (.ref it)) (fun r s1 => ∃ u, r = some u ∧ wpAny (model P w) X.A (letOwnedTupleGo tg (.ref it) u) (fun _ s2 => ∃ x H', Inv X pins σ H' s2 ∧ RelV x u ∧ J.yld i H x H' ∧ tn (i + 1) s2.heap ∧ ∀ b ∈ fp, H' b = none) E s1) E s
  done : ∀ (X : Cx), X.prog = P → X.w = w → X.K = K → ∀ (x1 : Addr) (i : Nat) (pins : List (Addr × Obj)) (s : Shared) (σ : St) (H : Hp) (E : Value → Shared → Prop), HotAt X.A x1 s.heap → x1 ∉ fp → Inv X pins σ H s → (∀ b ∈ fp, FpOk X pins H b) → tn i s.heap → J.stop i H →
    wpAny (model P w) X.A (pyNext (.ref it)) (fun r s1 => r = none ∧ Inv X pins σ H s1) E s
  self : ∀ (A : Around) (i : Nat) (s : Shared) (Q : Value → Shared → Prop) (E : Value → Shared → Prop), tn i s.heap → Q (.ref it) s → wpAny (model P w) A (pyIter (.ref it)) Q E s
theorem turn_zipX {P : Program} {w : World} {K : PySem.W.Frag} {elts : List Expr} {kk : Nat} {tpos : Pos} {a b z TI TO i1 i2 : Addr} (D : ZipApart z TI TO i1 i2 a b) :
    TurnX P w K (.Tuple elts kk tpos) (Itz K a b) [z, TI, TO, i1, i2] z (fun i h => IsZip h z TI TO .none ∧ IsPair h TI (.ref i1) (.ref i2) ∧ (∃ x y, IsPair h TO x y) ∧ h.IsListIter i1 a i ∧ h.IsListIter i2 b i) where
  mem := (turn_zip (P := P) (w := w) (K := K) (elts := elts) (kk := kk) (tpos := tpos) D).mem
  obj := (turn_zip (P := P) (w := w) (K := K) (elts := elts) (kk := kk) (tpos := tpos) D).obj
  keep := (turn_zip (P := P) (w := w) (K := K) (elts := elts) (kk := kk) (tpos := tpos) D).keep
  self := (turn_zip (P := P) (w := w) (K := K) (elts := elts) (kk := kk) (tpos := tpos) D).self
  item := by
    intro X hP hw hK i pins s σ H E I hf ⟨hz, hTI, ⟨x0, y0, hTO⟩, h1, h2⟩ ⟨xs, ys, x, y, hqx, hqy, hx, hy⟩
    subst hP hw hK
    obtain ⟨its, rv, p, _⟩ := I.list hqx
    obtain ⟨its2, rv2, p2, _⟩ := I.list hqy
    obtain ⟨u, hu, ru⟩ := rv.get hx
    obtain ⟨u2, hu2, ru2⟩ := rv2.get hy
    have hzl : z < s.heap.objs.size := Heap.lt_size hz
    have ne5 : ∀ {c : Addr}, c ∉ [z, TI, TO, i1, i2] → c ≠ z ∧ c ≠ TO ∧ c ≠ i1 ∧ c ≠ i2 := fun {c} h => ⟨fun q => h (by simp [q]), fun q => h (by simp [q]), fun q => h (by simp [q]), fun q => h (by simp [q])⟩
    refine wpAny_pyNext_zip_item D hz hTI hTO h1 h2 p.isList p2.isList (x := u) (y := u2) (by simpa using hu) (by simpa using hu2) fun h' z' TO' h1' h2' hT hsz hk => ⟨_, rfl, wpAny_letOwnedTupleGo_zip (s := { s with heap := h' }) z' fun h'' z'' sb => ?_⟩
    have hT2 : h''.get? s.heap.objs.size = some { cls := .type "tuple", data := .seq #[u, u2] } := (sb.2 _ (Nat.ne_of_gt hzl)).trans hT
    have I1 : Inv X pins σ (upd H s.heap.objs.size (.tup [x, y])) { s with heap := h'' } := I.turnedNew (t' := s.toks) (ch := [z, TI, TO, i1, i2]) (fun c o hb q => (sb.2 c (ne5 hb).1).trans (hk c o (ne5 hb).1 (ne5 hb).2.1 (ne5 hb).2.2.1 (ne5 hb).2.2.2 q)) hf (Nat.le_refl _)
      ⟨by show 2 ≤ sizeLine; decide, [u, u2], .cons ru (.cons ru2 .nil), ⟨_, hT2, rfl, _, rfl⟩⟩
    refine ⟨.ref s.heap.objs.size, _, I1, rfl, ⟨_, x, y, rfl, I.hok.fresh (Nat.le_refl _), rfl, fun l hl => by rw [I.list_inj hl hqx]; exact hx, fun l hl => by rw [I.list_inj hl hqy]; exact hy⟩,
      ⟨z'', (sb.2 _ D.TIz).trans (hk _ _ D.TIz D.TITO D.TIi1 D.TIi2 hTI), ⟨u, u2, (sb.2 _ D.TOz).trans TO'⟩, h1'.at fun o q => (sb.2 _ D.i1z).trans q, h2'.at fun o q => (sb.2 _ D.i2z).trans q⟩, fun c hcm => ?_⟩
    obtain ⟨o, e, _⟩ := (turn_zip (P := X.prog) (w := X.w) (K := X.K) (elts := elts) (kk := kk) (tpos := tpos) D).obj i s.heap ⟨hz, hTI, ⟨x0, y0, hTO⟩, h1, h2⟩ c hcm
    rw [upd_ne (Nat.ne_of_lt (Heap.lt_size e))]
    exact (hf c hcm).1
  done := by
    intro X hP hw hK x1 i pins s σ H E hot nx I hf ⟨hz, hTI, ⟨x0, y0, hTO⟩, h1, h2⟩ ⟨xs, ys, hqx, hqy, hend⟩
    subst hP hw hK
    obtain ⟨its, rv, p, _⟩ := I.list hqx
    obtain ⟨its2, rv2, p2, _⟩ := I.list hqy
    have l1 := rv.length
    have l2 := rv2.length
    exact zipN_hot hot (fun q => nx (by simp [q])) (fun q => nx (by simp [q])) (fun q => nx (by simp [q])) (fun q => nx (by simp [q])) D hz hTI hTO h1 h2 p.isList p2.isList (hend.imp (fun q => by simp; omega) (fun q => by simp; omega)) fun h' hk => ⟨rfl, I.turnedL (t' := s.toks) (ch := [z, TI, TO, i1, i2]) (fun c o hb q =>
      hk c o (fun q' => hb (by simp [q'])) (fun q' => hb (by simp [q'])) (fun q' => hb (by simp [q'])) (fun q' => hb (by simp [q'])) q) hf⟩
def PIEX (X : Cx) (pins : List (Addr × Obj)) (σ : St) (tg : Expr) (R : It → Hp → Prop) (itv : Value) (s2 : Shared) : Prop :=
  ∃ (it : Addr) (fp : List Addr) (tn : Nat → Heap → Prop) (J : It) (H' : Hp), itv = .ref it ∧ Inv X pins σ H' s2 ∧ TurnX X.prog X.w X.K tg J fp it tn ∧ tn 0 s2.heap ∧ (∀ b ∈ fp, FpOk X pins H' b) ∧ R J H'
structure PIX (X : Cx) (tg iter : Expr) (wi : TI) : Prop where
  run : ∀ (pins : List (Addr × Obj)) (s : Shared) (σ : St) (H : Hp) (R : It → Hp → Prop), Inv X pins σ H s → wi σ H R → wpAny (model X.prog X.w) X.A (eval iter X.env) (fun v s1 => wpAny (model X.prog X.w) X.A (pyIter v) (PIEX X pins σ tg R) X.xe s1) X.xe s
theorem pi_zipX {X : Cx} {e e2 : Expr} {ta : TA} {p pos tpos : Pos} {elts : List Expr} {kk : Nat} (hg : Gl X "zip") (hm : X.mg "zip" = none) (ha : PA X [e, e2] ta)
    (hs : starEach [e, e2] X.env = (false, eval e X.env) :: starEach [e2] X.env) (hpl : (backTo pos (starEach [e2] X.env)).any (·.1) = false) : PIX X (.Tuple elts kk tpos) (.Call (.Name "zip" p) [e, e2] [] pos) (iZip X.K ta) := by
  refine ⟨fun pins s σ H R I h => Call_ (ld_blt I hg hm PyProof.Rows.boot_zip (PyProof.Rows.callWith_type1 (thn (ha.run pos pins s σ H _ I h) fun us s1 ⟨vs, H1, I1, r1, a, b, xs, ys, ex, hqx, hqy, q⟩ => ?_) hs hpl))⟩
  subst ex
  obtain ⟨⟩ | ⟨r, rr⟩ := r1
  obtain ⟨⟩ | ⟨r', rr⟩ := rr
  cases rr
  cases r
  cases r'
  obtain ⟨its, rv, p1, _⟩ := I1.list hqx
  obtain ⟨its2, rv2, p2, _⟩ := I1.list hqy
  refine call_zip_2 p1.isList p2.isList fun h' hz hTI hTO h1 h2 hsz hk => wpAny_pyIter_zip hz ⟨s1.heap.objs.size + 4, [s1.heap.objs.size + 4, s1.heap.objs.size + 2, s1.heap.objs.size + 3, s1.heap.objs.size, s1.heap.objs.size + 1], _, _, H1, rfl, I1.kept (t' := s1.toks) hk,
    turn_zipX (PySem.W.ktu_apart s1.heap.objs.size a b p1.lt p2.lt), ⟨hz, hTI, ⟨_, _, hTO⟩, h1, h2⟩, fun c hcm => ?_, q⟩
  have hle : s1.heap.objs.size ≤ c := by
    simp only [List.mem_cons, List.not_mem_nil, or_false] at hcm
    rcases hcm with z | z | z | z | z <;> rw [z] <;> first | exact Nat.le_add_right _ _ | exact Nat.le_refl _
  exact I1.fpOk hle (I1.hok.fresh hle)
section
variable {X : Cx}
/-- a list display there -/
theorem pe_lcX {elt tg iter : Expr} {ifs : List Expr} {scope : Scope} {own : List (Str × Nat)} {pos : Pos} {wi : TI} {g : TG} {tt : TT} {te : TE} {pp : Addr × Obj} (hot : Hot1 X.A pp) (hpp : pp ∈ X.pn) (hN : X.N.Nodup) (hi : PIX X tg iter wi) (ok : BlkOk X.N X.env.scope scope own)
    (hg : ∀ (s : Shared) (H : Hp) (C : Addr) (cl : List (Str × Addr)) (fp : List Addr), PGh pp.1 (X.blk s H scope (compEnvC scope cl C X.env) fp) tg g) (ht : ∀ (s : Shared) (H : Hp) (C : Addr) (cl : List (Str × Addr)) (fp : List Addr), PTs (X.blk s H scope (compEnvC scope cl C X.env) fp) ifs tt)
    (he : ∀ (s : Shared) (H : Hp) (C : Addr) (cl : List (Str × Addr)) (fp : List Addr), PE (X.blk s H scope (compEnvC scope cl C X.env) fp) elt te) (hs : ∀ x, foldedSetIterable iter X.env x = pure x) : PE X (.ListComp elt [⟨tg, iter, ifs, 0⟩] scope pos) (tLc wi g tt te (own.map (·.2))) := by
  obtain ⟨hh, v1, e1, c1⟩ := hot
  refine ⟨fun pins s σ H Q I h => ?_⟩
  rw [eval_ListComp]
  have hfree : ∀ y ∈ scope.names, y.2 = .free → ∃ c, X.env.cells.lookup y.1 = some c := fun y hy e => (ok.free y hy e).elim (fun k => I.ok.has _ (.inl k)) fun k => I.ok.has _ (.inr k)
  refine wpAny_comprehension_free (use := none) rfl hs (closure_ok hfree) ok.kind (fun y hy e => by rw [ok.uniq y hy, e]) (thn (hi.run pins s σ H _ I h) fun xv s1 hx => thn hx fun itv s2 ⟨it, fp, tn, J, H2, e, I2, T, st2, f2, q⟩ => ?_)
  subst e
  refine wpAny_newObj_type (newEnv_comp ?_) (by show 0 ≤ sizeLine; decide)
  generalize hD : s2.heap.objs.size = D
  obtain ⟨W, ⟨m0, w0⟩, turn⟩ := q D (I2.hok.fresh (Nat.le_of_eq hD))
  generalize hs3 : ({ s2 with heap := s2.heap.push { cls := .type "list", data := .seq ([] : List Value).toArray } } : Shared) = s3
  have I3 : Inv X pins σ (upd H2 D (.lst [])) s3 := by
    rw [← hs3]
    refine I2.laid (t' := s2.toks) (fun b o e => Heap.get?_push_of_some _ e) (Nat.le_of_eq hD) ⟨Nat.zero_le _, [], 0, .nil, ?_⟩
    rw [← hD]
    exact Heap.get?_push_size _ rfl
  have h3 : s3.heap = s2.heap.push { cls := .type "list", data := .seq ([] : List Value).toArray } := by rw [← hs3]
  have f3 : ∀ b ∈ fp, FpOk X pins (upd H2 D (.lst [])) b ∧ b < s3.heap.objs.size := fun b hb => by
    obtain ⟨o, e, _⟩ := T.obj _ _ st2 b hb
    have hlt := Heap.lt_size e
    refine ⟨⟨?_, (f2 b hb).2⟩, by rw [h3, Heap.size_push]; exact Nat.lt_succ_of_lt hlt⟩
    rw [upd_ne (by rw [← hD]; exact Nat.ne_of_lt hlt)]
    exact (f2 b hb).1
  have st3 : tn 0 s3.heap := T.keep _ _ _ st2 fun b _ o e => by rw [h3]; exact Heap.get?_push_of_some _ e
  have I4 := block_start I3 ok hN f3
  have pg := hg s3 (upd H2 D (.lst [])) s3.heap.objs.size (cellsFrom (s3.heap.objs.size + 1) scope.names (cloFrom X.env.cells scope.names [])) fp
  have pt := ht s3 (upd H2 D (.lst [])) s3.heap.objs.size (cellsFrom (s3.heap.objs.size + 1) scope.names (cloFrom X.env.cells scope.names [])) fp
  have pe := he s3 (upd H2 D (.lst [])) s3.heap.objs.size (cellsFrom (s3.heap.objs.size + 1) scope.names (cloFrom X.env.cells scope.names [])) fp
  show codeAny _ _ (.compStart (.ListComp elt [⟨tg, iter, ifs, 0⟩] scope pos) 0 (.ref it) (.ref D) (compEnvC scope (cellsFrom (s3.heap.objs.size + 1) scope.names (cloFrom X.env.cells scope.names [])) s3.heap.objs.size X.env)) _ { s3 with heap := pushCells (s3.heap.push { cls := .type "dict", data := .dict #[] }) scope.names }
  generalize hce : compEnvC scope (cellsFrom (s3.heap.objs.size + 1) scope.names (cloFrom X.env.cells scope.names [])) s3.heap.objs.size X.env = ce at I4 pg pt pe ⊢
  have cL : ce.locals = s3.heap.objs.size := by subst hce; rfl
  generalize hH3 : upd H2 D (.lst []) = H3 at I3 I4 pg pt pe w0 f3
  have nfp : ∀ b ∈ fp, H3 b = none := fun b hb => (f3 b hb).1.1
  have P1 := I3.pin pp (List.mem_append_left _ hpp)
  have ppf : pp.1 ∉ fp := fun z => (f3 pp.1 z).1.2.2.2.2.2 pp (List.mem_append_left _ hpp) rfl
  have pps : pp.1 ∉ frs X.stack := fun z => (List.mem_cons.mp (I3.stkSub pp.1 z)).elim P1.2.2.1 P1.2.2.2.1
  have hotB : ∀ {pn : List (Addr × Obj)} {σ' : St} {H' : Hp} {s' : Shared}, Inv (X.blk s3 H3 scope ce fp) pn σ' H' s' → HotAt X.A pp.1 s'.heap := fun {pn σ' H' s'} I' => ⟨hh, pp.2, v1, I'.base.keep pp.1 pp.2 P1.1 P1.2.1 pps ppf, e1, c1⟩
  generalize hs4 : ({ s3 with heap := pushCells (s3.heap.push { cls := .type "dict", data := .dict #[] }) scope.names } : Shared) = s4 at I4 ⊢
  have st4 : tn 0 s4.heap := T.keep _ _ _ st3 fun b _ o e => by rw [← hs4]; exact pushCells_keeps _ _ _ _ (Heap.get?_push_of_some _ e)
  have stat : ∀ {σ' : St} {H' : Hp} {s' : Shared}, Inv (X.blk s3 H3 scope ce fp) [] σ' H' s' → (∀ b ∈ fp, H' b = none) → ∀ b ∈ fp, FpOk (X.blk s3 H3 scope ce fp) [] H' b := fun {σ' H' s'} I' hn b hb =>
    ⟨hn b hb, (I'.ok.exf b hb).1, I'.ok.exfs b hb, .inl hb, fun x c e => (I'.ok.exf b hb).2 x c e, fun p hp => absurd (show p ∈ ([] : List (Addr × Obj)) ++ [] from hp) (by simp)⟩
  have loop : codeAny (model X.prog X.w) X.A (.compLoop (.ListComp elt [⟨tg, iter, ifs, 0⟩] scope pos) 0 (.ref it) (.ref D) ce) (compPost (model X.prog X.w) X.A X.xe none (EP X pins σ Q) (.ref D) s3.heap.objs.size) s4 := by
    refine compLoop_any (fun n s' => ∃ i H', Inv (X.blk s3 H3 scope ce fp) [] (wipe σ (own.map (·.2))) H' s' ∧ tn i s'.heap ∧ (∀ b ∈ fp, H' b = none) ∧ W i n H') ?_ m0 ⟨0, H3, I4, st4, nfp, w0⟩
    rintro n s5 ⟨i, H5, I5, st5, n5, w5⟩
    rcases turn i n H5 w5 with ⟨stop, qq⟩ | ⟨go, Nx, hNx, step⟩
    · refine thnF (T.done (X.blk s3 H3 scope ce fp) rfl rfl rfl pp.1 i [] s5 _ H5 (fun _ _ => False) (hotB I5) ppf I5 (stat I5 n5) st5 stop) fun r s6 ⟨hr, I6⟩ => ?_
      subst hr
      have I7 : Inv X pins σ H5 s6 := I3.call' (ch := fp) I6.os I6.base I6.hok I6.bare fun b hb => ⟨(f3 b hb).1.2.2.2.1, (f3 b hb).1.2.1, (f3 b hb).1.2.2.2.2.1, (f3 b hb).1.2.2.2.2.2⟩
      have nC : H5 s3.heap.objs.size = none := by rw [← cL]; exact I6.free
      obtain ⟨m, hn, _⟩ := I6.loc
      have hn : s6.heap.Ns ce.locals m := hn
      rw [cL] at hn
      obtain ⟨f0, f1, f2, f3, f4, f5⟩ := I3.fpOk (Nat.le_refl _) nC
      exact ⟨m, hn, fun h'' sb => ⟨.ref D, H5, I7.turned (t' := s6.toks) (fun b o hb e => (sb.2 b hb).trans e) f0 f1 f3 f4 f5, rfl, qq⟩⟩
    · refine thnF (T.item (X.blk s3 H3 scope ce fp) rfl rfl rfl i [] s5 _ H5 (fun _ _ => False) I5 (stat I5 n5) st5 go) fun r s6 ⟨u, hr, h6⟩ => ?_
      subst hr
      refine thnF h6 fun _ s7 ⟨x, H7, I7, r7, y7, st7, n7⟩ => ?_
      refine thnF (pg.run _ s7 _ H7 x u _ (I7.pinned (stat I7 n7) (T.obj _ _ st7)) (hotB I7) r7 (step x H7 y7)) fun _ s8 ⟨σ8, H8, I8, hw8, q8⟩ => thnF (pt.run _ s8 σ8 H8 _ I8 q8) fun b s9 ⟨H9, I9, q9⟩ => ?_
      have fin : ∀ {s' : Shared} {H' : Hp}, Inv (X.blk s3 H3 scope ce fp) ([] ++ pinsAt fp s7.heap) σ8 H' s' → Nx H' → ∃ m, m < n ∧ ∃ i H', Inv (X.blk s3 H3 scope ce fp) [] (wipe σ (own.map (·.2))) H' s' ∧ tn i s'.heap ∧ (∀ b ∈ fp, H' b = none) ∧ W i m H' := fun {s' H'} I' nx => by
        obtain ⟨m', hm, w'⟩ := hNx H' nx
        have pin' : ∀ b ∈ fp, ∀ o, s7.heap.get? b = some o → s'.heap.get? b = some o ∧ H' b = none := fun b hb o e => let z := I'.pin (b, o) (List.mem_append_right _ (List.mem_append_right _ (mem_pinsAt hb e))); ⟨z.1, z.2.1⟩
        refine ⟨m', hm, i + 1, H', (I'.unpinned (pins := [])).weak (by rw [← hw8, wipe_length]) (fun j v e => by rw [← hw8] at e; exact (wipe_some e).1), T.keep _ _ _ st7 fun b hb o e => (pin' b hb o e).1, fun b hb => ?_, w'⟩
        obtain ⟨o, e, _⟩ := T.obj _ _ st7 b hb
        exact (pin' b hb o e).2
      cases b with
      | false =>
        simp only [Bool.false_eq_true, if_false] at q9 ⊢
        exact fin I9 q9
      | true =>
        simp only [if_true] at q9 ⊢
        exact thnF (pe.run _ s9 σ8 H9 _ I9 q9) fun z s10 ⟨yv, H10, I10, r10, acc, hD10, hz10, nx⟩ => app_ok (X := X.blk s3 H3 scope ce fp) I10 hD10 hz10 r10 fun s11 I11 => fin I11 nx
  exact codeAny_compStart_list loop (T.self X.A 0 _ _ _ st4 loop)
end
end Nv

end

section
set_option linter.all false
set_option maxRecDepth 100000
set_option maxHeartbeats 2000000
/-! NvN: a def that tells an error's names, called within an except suite; the def that catches. -/
namespace Nv
open PySem PySem.Spec PyProof.Rows L2 HotX L2H LamX

/-! ### a def that is called with the handled error -/
abbrev SpP := Addr × Obj → Sp
structure FnP (P : Program) (w : World) (K : PySem.W.Frag) (mg : Str → Option Value) (base : Heap) (k : Nat) (f : Addr) (fd : FuncData) (ps : List Str) (sp : SpP) : Prop where
  len : ∀ p vs H Q E, sp p vs H Q E → vs.length = ps.length
  run : ∀ (A : Around) (outer : List Env) (s : Shared) (H : Hp) (args : Args) (us : List Value) (vs : List V) (Q : VK) (E : XK) (p : Addr × Obj), RoomH k A → Hot1 A p → PinOk outer H s p → Env0 P w K mg base A outer s H → BindsTo s fd args (ps.zip us) → Vals vs us → sp p vs H Q E →
    codeAny (model P w) A (.call (.ref f) args) (CR C8.CX0 outer P w H s Q E) s
theorem fn_ofP {P : Program} {w : World} {K : PySem.W.Frag} {mg : Str → Option Value} {base : Heap} {k : Nat} {f : Addr} {x : Str} {params : Arguments} {body : List Stmt} {scope : Scope} {fd : FuncData} {N ps : List Str} {sp : SpP} (F : FunD K x x params body scope [] [] f fd) (S : FnScope N ps scope)
    (len : ∀ p vs H Q E, sp p vs H Q E → vs.length = ps.length)
    (hbody : ∀ (cdv : Value) (A : Around) (outer : List Env) (s : Shared) (H : Hp) (vs : List V) (Q : VK) (E : XK) (p : Addr × Obj), Hot1 A p → RoomH k (A.deeper (envOfC x scope s.heap.objs.size f cdv)) → sp p vs H Q E →
      ∃ t, PSs (cxH C8.CX0 P w K mg base N x scope f cdv A outer s H E p) body t ∧ t { nx := fun _ H' => Q .non H', rt := Q } (L2.start N vs) H) : FnP P w K mg base (k + 1) f fd ps sp := by
  obtain ⟨oc, od, dV, kV, doc, pm, an, cdv, ct, osl, rfl, lk, hcd, _, _⟩ := F.ex
  refine ⟨len, fun A outer s H args us vs Q E p hr hot hpin e0 hb r hsp => ?_⟩
  have hl := len _ _ _ _ _ hsp
  have KX : K.In s.heap := e0.mod.kin.keeps fun b o e => (e0.bs b o e).1
  have lim : s.heap.NoLimit := e0.mod.nolimit.keeps fun b o e => (e0.bs b o e).1
  refine codeAny_call_function hr.depth (KX _ _ lk) rfl S.co S.gen rfl (PySem.W.codeRec_of KX hcd) (hb _ _ _ _ (wpAny_newFunctionEnv_cells S.kind (fun ⟨n, v⟩ hy => (S.par n (List.of_mem_zip hy).1).imp id fun q => ⟨q, PySem.W.cellsFrom_some _ _ _ (.inl q)⟩) fun env he s1 x => ?_))
  subst he
  refine ⟨lim.keeps x.toInCall.keep, codeAny_func ?_⟩
  obtain ⟨t, ht, hq⟩ := hbody cdv A outer s H vs Q E p hot (hr.deeper _) hsp
  refine wpAny_mono (ht.run [] s1 (L2.start N vs) H _ (inv_startH S hpin e0 hl r x) hq) (fun fl s' hs => ?_) fun e s' hs => hs
  cases fl with
  | ret u => exact let ⟨v, σ', H', J, rv, q⟩ := hs; ⟨v, H', J.os, J.bare, J.base, J.hok, rv, q⟩
  | next => exact let ⟨σ', H', J, q⟩ := hs; ⟨V.non, H', J.os, J.bare, J.base, J.hok, rfl, q⟩
  | brk => exact let ⟨_, _, _, q⟩ := hs; q.elim
  | cont => exact let ⟨_, _, _, q⟩ := hs; q.elim
/-- f(e, ..) there -/
theorem pe_callP {X : Cx} {k : Nat} {f : Addr} {fd : FuncData} {ps : List Str} {sp : SpP} {x : Str} {q pos : Pos} {e : Expr} {es : List Expr} {t : TA} {p : Addr × Obj} (F : FnP X.prog X.w X.K X.mg X.base k f fd ps sp) (hr : RoomH k X.A) (hot : Hot1 X.A p) (hp : p ∈ X.pn) (hg : Gl X x) (hm : X.mg x = some (.ref f)) (hk : PySem.W.keepIn X.K (.ref f) = true) (hb : Binds X.K fd ps [])
    (ha : PA X (e :: es) t) (hdb : (x == ("__debug__" : Str)) = false) (he : starEach (e :: es) X.env = (false, eval e X.env) :: starEach es X.env) (hpl : (backTo pos (starEach es X.env)).any (·.1) = false) : PE X (.Call (.Name x q) (e :: es) [] pos) (fun σ H Q => t σ H fun vs H1 => sp p vs H1 Q C8.E0) := by
  refine ⟨fun pins s σ H Q I h => wpAny_Call_Name_kw (ld_glob I hg hm (PySem.W.callWith_K (h₀ := X.base) I.ok.mod.kin hk (thn (ha.run pos pins s σ H _ I h) fun us s1 ⟨vs, H1, I1, r, q⟩ => ⟨I1.kIn, ?_⟩) he hpl) hdb)⟩
  have b := hb s1 us I1.kIn (by rw [List.append_nil, ← r.length]; exact F.len _ _ _ _ _ q)
  rw [List.append_nil] at b
  have P1 := I1.pin p (List.mem_append_left _ hp)
  refine wpAny_call (codeAny_mono (F.run X.A X.stack s1 H1 ⟨us, []⟩ us vs Q C8.E0 p hr hot ⟨P1.1, P1.2.1, fun hm => (List.mem_cons.mp (I1.stkSub p.1 hm)).elim P1.2.2.1 P1.2.2.2.1, P1.2.2.2.2⟩ I1.env0 b r q) fun r s' hq => ?_)
  cases r with
  | error e => exact (show False from hq).elim
  | ok fl => cases fl with
    | ret u => exact I1.after hq
    | next => exact hq.elim
    | brk => exact hq.elim
    | cont => exact hq.elim

/-! ### isinstance of it -/
theorem call_isP {X : Cx} {a D : Addr} {oe : Obj} (C : ExcC X.K D) (hp : (a, oe) ∈ X.pn) (hz : Zc (.ref D) none oe) (hf : ∃ vs, oe.data = .fields vs) : CallR X (.builtin "isinstance") (rIsE X.K D a) := by
  intro pins s σ H xs us Q I r ⟨c, cv, b, ex, hcv, e, q⟩
  subst ex
  obtain ⟨⟩ | ⟨rx, rr⟩ := r
  obtain ⟨⟩ | ⟨rt, rr⟩ := rr
  cases rr
  cases rx
  obtain rfl := hcv _ rt
  have hget := (I.pin (a, oe) (List.mem_append_left _ hp)).1
  obtain ⟨vs, hv⟩ := hf
  have J : PySem.W.InstAt s.heap a oe D none := by
    obtain ⟨oc, od, oda, osl⟩ := oe
    obtain ⟨h1, h2⟩ := hz
    dsimp only at h1 h2 hv
    subst h1 h2 hv
    exact ⟨hget, rfl, rfl, trivial⟩
  exact PySem.W.kia_one (PySem.W.handS_kitx_exc C.hg C.hk C.hs C.hd C.ha C.hn C.ht C.hm) I.kIn J e (fun z => nomatch z) fun tk => ⟨.bl b, H, I.kept (t' := tk) fun _ _ z => z, rfl, q⟩
def tIs (a : Addr) (b : Bool) : TE := fun σ H Q => σ[0]? = some (some (.ref a)) ∧ Q (.bl b) H
/-- a class by its name -/
def ClsV (K : PySem.W.Frag) (mg : Str → Option Value) (D : Addr) (x : Str) (b : Bool) : Prop :=
  (∃ C, mg x = some (.ref C) ∧ PySem.W.kitOne K (.ref D) (.ref C) = some b) ∨ (∃ n, mg x = none ∧ bootBuiltins x = some (.type n) ∧ PySem.W.kitOne K (.ref D) (.type n) = some b)
theorem pe_is {X : Cx} {a D : Addr} {oe : Obj} {e x : Str} {b : Bool} {p q r pos : Pos} (C : ExcC X.K D) (hp : (a, oe) ∈ X.pn) (hz : Zc (.ref D) none oe) (hf : ∃ vs, oe.data = .fields vs) (hN : X.N[0]? = some e) (hv : Vis X.env.scope e) (he : plainNm e = true) (hi : Gl X "isinstance") (hm : X.mg "isinstance" = none) (hx : Gl X x) (hpx : plainNm x = true) (hc : ClsV X.K X.mg D x b) :
    PE X (.Call (.Name "isinstance" p) [.Name e q, .Name x r] [] pos) (tIs a b) := by
  simp only [plainNm, Bool.and_eq_true, Bool.not_eq_true'] at he hpx
  have hxn : x ≠ "__name__" := fun z => by rw [z] at hpx; simp at hpx
  have pv := pe_var (pos := q) hN hv he.1.1 he.1.2
  rcases hc with ⟨Ca, h1, h2⟩ | ⟨n, h1, h2, h3⟩
  · exact PE.imp (pe_callB (call_isP C hp hz hf) hi hm (by decide +kernel) (pa_cons pv (pa_cons (pe_glob (v := .ref Ca) hx h1 rfl hpx.1.1) pa_nil)) (by decide) (by decide)) fun σ H Q ⟨s0, h⟩ => ⟨.ref a, s0, _, _, _, rfl, fun u ru => ru, h2, h⟩
  · exact PE.imp (pe_callB (call_isP C hp hz hf) hi hm (by decide +kernel) (pa_cons pv (pa_cons (pe_bltn (v := .ty n) hx h1 h2 rfl hxn hpx.1.1) pa_nil)) (by decide) (by decide)) fun σ H Q ⟨s0, h⟩ => ⟨.ref a, s0, _, _, _, rfl, fun u ru => ru, h3, h⟩
inductive IsEs (X : Cx) (a : Addr) : List Expr → List Bool → Prop
  | nil : IsEs X a [] []
  | cons {e : Expr} {b : Bool} {es : List Expr} {bs : List Bool} (h : PE X e (tIs a b)) (hs : noStar e = true) (r : IsEs X a es bs) : IsEs X a (e :: es) (b :: bs)
theorem IsEs.pa {X : Cx} {a : Addr} {es : List Expr} {bs : List Bool} (h : IsEs X a es bs) : PA X es (fun σ H Q => σ[0]? = some (some (.ref a)) ∧ Q (bs.map V.bl) H) := by
  induction h with
  | nil => exact ⟨fun pos pins s σ H Q I q => pa_nil.run pos pins s σ H Q I q.2⟩
  | cons h hs r ih => exact ⟨fun pos pins s σ H Q I q => (pa_cons h ih (star_cons hs)).run pos pins s σ H Q I ⟨q.1, q.1, q.2⟩⟩

/-! ### the def that tells the names -/
/-- the words whose Bools are true -/
def selW : List Str → List Bool → List Str
  | w :: ws, b :: bs => if b then w :: selW ws bs else selW ws bs
  | _, _ => []
theorem selW_snoc : ∀ (i : Nat) (ws : List Str) (bs : List Bool) (w : Str) (b : Bool), ws[i]? = some w → bs[i]? = some b → selW (ws.take (i + 1)) (bs.take (i + 1)) = selW (ws.take i) (bs.take i) ++ (if b then [w] else [])
  | 0, w0 :: ws, b0 :: bs, w, b, h1, h2 => by
    cases h1
    cases h2
    cases b0 <;> simp [selW]
  | i + 1, w0 :: ws, b0 :: bs, w, b, h1, h2 => by
    have ih := selW_snoc i ws bs w b (by simpa using h1) (by simpa using h2)
    show selW (w0 :: ws.take (i + 1)) (b0 :: bs.take (i + 1)) = selW (w0 :: ws.take i) (b0 :: bs.take i) ++ _
    cases b0
    · exact ih
    · show w0 :: selW (ws.take (i + 1)) (bs.take (i + 1)) = (w0 :: selW (ws.take i) (bs.take i)) ++ _
      rw [ih]
      rfl
  | _, [], _, w, b, h1, h2 => by simp at h1
  | 0, _ :: _, [], w, b, h1, h2 => by simp at h2
  | _ + 1, _ :: _, [], w, b, h1, h2 => by simp at h2
theorem selW_len : ∀ (ws : List Str) (bs : List Bool), (selW ws bs).length ≤ ws.length
  | [], _ => by simp [selW]
  | _ :: _, [] => by simp [selW]
  | w :: ws, b :: bs => by
    have := selW_len ws bs
    cases b <;> simp [selW] <;> omega
abbrev rSplit1 : V → List V → Hp → VK → Prop := fun x xs H Q => ∃ a b, x = .str a ∧ xs = [.str b] ∧ (b.length == 0) = false ∧ a.length + 2 ≤ sizeLine ∧ rNewStrs (Txt.split a b) H Q
abbrev rJoin1 (K : PySem.W.Frag) : V → List V → Hp → VK → Prop := fun x xs H Q => ∃ a p, ∃ ys : List Str, x = .str a ∧ xs = [.ref p] ∧ (SqL K H p (ys.map V.str) ∨ SqT K H p (ys.map V.str)) ∧ (ys.map (·.length)).sum + ys.length * a.length ≤ 16777216 ∧ Q (.str (Txt.join a ys)) H
def tIss (ad : Addr) (bs : List Bool) : TA := fun σ H Q => σ[0]? = some (some (.ref ad)) ∧ Q (bs.map V.bl) H
def tNm (K : PySem.W.Frag) (ad : Addr) (bs1 bs2 bs3 : List Bool) (lab sep : Str) : TS :=
  tSeq (tAsg (tLst (tIss ad bs1)) (gName 1)) (tSeq (tAsg (tOp rCat (tVar 1) (tLst (tIss ad bs2))) (gName 1)) (tSeq (tAsg (tOp rCat (tVar 1) (tLst (tIss ad bs3))) (gName 1)) (tSeq (tAsg (tC (.str lab)) (gName 2))
    (tRet (tM1 (rJoin1 K) (tC (.str sep)) (tLc (iZip K (tCons (tM1 rSplit1 (tVar 2) (tC (.str sep))) (tCons (tVar 1) tNil))) (gTup K 2 (gCons (gName 3) (gCons (gName 4) gNil))) (fun σ H Q => tVar 4 σ H fun x H' => ∃ k, TruV K x H' k ∧ Q k H') (tVar 3) [3, 4]))))))
def Gr (H H' : Hp) : Prop := ∀ b o, H b = some o → H' b = some o
theorem Gr.upd {H H' : Hp} {p : Addr} {o : HO} (g : Gr H H') (h : H' p = none) : Gr H (upd H' p o) := fun b u e => by
  rw [upd_ne (ne_of_none (g b u e) h)]
  exact g b u e
theorem names_pure {K : PySem.W.Frag} {ad : Addr} {H : Hp} {D : Ends} {bs1 bs2 bs3 : List Bool} {lab sep : Str} {ws : List Str} (hw : Txt.split lab sep = ws) (hn : ws.length = (bs1 ++ bs2 ++ bs3).length) (hz : ws.length ≤ 1000) (hsep : (sep.length == 0) = false) (hlab : lab.length + 2 ≤ sizeLine)
    (hj : ((selW ws (bs1 ++ bs2 ++ bs3)).map (·.length)).sum + (selW ws (bs1 ++ bs2 ++ bs3)).length * sep.length ≤ 16777216) (q : ∀ H'', Gr H H'' → D.rt (.str (Txt.join sep (selW ws (bs1 ++ bs2 ++ bs3)))) H'') :
    tNm K ad bs1 bs2 bs3 lab sep D [some (.ref ad), none, none, none, none] H := by
  have e16 : sizeLine = 16777216 := sizeLine_eq
  have hl : bs1.length + bs2.length + bs3.length ≤ 1000 := by simp only [List.length_append] at hn; omega
  refine ⟨rfl, by simp; omega, fun a1 h1 => ?_⟩
  have g1 : Gr H (upd H a1 (.lst (bs1.map V.bl))) := Gr.upd (fun _ _ e => e) h1
  refine ⟨.ref a1, rfl, rfl, by simp; omega, fun a2 h2 => ?_⟩
  have n12 : a1 ≠ a2 := ne_of_none upd_same h2
  refine ⟨a1, a2, bs1.map V.bl, bs2.map V.bl, rfl, rfl, by rw [upd_ne n12]; exact upd_same, upd_same, by simp; omega, fun a3 h3 => ?_⟩
  have g3 := (g1.upd (o := .lst (bs2.map V.bl)) h2).upd (o := .lst (bs1.map V.bl ++ bs2.map V.bl)) h3
  refine ⟨.ref a3, rfl, rfl, by simp; omega, fun a4 h4 => ?_⟩
  have n34 : a3 ≠ a4 := ne_of_none upd_same h4
  refine ⟨a3, a4, _, _, rfl, rfl, by rw [upd_ne n34]; exact upd_same, upd_same, by simp; omega, fun a5 h5 => ?_⟩
  have g5 := (g3.upd (o := .lst (bs3.map V.bl)) h4).upd (o := .lst ((bs1.map V.bl ++ bs2.map V.bl) ++ bs3.map V.bl)) h5
  generalize hH5 : upd (upd (upd (upd (upd H a1 (.lst (bs1.map V.bl))) a2 (.lst (bs2.map V.bl))) a3 (.lst (bs1.map V.bl ++ bs2.map V.bl))) a4 (.lst (bs3.map V.bl))) a5 (.lst ((bs1.map V.bl ++ bs2.map V.bl) ++ bs3.map V.bl)) = H5 at g5
  have f5 : H5 a5 = some (.lst ((bs1 ++ bs2 ++ bs3).map V.bl)) := by rw [← hH5, upd_same]; simp
  generalize hbs : bs1 ++ bs2 ++ bs3 = bs at *
  show tM1 (rJoin1 K) (tC (.str sep)) (tLc (iZip K (tCons (tM1 rSplit1 (tVar 2) (tC (.str sep))) (tCons (tVar 1) tNil))) (gTup K 2 (gCons (gName 3) (gCons (gName 4) gNil))) (fun σ H Q => tVar 4 σ H fun x H' => ∃ k, TruV K x H' k ∧ Q k H') (tVar 3) [3, 4]) [some (.ref ad), some (.ref a5), some (.str lab), none, none] H5 D.rt
  refine ⟨⟨sep, rfl⟩, .str lab, rfl, ⟨lab, rfl⟩, lab, sep, rfl, rfl, hsep, hlab, fun a6 h6 => ?_⟩
  rw [hw]
  have n56 : a5 ≠ a6 := ne_of_none f5 h6
  have g6 := g5.upd (o := .lst (ws.map V.str)) h6
  generalize hH6 : upd H5 a6 (.lst (ws.map V.str)) = H6 at g6
  have f6 : H6 a6 = some (.lst (ws.map V.str)) := by rw [← hH6, upd_same]
  have f56 : H6 a5 = some (.lst (bs.map V.bl)) := by rw [← hH6, upd_ne n56]; exact f5
  refine ⟨.ref a5, rfl, a6, a5, ws.map V.str, bs.map V.bl, rfl, SqL.of f6, SqL.of f56, fun a7 h7 => ?_⟩
  refine ⟨fun i m Hh => m = ws.length - i ∧ i ≤ ws.length ∧ Gr H6 Hh ∧ Hh a7 = some (.lst ((selW (ws.take i) (bs.take i)).map V.str)), ⟨ws.length, by simp, Nat.zero_le _, Gr.upd (fun _ _ e => e) h7, by simp [upd_same, selW]⟩, ?_⟩
  rintro i m Hh ⟨rfl, hi, gh, hD⟩
  have s6 : SqL K Hh a6 (ws.map V.str) := SqL.of (gh _ _ f6)
  have s5 : SqL K Hh a5 (bs.map V.bl) := SqL.of (gh _ _ f56)
  by_cases hlt : i < ws.length
  · right
    have hb : i < bs.length := by omega
    refine ⟨⟨_, _, .str ws[i], .bl bs[i], s6, s5, by simp [hlt], by simp [hb]⟩, fun H' => ws.length - (i + 1) < ws.length - i ∧ i + 1 ≤ ws.length ∧ Gr H6 H' ∧ H' a7 = some (.lst ((selW (ws.take (i + 1)) (bs.take (i + 1))).map V.str)), fun H' ⟨y1, y2, y3, y4⟩ => ⟨_, y1, rfl, y2, y3, y4⟩, ?_⟩
    rintro v H' ⟨T, x, y, rfl, hT, rfl, hx, hy⟩
    have ex := hx _ s6
    have ey := hy _ s5
    have hwi : ws[i]? = some ws[i] := List.getElem?_eq_getElem hlt
    have hbi : bs[i]? = some bs[i] := List.getElem?_eq_getElem hb
    rw [List.getElem?_map, hwi] at ex
    rw [List.getElem?_map, hbi] at ey
    cases ex
    cases ey
    have nT : a7 ≠ T := ne_of_none hD hT
    have gT := gh.upd (o := .tup [.str ws[i], .bl bs[i]]) hT
    have sn := selW_snoc i ws bs _ _ hwi hbi
    refine ⟨T, _, rfl, SqT.of upd_same, rfl, _, _, rfl, _, _, rfl, rfl, rfl, .bl bs[i], rfl, bs[i], ?_, ?_⟩
    · exact (rfl : bs[i] = bs[i])
    · cases hbb : bs[i] with
      | false =>
        rw [hbb] at sn
        rw [if_neg (by simp)]
        refine ⟨by omega, hlt, by rw [← hbb]; exact gT, ?_⟩
        rw [upd_ne nT, hD, sn]
        simp
      | true =>
        rw [hbb] at sn
        rw [if_pos rfl]
        refine ⟨.str ws[i], rfl, _, by rw [upd_ne nT]; exact hD, ?_, by omega, hlt, fun b o eb => ?_, ?_⟩
        · rw [List.length_map]
          have := selW_len (ws.take i) (bs.take i)
          rw [List.length_take] at this
          omega
        · have z : b ≠ a7 := fun z => by rw [z, h7] at eb; cases eb
          rw [upd_ne z, ← hbb]
          exact gT b o eb
        · rw [upd_same, sn]
          simp
  · left
    have hie : i = ws.length := by omega
    subst hie
    rw [List.take_length, show bs.take ws.length = bs by rw [hn, List.take_length]] at hD
    exact ⟨⟨_, _, s6, s5, .inl (by simp)⟩, sep, a7, selW ws bs, rfl, rfl, .inl (SqL.of hD), hj, q Hh fun b o eb => gh b o (g6 b o eb)⟩
end Nv

end

section
set_option linter.all false
set_option maxRecDepth 100000
set_option maxHeartbeats 2000000
/-! Nv10: the evaluator is right. -/
namespace Nv
open PySem PySem.Spec PyProof.Rows L2

structure Snd (G : Gm) (ev : Ev) : Prop where
  e : ∀ {X : Cx} {C : Cs} {W : WX} {b : Nat}, Cok G X C W b → ∀ {k : Nat} {e : Expr} {c : E}, okE G.B k C e c = true → PE X e (tE G.xr X.K W fun sl S => ev.e b c sl S)
  t : ∀ {X : Cx} {C : Cs} {W : WX} {b : Nat}, Cok G X C W b → ∀ {k : Nat} {e : Expr} {c : E}, okE G.B k C e c = true → PT X e (tB G.xr X.K W fun sl S => ev.t b c sl S)
  w : ∀ {X : Cx} {C : Cs} {W : WX} {b : Nat}, Cok G X C W b → ∀ {k : Nat} {op : BoolOp} {vs : List Expr} {p : Pos} {c : E}, okE G.B k C (.BoolOp op vs p) c = true → PW X (.BoolOp op vs p) (tB G.xr X.K W fun sl S => ev.t b c sl S)
  s : ∀ {X : Cx} {C : Cs} {W : WX} {b : Nat}, Cok G X C W b → ∀ {k : Nat} {st : Stmt} {c : S}, okS G.B k C st c = true → PS X st (tS G.xr X.K W fun sl S => ev.s b c sl S)

theorem okE_noStar {B : Tab} : ∀ {k : Nat} {C : Cs} {e : Expr} {c : E}, okE B k C e c = true → noStar e = true
  | 0, _, _, _, h => by cases h
  | k + 1, C, e, c, h => by
    cases e with
    | Starred v p =>
      unfold okE at h
      cases c <;> cases h
    | _ => rfl
theorem okE_noSlice {B : Tab} : ∀ {k : Nat} {C : Cs} {e : Expr} {c : E}, okE B k C e c = true → noSlice e = true
  | 0, _, _, _, h => by cases h
  | k + 1, C, e, c, h => by
    cases e with
    | Slice v p =>
      unfold okE at h
      cases c <;> cases h
    | _ => rfl
theorem okE_noSet {B : Tab} : ∀ {k : Nat} {C : Cs} {e : Expr} {c : E}, okE B k C e c = true → ∀ (env : Env) (x : Value), foldedSetIterable e env x = pure x
  | 0, _, _, _, h => by cases h
  | k + 1, C, e, c, h => by
    cases e with
    | Set v p =>
      unfold okE at h
      cases c <;> cases h
    | _ => intro env x; rfl
theorem all2_stars {B : Tab} {k : Nat} {C : Cs} : ∀ {as : List Expr} {es : List E}, all2 (okE B k C) as es = true → as.all noStar = true ∧ all2 (fun _ _ => true) as es = true
  | [], [], _ => ⟨rfl, rfl⟩
  | a :: as, e :: es, h => by
    obtain ⟨h1, h2⟩ := Bool.and_eq_true_iff.mp h
    obtain ⟨i1, i2⟩ := all2_stars h2
    exact ⟨by simp only [List.all_cons, okE_noStar h1, i1, Bool.and_self], by simp only [all2, i2, Bool.and_self]⟩
  | [], _ :: _, h => by cases h
  | _ :: _, [], h => by cases h
theorem all2_mem {α β : Type} {f : α → β → Bool} : ∀ {as : List α} {es : List β}, all2 f as es = true → ∀ a c, (a, c) ∈ as.zip es → f a c = true
  | [], [], _, a, c, m => by simp at m
  | a :: as, e :: es, h, x, y, m => by
    obtain ⟨h1, h2⟩ := Bool.and_eq_true_iff.mp h
    rw [List.zip_cons_cons] at m
    rcases List.mem_cons.mp m with z | z
    · cases z; exact h1
    · exact all2_mem h2 x y z
  | [], _ :: _, h, _, _, _ => by cases h
  | _ :: _, [], h, _, _, _ => by cases h
theorem all2_len {α β : Type} {f : α → β → Bool} : ∀ {as : List α} {es : List β}, all2 f as es = true → as.length = es.length
  | [], [], _ => rfl
  | a :: as, e :: es, h => by
    obtain ⟨h1, h2⟩ := Bool.and_eq_true_iff.mp h
    simp [all2_len h2]
  | [], _ :: _, h => by cases h
  | _ :: _, [], h => by cases h

section
variable {G : Gm} {n : Nat} (IH : Snd G (evN G.P n)) {X : Cx} {C : Cs} {W : WX} {b : Nat} (hC : Cok G X C W b)
include IH hC
theorem pa_of {k : Nat} {as : List Expr} {es : List E} (h : all2 (okE G.B k C) as es = true) : PA X as (tA G.xr X.K W fun sl S => evEs (fun e S => (evN G.P n).e b e sl S) es S) :=
  s_args (f := fun e sl S => (evN G.P n).e b e sl S) (all2_stars h).1 (all2_stars h).2 fun a c m => IH.e hC (all2_mem h a c m)
theorem hu_of4 : X.A.units + 110 < cLine := by have := hC.room.un; omega
omit IH in
theorem gl_of {x y : Str} (h : gl1 C x y = true) : x = y ∧ Gl X x := gl1_ok hC.sc h
omit IH in
theorem bf_of {x : Str} (h : x ∈ bltNames) : X.mg x = none := hC.md.bf x h
omit IH hC in
theorem tgs_of {f : T → D → Sl → Sto → R Sl} {xr : XRel} {X : Cx} {W : WX} {sf : T → List Nat} : ∀ {es : List Expr} {ts : List T}, es.all noStar = true → all2 (fun _ _ => true) es ts = true → (∀ e t, (e, t) ∈ es.zip ts → PG X e (tTg xr X.K W (sf t) (f t))) →
    PGs X es (tTs xr X.K W (ts.flatMap sf) fun ds sl S => setTs f ts ds sl S)
  | [], [], _, _, _ => gs_nil
  | e :: es, t :: ts, hn, h2, h => by
    obtain ⟨n1, n2⟩ := Bool.and_eq_true_iff.mp hn
    rw [List.flatMap_cons]
    exact gs_cons n1 (h e t (by rw [List.zip_cons_cons]; exact List.mem_cons_self)) (tgs_of n2 (Bool.and_eq_true_iff.mp h2).2 fun e' t' m => h e' t' (by rw [List.zip_cons_cons]; exact List.mem_cons_of_mem _ m))
  | [], _ :: _, _, h2, _ => by cases h2
  | _ :: _, [], _, h2, _ => by cases h2
omit IH hC in
theorem okT_noStar {B : Tab} : ∀ {k : Nat} {C : Cs} {e : Expr} {c : T}, okT B k C e c = true → noStar e = true
  | 0, _, _, _, h => by cases h
  | k + 1, C, e, c, h => by
    cases e with
    | Starred v p =>
      unfold okT at h
      cases c <;> cases h
    | _ => rfl
omit IH hC in
theorem all2_starsT {B : Tab} {k : Nat} {C : Cs} : ∀ {as : List Expr} {es : List T}, all2 (okT B k C) as es = true → as.all noStar = true ∧ all2 (fun _ _ => true) as es = true
  | [], [], _ => ⟨rfl, rfl⟩
  | a :: as, e :: es, h => by
    obtain ⟨h1, h2⟩ := Bool.and_eq_true_iff.mp h
    obtain ⟨i1, i2⟩ := all2_starsT h2
    exact ⟨by simp only [List.all_cons, okT_noStar h1, i1, Bool.and_self], by simp only [all2, i2, Bool.and_self]⟩
  | [], _ :: _, h => by cases h
  | _ :: _, [], h => by cases h
/-- targets -/
theorem sT : ∀ (q k : Nat) {e : Expr} {t : T}, okT G.B k C e t = true → PG X e (tTg G.xr X.K W (slotsT q t) fun d sl S => setT ((evN G.P n).e b) q t d sl S)
  | 0, k, e, t, h => ⟨fun pins s σ H v u Q I r ⟨ρ, S, sl, d, st, sr, rd, o⟩ => o.elim⟩
  | q + 1, 0, e, t, h => by cases h
  | q + 1, k + 1, e, t, h => by
    unfold okT at h
    cases t with
    | nm i =>
      dsimp only at h
      split at h
      · simp only [Bool.and_eq_true, decide_eq_true_eq] at h
        exact g_nm (by rw [hC.N]; exact hC.nd) (by rw [hC.N]; exact h.1.1) (by rw [hC.sc]; exact h.1.2) (by rw [hC.sc, hC.fb]; exact h.2)
      · cases h
    | tp ts =>
      dsimp only at h
      split at h
      · obtain ⟨h1, h2⟩ := all2_starsT h
        exact g_tp hC.calm h1 (all2_len h) (tgs_of (sf := slotsT q) h1 h2 fun e t m => sT q k (all2_mem h e t m))
      · cases h
    | ix x y =>
      dsimp only at h
      split at h
      · obtain ⟨h1, h2⟩ := Bool.and_eq_true_iff.mp h
        exact g_ix (okE_noSlice h2) (IH.e hC h1) (IH.e hC h2)
      · cases h
/-- what is walked -/
theorem sI : ∀ (k : Nat) {tg e : Expr} {i : I}, okI G.B k C tg e i = true → PI X tg e (tIt G.xr X.K W fun sl S => itD (fun e S => (evN G.P n).e b e sl S) i S)
  | 0, tg, e, i, h => by cases h
  | k + 1, tg, e, i, h => by
    unfold okI at h
    cases i with
    | seq x => exact i_seq (IH.e hC h)
    | rng1 x =>
      dsimp only at h
      split at h
      · obtain ⟨g1, g2⟩ := Bool.and_eq_true_iff.mp h
        obtain ⟨rfl, gg⟩ := gl_of hC g1
        exact i_rng1 gg (bf_of hC (by decide)) (okE_noStar g2) (IH.e hC g2)
      · cases h
    | rng2 x y =>
      dsimp only at h
      split at h
      · obtain ⟨g12, g3⟩ := Bool.and_eq_true_iff.mp h
        obtain ⟨g1, g2⟩ := Bool.and_eq_true_iff.mp g12
        obtain ⟨rfl, gg⟩ := gl_of hC g1
        exact i_rng2 gg (bf_of hC (by decide)) (okE_noStar g2) (okE_noStar g3) (IH.e hC g2) (IH.e hC g3)
      · cases h
    | enum x =>
      dsimp only at h
      split at h
      · simp only [Bool.and_eq_true] at h
        obtain ⟨rfl, gg⟩ := gl_of hC h.1.1
        cases tg <;> first | (exact i_enum gg (bf_of hC (by decide)) (okE_noStar h.2) (IH.e hC h.2)) | (exact absurd h.1.2 (by decide)) | (simp [isTup] at h)
      · cases h
    | zip x y =>
      dsimp only at h
      split at h
      · simp only [Bool.and_eq_true] at h
        obtain ⟨rfl, gg⟩ := gl_of hC h.1.1.1
        cases tg <;> first | (exact i_zip gg (bf_of hC (by decide)) (okE_noStar h.1.2) (okE_noStar h.2) (IH.e hC h.1.2) (IH.e hC h.2)) | (simp [isTup] at h)
      · cases h
omit IH hC in
theorem okI_noSet {B : Tab} : ∀ {k : Nat} {C : Cs} {tg e : Expr} {i : I}, okI B k C tg e i = true → ∀ (env : Env) (x : Value), foldedSetIterable e env x = pure x
  | 0, _, _, _, _, h => by cases h
  | k + 1, C, tg, e, i, h => by
    unfold okI at h
    cases i with
    | seq a => exact okE_noSet h
    | _ => cases e <;> first | (intro env x; rfl) | cases h
omit IH hC in
theorem PTs.imp {X : Cx} {ifs : List Expr} {t t' : TT} (h : PTs X ifs t) (i : ∀ σ H Q, t' σ H Q → t σ H Q) : PTs X ifs t' := ⟨fun pins s σ H Q I q => h.run pins s σ H Q I (i _ _ _ q)⟩
theorem lcParts {elt tg iter : Expr} {ifs' : List Expr} {scope : Scope} {own : List (Str × Nat)} {vs : List Nat} {el : E} {t : T} {ifs : Option E} {k : Nat}
    (ok : BlkOk X.N X.env.scope scope own) (h4 : okT G.B k (blkCs C scope) tg t = true) (h6 : okE G.B k (blkCs C scope) elt el = true)
    (h7 : (match ifs', ifs with
            | [], none => true
            | [c'], some c => okE G.B k (blkCs C scope) c' c
            | _, _ => false) = true) (s : Shared) (H : Hp) (Ca : Addr) (cl : List (Str × Addr)) (fp : List Addr) :
    PG (X.blk s H scope (compEnvC scope cl Ca X.env) fp) tg (tTg G.xr X.K W0 (slotsT 9 t) fun d sl S => setT ((evN G.P n).e b) 9 t d sl S) ∧
    PTs (X.blk s H scope (compEnvC scope cl Ca X.env) fp) ifs' (tB G.xr X.K W0 fun sl S => ifsD ((evN G.P n).t b) ifs sl S) ∧
    PE (X.blk s H scope (compEnvC scope cl Ca X.env) fp) elt (tE G.xr X.K W0 fun sl S => (evN G.P n).e b el sl S) := by
  have hB := hC.blk ok.kind s H Ca cl fp
  refine ⟨sT IH hB 9 k h4, ?_, IH.e hB h6⟩
  match ifs', ifs, h7 with
  | [], none, _ => exact PTs.imp pts_nil fun σ H Q ⟨ρ, S, sl, st, sr, o⟩ => o.here st rfl
  | [c'], some c, h => exact pts_one (IH.t hB h)
theorem lcE {elt tg iter : Expr} {ifs' : List Expr} {scope : Scope} {own : List (Str × Nat)} {pos : Pos} {vs : List Nat} {m : Bool} {el : E} {t : T} {i : I} {ifs : Option E} {k : Nat}
    (ok : BlkOk X.N X.env.scope scope own) (hv : own.map (·.2) = vs) (hix : ∀ i ∈ slotsT 9 t, i ∈ vs) (hi : PI X tg iter (tIt G.xr X.K W fun sl S => itD (fun e S => (evN G.P n).e b e sl S) i S)) (hs : ∀ x, foldedSetIterable iter X.env x = pure x)
    (h4 : okT G.B k (blkCs C scope) tg t = true) (h6 : okE G.B k (blkCs C scope) elt el = true)
    (h7 : (match ifs', ifs with
            | [], none => true
            | [c'], some c => okE G.B k (blkCs C scope) c' c
            | _, _ => false) = true) : PE X (.ListComp elt [⟨tg, iter, ifs', 0⟩] scope pos) (tE G.xr X.K W fun sl S => stE G.P (evN G.P n) b (.lc m el t vs i ifs) sl S) := by
  have pN : X.N.Nodup := by rw [hC.N]; exact hC.nd
  have prt := fun s H Ca cl fp => lcParts IH hC (iter := iter) (vs := vs) ok h4 h6 h7 s H Ca cl fp
  subst hv
  exact PE.imp (pe_lc hC.calm pN hi ok (fun s H Ca cl fp => (prt s H Ca cl fp).1) (fun s H Ca cl fp => (prt s H Ca cl fp).2.1) (fun s H Ca cl fp => (prt s H Ca cl fp).2.2) hs)
    (s_lc (m := m) (pos := pos) hC.calm pN hi ok rfl hix (fun s H Ca cl fp => (prt s H Ca cl fp).1) (fun s H Ca cl fp => (prt s H Ca cl fp).2.1) (fun s H Ca cl fp => (prt s H Ca cl fp).2.2) hs)
theorem sE : ∀ (k : Nat) {e : Expr} {c : E}, okE G.B k C e c = true → PE X e (tE G.xr X.K W fun sl S => stE G.P (evN G.P n) b c sl S)
  | 0, e, c, h => by cases h
  | k + 1, e, c, h => by
    unfold okE at h
    cases hs : single e with
    | some a =>
      rw [hs] at h
      have : ∃ op p, e = .BoolOp op [a] p := by
        unfold single at hs
        split at hs
        · cases hs; exact ⟨_, _, rfl⟩
        · cases hs
      obtain ⟨op, p, rfl⟩ := this
      exact pe_one (sE k h)
    | none =>
      rw [hs] at h
      cases c with
      | c d =>
        dsimp only at h
        split at h
        · exact s_con h
        · cases h
      | v i =>
        dsimp only at h
        split at h
        · simp only [Bool.and_eq_true, decide_eq_true_eq] at h
          exact s_var (by rw [hC.N]; exact h.1.1) (by rw [hC.sc]; exact h.1.2) h.2
        · cases h
      | g i =>
        dsimp only at h
        split at h
        · simp only [Bool.and_eq_true, decide_eq_true_eq] at h
          obtain ⟨u, v, d, h1, h2, h3, h4⟩ := hC.md.gl i _ h.1.1
          refine PE.imp (s_glob (xr := G.xr) (W := W) h1 (by rw [hC.sc]; exact h.1.2) h.2 h2 h4) fun σ H Q ⟨ρ, S, sl, st, sr, o⟩ => ⟨ρ, S, sl, st, sr, ?_⟩
          have o : OutG G.xr X.K W (RV X.K) σ (match G.P.glb[i]? with
            | some d => .ok d S
            | none => .no) ρ H Q := o
          rw [h3] at o
          exact o
        · cases h
      | bin op m x y =>
        dsimp only at h
        split at h
        · simp only [Bool.and_eq_true, decide_eq_true_eq] at h
          exact s_bin h.1.1 (IH.e hC h.1.2) (IH.e hC h.2)
        · cases h
      | neg x =>
        dsimp only at h
        split at h
        · exact s_neg (IH.e hC h)
        · cases h
      | nt x =>
        dsimp only at h
        split at h
        · exact s_not (IH.e hC h)
        · cases h
      | an x y =>
        dsimp only at h
        split at h
        · obtain ⟨h1, h2⟩ := Bool.and_eq_true_iff.mp h
          exact s_and (IH.e hC h1) (IH.e hC h2)
        · cases h
      | or x y =>
        dsimp only at h
        split at h
        · obtain ⟨h1, h2⟩ := Bool.and_eq_true_iff.mp h
          exact s_or (IH.e hC h1) (IH.e hC h2)
        · cases h
      | cmp op x y =>
        dsimp only at h
        split at h
        · simp only [Bool.and_eq_true] at h
          exact s_cmp (hu_of4 IH hC) h.1.1 (IH.e hC h.1.2) (IH.e hC h.2)
        · cases h
      | ch op op' x y z =>
        dsimp only at h
        split at h
        · simp only [Bool.and_eq_true] at h
          exact s_ch (hu_of4 IH hC) h.1.1.1.1 h.1.1.1.2 (IH.e hC h.1.1.2) (IH.e hC h.1.2) (IH.e hC h.2)
        · cases h
      | ite x y z =>
        dsimp only at h
        split at h
        · simp only [Bool.and_eq_true] at h
          exact s_ite (IH.t hC h.1.1) (IH.e hC h.1.2) (IH.e hC h.2)
        · cases h
      | tup es =>
        dsimp only at h
        split at h
        · exact s_tup (pa_of IH hC h)
        · cases h
      | lst m es =>
        dsimp only at h
        split at h
        · exact s_lst (pa_of IH hC h)
        · cases h
      | ix x y =>
        dsimp only at h
        split at h
        · obtain ⟨h1, h2⟩ := Bool.and_eq_true_iff.mp h
          exact s_ix (okE_noSlice h2) (IH.e hC h1) (IH.e hC h2)
        · cases h
      | sl m x lo hi =>
        dsimp only at h
        split at h
        · simp only [Bool.and_eq_true] at h
          refine s_sl (IH.e hC h.1.1) (s_part (f := fun e sl S => (evN G.P n).e b e sl S) ?_ ?_) (s_part (f := fun e sl S => (evN G.P n).e b e sl S) ?_ ?_)
          · exact opt2_true h.1.2
          · intro a e e1 e2; subst e1 e2; exact IH.e hC h.1.2
          · exact opt2_true h.2
          · intro a e e1 e2; subst e1 e2; exact IH.e hC h.2
        · cases h
      | rv m x =>
        dsimp only at h
        split at h
        · simp only [Bool.and_eq_true, decide_eq_true_eq] at h
          obtain ⟨rfl, h⟩ := h
          exact s_rv (IH.e hC h)
        · cases h
      | isi x t =>
        dsimp only at h
        split at h
        · simp only [Bool.and_eq_true] at h
          obtain ⟨rfl, g1⟩ := gl_of hC h.1.1
          obtain ⟨rfl, g2⟩ := gl_of hC h.1.2
          exact s_isi g1 (bf_of hC (by decide)) g2 (bf_of hC (by cases t <;> decide)) (okE_noStar h.2) (IH.e hC h.2)
        · cases h
      | call f es =>
        dsimp only at h
        split at h
        · rename_i x p as pp
          simp only [Bool.and_eq_true, decide_eq_true_eq] at h
          obtain ⟨a, fd, ps, fn, h1, h2, h3, h4, h5⟩ := hC.md.fn f _ h.1.1.1
          have hg : Gl X x := by unfold Gl Env.kindOf; rw [hC.sc]; exact glB_ok h.1.1.2
          cases b with
          | zero => exact ⟨fun pins s σ H Q I ⟨ρ, S, sl, st, sr, o⟩ => o.elim⟩
          | succ b' =>
            have F := h5 b' (Nat.lt_succ_self _)
            have e4 : (fun (sl : Sl) (S : Sto) => stE G.P (evN G.P n) (b' + 1) (.call f es) sl S) = fun sl S => (evEs (fun e S => (evN G.P n).e (b' + 1) e sl S) es S).bind fun ds S1 => fnD (evN G.P n) b' fn ds S1 := by
              funext sl S
              show (match b' + 1, G.P.fns[f]? with
                | b'' + 1, some fn => (evEs (fun e S => (evN G.P n).e (b'' + 1) e sl S) es S).bind fun ds S1 => fnD (evN G.P n) b'' fn ds S1
                | _, _ => .no) = _
              rw [h4]
            rw [e4]
            cases as with
            | nil =>
              cases es with
              | nil => exact s_call0 F hC.room hg h1 h2 h3 hC.tk h.1.2
              | cons => cases h.2
            | cons a' as' => exact s_call F hC.room hg h1 h2 h3 hC.tk h.1.2 (by simp) (all2_stars h.2).1 (pa_of IH hC h.2)
        · cases h
      | bf f m es =>
        dsimp only at h
        split at h
        · rename_i x p as pp
          simp only [Bool.and_eq_true] at h
          obtain ⟨rfl, g1⟩ := gl_of hC h.1.1
          cases as with
          | nil => simp at h
          | cons a' as' =>
            exact s_bf hC.calm g1 (bf_of hC (by cases f <;> decide)) (all2_stars h.1.2).1 (pa_of IH hC h.1.2)
        · cases h
      | mt f x es =>
        dsimp only at h
        split at h
        · rename_i o nm ap as cp
          simp only [Bool.and_eq_true, decide_eq_true_eq] at h
          obtain ⟨⟨⟨⟨⟨h1, h2⟩, h3⟩, h4⟩, h5⟩, h6⟩ := h
          by_cases hf : f = .pop
          · subst hf
            have : as = [] := by cases as with
              | nil => rfl
              | cons => simp at h6
            subst this
            cases es with
            | nil =>
              subst h1
              exact s_pop (f := fun e sl S => (evN G.P n).e b e sl S) h2 h3 (IH.e hC h4)
            | cons => cases h5
          · have : ∃ a', as = [a'] := by
              cases f with
              | pop => exact absurd rfl hf
              | append => match as, h6 with
                | [a'], _ => exact ⟨a', rfl⟩
              | count => match as, h6 with
                | [a'], _ => exact ⟨a', rfl⟩
            obtain ⟨a', rfl⟩ := this
            have hn := (all2_stars h5).1
            exact s_mt h1 hf h2 h3 (by simpa using hn) (IH.e hC h4) (pa_of IH hC h5)
        · cases h
      | lc m el t own i ifs =>
        dsimp only at h
        split at h
        · rename_i elt tg iter ifs' asy scope pp
          simp only [Bool.and_eq_true, decide_eq_true_eq] at h
          obtain ⟨⟨⟨⟨⟨⟨h1, h2⟩, h3⟩, h4⟩, h5⟩, h6⟩, h7⟩ := h
          subst h1
          have ok := blkOk_by h2
          rw [← hC.N, ← hC.sc] at ok
          exact lcE IH hC ok (by rw [List.map_map]; exact List.map_id' _) (fun i hi => by have := List.all_eq_true.mp h5 i hi; simpa using this) (sI IH hC k h3) (okI_noSet h3 X.env) h4 h6 h7
        · cases h
      | lam q x =>
        dsimp only at h
        split at h
        · rename_i f p1 body scope lp p2
          simp only [Bool.and_eq_true, decide_eq_true_eq] at h
          obtain ⟨⟨⟨⟨⟨h1, h2⟩, h3⟩, h4⟩, h5⟩, h6⟩ := h
          cases b with
          | zero => exact ⟨fun pins s σ H Q I ⟨ρ, S, sl, st, sr, o⟩ => o.elim⟩
          | succ b => cases b with
            | zero => exact ⟨fun pins s σ H Q I ⟨ρ, S, sl, st, sr, o⟩ => o.elim⟩
            | succ b => cases b with
              | zero => exact ⟨fun pins s σ H Q I ⟨ρ, S, sl, st, sr, o⟩ => o.elim⟩
              | succ b =>
                obtain ⟨L, hL, D⟩ := hC.md.lm q f h1
                obtain ⟨d, hd⟩ := Option.isSome_iff_exists.mp h5
                obtain ⟨d1, d2, d3⟩ := hC.dn d hd
                have Ls := LamX.lamS_by h4
                rw [← hC.sc] at Ls
                have hq : X.env.qual ++ "<lambda>" = lamQ d := by rw [d3]; rfl
                refine PE.imp (pe_lamN (T := tbK X.K) (k := b) (params := ⟨[], [], none, [], [], none, []⟩) (t := fun E => tE G.xr X.K (fun cls d _ H => E cls d H) fun sl S => (evN G.P n).e (b + 1) x sl S) (show X.env.scope.names.lookup f = _ by rw [hC.sc]; exact glB_ok h2) D (hC.md.tb d d1) d2
                  (by rw [hq]; exact List.mem_map.mpr ⟨d, d1, rfl⟩) (fun p hp e => ?_) hC.room Ls rfl (fun _ _ _ _ _ => rfl) (fun A outer s H E f c' hr => IH.e (hC.lam Ls A outer s H E f c' hr) h6) (plainNm_ok h3).1) fun σ H Q ⟨ρ, S, sl, st, sr, o⟩ => s_lam (W := W) (fe := fun sl S => (evN G.P n).e (b + 1) x sl S) ⟨ρ, S, sl, st, sr, ?_⟩
                · obtain ⟨d', hd', rfl⟩ := List.mem_map.mp hp
                  rw [hq, hC.md.tu d' hd' d d1 e]
                · have o : OutG G.xr X.K W (RV X.K) σ (match G.P.lms[q]? with
                    | some L => lmR L ((evN G.P n).e (b + 1) x sl S)
                    | none => .no) ρ H Q := by
                    have o' : OutG G.xr X.K W (RV X.K) σ (match b + 3, G.P.lms[q]? with
                      | b' + 3, some L => lmR L ((evN G.P n).e (b' + 1) x sl S)
                      | _, _ => .no) ρ H Q := o
                    rw [hL] at o' ⊢
                    exact o'
                  rw [hL] at o
                  exact o
        · cases h
      | nev => exact ⟨fun pins s σ H Q I ⟨ρ, S, sl, st, sr, o⟩ => o.elim⟩
where
  opt2_true {B : Tab} {k : Nat} {C : Cs} {o : Option Expr} {c : Option E} (h : opt2 (okE B k C) o c = true) : opt2 (fun _ _ => true) o c = true := by
    cases o <;> cases c <;> first | rfl | cases h
omit IH hC in
theorem single_some {e a : Expr} (hs : single e = some a) : ∃ op p, e = .BoolOp op [a] p := by
  unfold single at hs
  split at hs
  · cases hs; exact ⟨_, _, rfl⟩
  · cases hs
/-- tests -/
theorem sTe : ∀ (k : Nat) {e : Expr} {c : E}, okE G.B k C e c = true → PT X e (tB G.xr X.K W fun sl S => stT G.P (evN G.P n) b c sl S) ∧ ∀ op vs p, e = .BoolOp op vs p → PW X e (tB G.xr X.K W fun sl S => stT G.P (evN G.P n) b c sl S)
  | 0, e, c, h => by cases h
  | k + 1, e, c, h0 => by
    have h := h0
    unfold okE at h
    cases hs : single e with
    | some a =>
      rw [hs] at h
      obtain ⟨op, p, rfl⟩ := single_some hs
      have pa := (sTe k h).1
      have pw : PW X (.BoolOp op [a] p) (tB G.xr X.K W fun sl S => stT G.P (evN G.P n) b c sl S) := by
        cases op
        · exact pw_and1 pa
        · exact pw_or1 pa
      exact ⟨pw.pt, fun _ _ _ _ => pw⟩
    | none =>
      rw [hs] at h
      cases c with
      | nt x =>
        dsimp only at h
        split at h
        · exact ⟨st_not (IH.t hC h), fun _ _ _ z => by cases z⟩
        · cases h
      | an x y =>
        dsimp only at h
        split at h
        · obtain ⟨h1, h2⟩ := Bool.and_eq_true_iff.mp h
          have pw := st_and (IH.t hC h1) (IH.w hC h2)
          exact ⟨pw.pt, fun _ _ _ _ => pw⟩
        · cases h
      | or x y =>
        dsimp only at h
        split at h
        · obtain ⟨h1, h2⟩ := Bool.and_eq_true_iff.mp h
          have pw := st_or (IH.t hC h1) (IH.w hC h2)
          exact ⟨pw.pt, fun _ _ _ _ => pw⟩
        · cases h
      | cmp op x y =>
        dsimp only at h
        split at h
        · simp only [Bool.and_eq_true] at h
          exact ⟨st_cmp (hu_of4 IH hC) h.1.1 (IH.e hC h.1.2) (IH.e hC h.2), fun _ _ _ z => by cases z⟩
        · cases h
      | ch op op' x y z =>
        dsimp only at h
        split at h
        · simp only [Bool.and_eq_true] at h
          exact ⟨st_ch (hu_of4 IH hC) h.1.1.1.1 h.1.1.1.2 (IH.e hC h.1.1.2) (IH.e hC h.1.2) (IH.e hC h.2), fun _ _ _ z => by cases z⟩
        · cases h
      | ite x y z =>
        refine ⟨⟨fun pins s σ H Q I ⟨ρ, S, sl, st, sr, o⟩ => o.elim⟩, fun _ _ _ _ => ⟨fun wh pins s σ H Q I ⟨ρ, S, sl, st, sr, o⟩ => o.elim⟩⟩
      | c d =>
        dsimp only at h
        split at h
        · exact ⟨st_truth (IH.e hC h0) (fun _ => rfl), fun _ _ _ z => by cases z⟩
        · cases h
      | v i =>
        dsimp only at h
        split at h
        · exact ⟨st_truth (IH.e hC h0) (fun _ => rfl), fun _ _ _ z => by cases z⟩
        · cases h
      | g i =>
        dsimp only at h
        split at h
        · exact ⟨st_truth (IH.e hC h0) (fun _ => rfl), fun _ _ _ z => by cases z⟩
        · cases h
      | bin op m x y =>
        dsimp only at h
        split at h
        · exact ⟨st_truth (IH.e hC h0) (fun _ => rfl), fun _ _ _ z => by cases z⟩
        · cases h
      | neg x =>
        dsimp only at h
        split at h
        · exact ⟨st_truth (IH.e hC h0) (fun _ => rfl), fun _ _ _ z => by cases z⟩
        · cases h
      | tup es =>
        dsimp only at h
        split at h
        · exact ⟨st_truth (IH.e hC h0) (fun _ => rfl), fun _ _ _ z => by cases z⟩
        · cases h
      | lst m es =>
        dsimp only at h
        split at h
        · exact ⟨st_truth (IH.e hC h0) (fun _ => rfl), fun _ _ _ z => by cases z⟩
        · cases h
      | ix x y =>
        dsimp only at h
        split at h
        · exact ⟨st_truth (IH.e hC h0) (fun _ => rfl), fun _ _ _ z => by cases z⟩
        · cases h
      | sl m x lo hi =>
        dsimp only at h
        split at h
        · exact ⟨st_truth (IH.e hC h0) (fun _ => rfl), fun _ _ _ z => by cases z⟩
        · cases h
      | rv m x =>
        dsimp only at h
        split at h
        · exact ⟨st_truth (IH.e hC h0) (fun _ => rfl), fun _ _ _ z => by cases z⟩
        · cases h
      | isi x t =>
        dsimp only at h
        split at h
        · exact ⟨st_truth (IH.e hC h0) (fun _ => rfl), fun _ _ _ z => by cases z⟩
        · cases h
      | call f es =>
        dsimp only at h
        split at h
        · exact ⟨st_truth (IH.e hC h0) (fun _ => rfl), fun _ _ _ z => by cases z⟩
        · cases h
      | bf f m es =>
        dsimp only at h
        split at h
        · exact ⟨st_truth (IH.e hC h0) (fun _ => rfl), fun _ _ _ z => by cases z⟩
        · cases h
      | mt f x es =>
        dsimp only at h
        split at h
        · exact ⟨st_truth (IH.e hC h0) (fun _ => rfl), fun _ _ _ z => by cases z⟩
        · cases h
      | lc m el t own i ifs =>
        dsimp only at h
        split at h
        · exact ⟨st_truth (IH.e hC h0) (fun _ => rfl), fun _ _ _ z => by cases z⟩
        · cases h
      | lam q x =>
        dsimp only at h
        split at h
        · exact ⟨st_truth (IH.e hC h0) (fun _ => rfl), fun _ _ _ z => by cases z⟩
        · cases h
      | nev =>
        dsimp only at h
        split at h
        · exact ⟨st_truth (IH.e hC h0) (fun _ => rfl), fun _ _ _ z => by cases z⟩
        · cases h
omit IH hC in
theorem all2_memS {B : Tab} {k : Nat} {C : Cs} {f : S → Sl → Sto → R Fl} {xr : XRel} {X : Cx} {W : WX} : ∀ {as : List Stmt} {cs : List S}, all2 (okS B k C) as cs = true → (∀ st c, okS B k C st c = true → PS X st (tS xr X.K W (f c))) → PSs X as (tS xr X.K W fun sl S => evSs f cs sl S)
  | [], [], _, _ => x_nil
  | a :: as, c :: cs, h, g => by
    obtain ⟨h1, h2⟩ := Bool.and_eq_true_iff.mp h
    exact x_cons (g a c h1) (all2_memS h2 g)
  | [], _ :: _, h, _ => by cases h
  | _ :: _, [], h, _ => by cases h
theorem pss_of {k : Nat} {as : List Stmt} {cs : List S} (h : all2 (okS G.B k C) as cs = true) : PSs X as (tS G.xr X.K W fun sl S => evSs ((evN G.P n).s b) cs sl S) :=
  all2_memS (f := fun c sl S => (evN G.P n).s b c sl S) h fun st c hc => IH.s hC hc
/-- name = [..] on one line -/
theorem xLcs {elt : Expr} {gs : List Comprehension} {scope : Scope} {y : Str} {py lp pos : Pos} {i k : Nat} {e : E} (h : okE G.B k C (.ListComp elt gs scope lp) e = true) (hy : C.N[i]? = some y) (hw : swapC C.sc y py scope lp = true) :
    PS X (.Assign [.Name y py] (.ListComp elt gs scope lp) pos) (tS G.xr X.K W fun sl S => (stE G.P (evN G.P n) b e sl S).bind fun d S1 => .ok (.nx (sl.set i (some d))) S1) := by
  cases k with
  | zero => cases h
  | succ k =>
    unfold okE at h
    dsimp only [single] at h
    cases e with
    | lc m el t own it ifs =>
      dsimp only at h
      split at h
      · rename_i elt' tg iter ifs' asy scope' pp heq
        cases heq
        simp only [Bool.and_eq_true, decide_eq_true_eq] at h
        obtain ⟨⟨⟨⟨⟨⟨h1, h2⟩, h3⟩, h4⟩, h5⟩, h6⟩, h7⟩ := h
        subst h1
        have ok := blkOk_by h2
        rw [← hC.N, ← hC.sc] at ok
        have hv : (own.map fun j => (X.N.getD j "", j)).map (·.2) = own := by rw [List.map_map]; exact List.map_id' _
        have pN : X.N.Nodup := by rw [hC.N]; exact hC.nd
        have hi := sI IH hC k h3
        have prt := fun s H Ca cl fp => lcParts IH hC (iter := iter) (vs := own) ok h4 h6 h7 s H Ca cl fp
        have hix : ∀ j ∈ slotsT 9 t, j ∈ own := fun j hj => by have := List.all_eq_true.mp h5 j hj; simpa using this
        simp only [swapC, Bool.and_eq_true, Bool.not_eq_true'] at hw
        have hyl := isLocB_ok hw.1.1
        have hk : X.env.scope.kind = .function := by rw [hC.sc]; exact hC.kind
        refine PS.imp (ps_setLc (i := i) hC.calm pN (by rw [hC.N]; exact hy) (by rw [hC.sc]; exact hyl) (sw_true hk (by rw [hC.sc]; exact hyl) hw.1.2 hw.2) hi ok (fun s H Ca cl fp => (prt s H Ca cl fp).1) (fun s H Ca cl fp => (prt s H Ca cl fp).2.1) (fun s H Ca cl fp => (prt s H Ca cl fp).2.2) (okI_noSet h3 X.env)) fun Z σ H q => ?_
        show tLc _ _ _ _ _ σ H (fun x H1 => Z.nx (σ.set i (some x)) H1)
        rw [hv]
        refine s_lc (m := m) (pos := lp) (own := own.map fun j => (X.N.getD j "", j)) hC.calm pN hi ok hv hix (fun s H Ca cl fp => (prt s H Ca cl fp).1) (fun s H Ca cl fp => (prt s H Ca cl fp).2.1) (fun s H Ca cl fp => (prt s H Ca cl fp).2.2) (okI_noSet h3 X.env) σ H _ ?_
        exact (tS.bind (rel := RV X.K) q).imp fun x H1 ⟨ρ1, S1, sl, d, st, sr, rd, (o : OutS G.xr X.K W Z (.ok (.nx (sl.set i (some d))) S1) ρ1 H1)⟩ => o ρ1 H1 _ Ext.refl st (sr.set rd)
      · cases h
    | _ => cases h
theorem sS : ∀ (k : Nat) {st : Stmt} {c : S}, okS G.B k C st c = true → (∀ m, m ≤ n → Snd G (evN G.P m)) → PS X st (tS G.xr X.K W fun sl S => stS G.P (evN G.P n) b c sl S)
  | 0, st, c, h, _ => by cases h
  | k + 1, st, c, h, all => by
    have hk : X.env.scope.kind = .function := by rw [hC.sc]; exact hC.kind
    unfold okS at h
    cases c with
    | asg t e =>
      dsimp only at h
      split at h
      · rename_i tg v pos
        simp only [Bool.and_eq_true] at h
        obtain ⟨⟨h1, h2⟩, h3⟩ := h
        refine x_asg (okT_noStar h2) ?_ ?_ (IH.e hC h1) (sT IH hC 9 k h2)
        · show swapsWith v (some tg) pos.line X.env = pure false
          cases v with
          | ListComp elt gs scope lp =>
            cases tg with
            | Name y py =>
              have h3 : (!swapC C.sc y py scope lp) = true := h3
              exact comp_no hk (by rw [hC.sc]; simpa using h3)
            | _ => rfl
          | SetComp => cases h3
          | DictComp => cases h3
          | _ => rfl
        · cases v with
          | Tuple vs k2 p2 =>
            cases tg with
            | Tuple ts k1 p1 =>
              have h3 : (match swapK C.sc ts vs with | some none => true | _ => false) = true := h3
              split at h3
              · rename_i e1
                exact swapK_ok hk (by rw [hC.sc]; exact e1)
              · cases h3
            | List => cases h3
            | _ => rfl
          | _ => exact noswap rfl
      · cases h
    | lcs i e =>
      dsimp only at h
      split at h
      · simp only [Bool.and_eq_true, decide_eq_true_eq] at h
        exact xLcs IH hC h.1.1 h.1.2 h.2
      · cases h
    | par is es =>
      dsimp only at h
      split at h
      · rename_i ts k1 p1 vs k2 p2 pos
        obtain ⟨h1, h2⟩ := Bool.and_eq_true_iff.mp h
        have pN : X.N.Nodup := by rw [hC.N]; exact hC.nd
        unfold okPar at h1
        split at h1
        · simp only [Bool.and_eq_true, decide_eq_true_eq] at h1
          obtain ⟨⟨⟨⟨⟨c1, c2⟩, c3⟩, c4⟩, c5⟩, c6⟩ := h1
          split at c6
          · rename_i ns e1
            have e2 := of_decide_eq_true c6
            subst e2
            exact x_par2 hC.calm pN (by rw [hC.N]; exact c1) (by rw [hC.N]; exact c2) c3 (by rw [hC.sc]; exact c4) (by rw [hC.sc]; exact c5) (swapK_ok hk (by rw [hC.sc]; exact e1)) (pa_of IH hC h2)
          · cases c6
        · simp only [Bool.and_eq_true, decide_eq_true_eq] at h1
          obtain ⟨⟨⟨⟨⟨⟨⟨⟨⟨c1, c2⟩, c3⟩, d1⟩, d2⟩, d3⟩, c4⟩, c5⟩, c7⟩, c6⟩ := h1
          split at c6
          · rename_i ns e1
            have e2 := of_decide_eq_true c6
            subst e2
            exact x_par3 hC.calm pN (by rw [hC.N]; exact c1) (by rw [hC.N]; exact c2) (by rw [hC.N]; exact c3) d1 d2 d3 (by rw [hC.sc]; exact c4) (by rw [hC.sc]; exact c5) (by rw [hC.sc]; exact c7) (swapK_ok hk (by rw [hC.sc]; exact e1)) (pa_of IH hC h2)
          · cases c6
        · cases h1
      · cases h
    | ret e =>
      dsimp only at h
      split at h
      · exact x_ret (IH.e hC h)
      · cases h
    | retN =>
      dsimp only at h
      split at h
      · exact x_retN
      · cases h
    | ex e =>
      dsimp only at h
      split at h
      · obtain ⟨h1, h2⟩ := Bool.and_eq_true_iff.mp h
        exact x_expr (nocomp (by simpa using h2)) (IH.e hC h1)
      · cases h
    | iff t x y =>
      dsimp only at h
      split at h
      · simp only [Bool.and_eq_true] at h
        exact x_if (IH.t hC h.1.1) (pss_of IH hC h.1.2) (pss_of IH hC h.2)
      · cases h
    | for_ t i bd =>
      dsimp only at h
      split at h
      · simp only [Bool.and_eq_true] at h
        exact x_for hC.own hC.calm (okI_noSet h.1.1 X.env) (sI IH hC k h.1.1) (sT IH hC 9 k h.1.2) (pss_of IH hC h.2)
      · cases h
    | whl t bd =>
      dsimp only at h
      split at h
      · obtain ⟨h1, h2⟩ := Bool.and_eq_true_iff.mp h
        exact x_whl hC.own (n + 1) (fun m hm => (all m (by omega)).t hC h1) (fun m hm => pss_of (all m (by omega)) hC h2)
      · cases h
    | pass =>
      dsimp only at h
      split at h
      · exact x_pass
      · cases h
    | brk =>
      dsimp only at h
      split at h
      · exact x_break
      · cases h
    | rai q =>
      dsimp only at h
      split at h
      · simp only [Bool.and_eq_true, decide_eq_true_eq] at h
        obtain ⟨⟨h1, h2⟩, h3⟩ := h
        obtain ⟨Ca, c1, c2, c3, c4, c5, c6⟩ := hC.md.cl q _ h1
        exact PS.imp (L2N.ps_raise hC.calm hC.tk (L2N.pmk_own PySem.F.excBase_ValueError c3 c1 c2 (raises_own c4 c5) (show X.env.scope.names.lookup _ = _ by rw [hC.sc]; exact glB_ok h2) (plainNm_ok h3).1)) fun Z σ H ⟨ρ, S, sl, st, sr, o⟩ => o ρ H _ _ σ Ext.refl st (c6 ρ H)
      · cases h
    | nev => exact ⟨fun pins s σ H Z I ⟨ρ, S, sl, st, sr, o⟩ => o.elim⟩
end

/-- THE EVALUATOR IS RIGHT -/
theorem snd (G : Gm) : ∀ n, Snd G (evN G.P n) := by
  intro n
  induction n using Nat.strongRecOn with
  | _ n ih =>
    cases n with
    | zero =>
      exact ⟨fun _ _ _ _ _ => ⟨fun pins s σ H Q I ⟨ρ, S, sl, st, sr, o⟩ => o.elim⟩, fun _ _ _ _ _ => ⟨fun pins s σ H Q I ⟨ρ, S, sl, st, sr, o⟩ => o.elim⟩,
        fun _ _ _ _ _ _ _ => ⟨fun wh pins s σ H Q I ⟨ρ, S, sl, st, sr, o⟩ => o.elim⟩, fun _ _ _ _ _ => ⟨fun pins s σ H Z I ⟨ρ, S, sl, st, sr, o⟩ => o.elim⟩⟩
    | succ n =>
      have IH := ih n (Nat.lt_succ_self n)
      exact ⟨fun hC k e c h => sE IH hC k h, fun hC k e c h => (sTe IH hC k h).1, fun hC k op vs p c h => (sTe IH hC k h).2 op vs p rfl, fun hC k st c h => sS IH hC k h fun m hm => ih m (by omega)⟩
end Nv

end

section
set_option linter.all false
set_option maxRecDepth 100000
set_option maxHeartbeats 2000000
/-! Nv11: all defs of the module keep the evaluator's promise. -/
namespace Nv
open PySem PySem.Spec PyProof.Rows L2

/-- a def and what it is compiled to -/
structure DefC where
  nm : Str
  st : Stmt
  N : List Str
  fn : Fn
def DefC.ps (d : DefC) : List Str := d.N.take d.fn.par
def DefC.cs (d : DefC) : Cs := ⟨d.N, defScope d.st, fun _ => true, if tfL.contains (d.nm, none) then some (d.nm, none) else none⟩
def scB (N ps : List Str) (sc : Scope) : Bool := decide (sc.kind = .function) && !sc.isCoroutine && !sc.isGenerator && decide N.Nodup && decide (N.take ps.length = ps) &&
  (ps.all fun x => locB sc x) && sc.names.all fun y => !decide (y.2 = .free)
theorem scB_ok {N ps : List Str} {sc : Scope} (h : scB N ps sc = true) : FnScope N ps sc := by
  simp only [scB, Bool.and_eq_true, decide_eq_true_eq, Bool.not_eq_true', decide_eq_false_iff_not, List.all_eq_true] at h
  obtain ⟨⟨⟨⟨⟨⟨h1, h2⟩, h3⟩, h4⟩, h5⟩, h6⟩, h7⟩ := h
  exact ⟨h1, h2, h3, h4, h5, fun x hx => locB_ok (h6 x hx), h7⟩
def DefC.ok (B : Tab) (d : DefC) : Bool := scB d.N d.ps (defScope d.st) && decide (d.N.length = d.fn.n) && decide (d.fn.par ≤ d.fn.n) && all2 (okS B 400 d.cs) (defBody d.st) d.fn.body

/-- errors without fields: the class tells all -/
def xrK (K : PySem.W.Frag) (cn : List Str) : XRel := fun x cls d _ _ => ∃ nm, cn[x.cls]? = some nm ∧ cls = .ref (He.ga K nm) ∧ d = none ∧ x.fld = none

section
variable (P : Pg) (B : Tab) (prog : Program) (w : World) (K : PySem.W.Frag) (mg : Str → Option Value) (base : Heap)
/-- the module as the head leaves it -/
structure ModOk : Prop where
  bf : ∀ x ∈ bltNames, mg x = none
  gl : ∀ (i : Nat) (x : Str), B.gnm[i]? = some x → ∃ u v d, mg x = some u ∧ RelV v u ∧ P.glb[i]? = some d ∧ ∀ ρ H, RV K ρ H d v
  fn : ∀ (f : Nat) (x : Str), B.fnm[f]? = some x → ∃ (d : DefC) (fd : FuncData), d.nm = x ∧ P.fns[f]? = some d.fn ∧ d.ok B = true ∧ FunD K x x (defArgs d.st) (defBody d.st) (defScope d.st) [] [] (He.ga K x) fd ∧ mg x = some (.ref (He.ga K x)) ∧ Binds K fd d.ps []
  cl : ∀ (k : Nat) (x : Str), B.cnm[k]? = some x → mg x = some (.ref (He.ga K x)) ∧ PySem.W.keepIn K (.ref (He.ga K x)) = true ∧ PySem.W.excIn K (He.ga K x) He.veBase "ValueError.__new__" = true ∧ PySem.W.subIn K (.ref (He.ga K x)) (.type "BaseException") = some true ∧
    PySem.W.typeIn K (.ref (He.ga K x)) = some (.type "type")
  lm : ∀ (k : Nat) (x : Str), B.lnm[k]? = some x → ∃ L, P.lms[k]? = some L ∧ LamDef prog w K mg base x (lmTT (xrK K B.cnm) L)
  tb : ∀ d ∈ tfL, LamX.TabB base mg (He.cT K d).1 (He.cT K d).2
  tu : ∀ d ∈ tfL, ∀ d' ∈ tfL, (He.cT K d).2 = (He.cT K d').2 → d = d'
end
abbrev gmK (P : Pg) (B : Tab) (K : PySem.W.Frag) : Gm := ⟨P, B, xrK K B.cnm⟩
theorem slR_start {K : PySem.W.Frag} {ρ : Rh} {H : Hp} {ds : List D} {vs : List V} {N : List Str} {n : Nat} (h : RVs K ρ H ds vs) (hn : N.length = n) (hl : ds.length ≤ n) : SlR K ρ H (ds.map some ++ List.replicate (n - ds.length) none) (L2.start N vs) := by
  unfold L2.start
  rw [hn, h.length]
  refine ⟨by simp [h.length], fun i d e => ?_⟩
  by_cases hi : i < ds.length
  · rw [List.getElem?_append_left (by simpa using hi), List.getElem?_map] at e
    cases q : ds[i]? with
    | none => rw [q] at e; cases e
    | some d' =>
      rw [q] at e
      cases e
      obtain ⟨v, h1, h2⟩ := h.get q
      exact ⟨v, by rw [List.getElem?_append_left (by rw [List.length_map, h.length]; exact hi), List.getElem?_map, h1]; rfl, h2⟩
  · rw [List.getElem?_append_right (by simpa using hi), List.getElem?_replicate] at e
    split at e <;> cases e
section
variable {P : Pg} {B : Tab} {dl : List DefC} {prog : Program} {w : World} {K : PySem.W.Frag} {mg : Str → Option Value} {base : Heap}
theorem fnD_len {ev : Ev} {b : Nat} {f : Fn} {ds : List D} {S : Sto} {xr : XRel} {W : WX} {σ : St} {ρ : Rh} {H : Hp} {Q : VK} (o : OutG xr K W (RV K) σ (fnD ev b f ds S) ρ H Q) : ds.length = f.par := by
  unfold fnD at o
  split at o
  · assumption
  · exact o.elim
/-- EACH DEF KEEPS THE PROMISE -/
theorem modFn (M : ModOk P B prog w K mg base) : ∀ (b f : Nat) (x : Str) (d : DefC) (fd : FuncData), B.fnm[f]? = some x → d.nm = x → P.fns[f]? = some d.fn → d.ok B = true → FunD K x x (defArgs d.st) (defBody d.st) (defScope d.st) [] [] (He.ga K x) fd →
    FnOk prog w K mg base (L2N.CX prog w) (b + 1) (He.ga K x) fd d.ps (spF (xrK K B.cnm) K P b d.fn) := by
  intro b
  induction b using Nat.strongRecOn with
  | _ b ih =>
    intro f x d fd hx hnm hf hok F
    simp only [DefC.ok, Bool.and_eq_true, decide_eq_true_eq] at hok
    obtain ⟨⟨⟨o1, o2⟩, o3⟩, o4⟩ := hok
    have hpl : d.ps.length = d.fn.par := by unfold DefC.ps; rw [List.length_take]; omega
    obtain ⟨oc, od, dV, kV, doc, pm, an, cdv, ct, osl, rfl, lk, hcd, _, _⟩ := F.ex
    refine fn_of lk hcd (scB_ok o1) (fun vs H Q E ⟨n, ρ, S, ds, st, rv, o⟩ => by rw [rv.length, fnD_len o, hpl]) fun A outer s H vs Q E hr ⟨n, ρ, S, ds, st, rv, o⟩ => ?_
    have hC : Cok (gmK P B K) (cxOf (L2N.CX prog w) prog w K mg base d.N x (defScope d.st) (He.ga K x) cdv A outer s H E) d.cs (fun cls dd _ H => E cls dd H) b := {
      N := rfl
      nd := (scB_ok o1).nd
      sc := rfl
      kind := (scB_ok o1).kind
      fb := rfl
      calm := rfl
      room := hr
      own := passes_of (X := cxOf (L2N.CX prog w) prog w K mg base d.N x (defScope d.st) (He.ga K x) cdv A outer s H E) (E₁ := fun e' z => L2N.CX prog w outer H s E e' z) rfl
      tk := L2N.takes_of (X := cxOf (L2N.CX prog w) prog w K mg base d.N x (defScope d.st) (He.ga K x) cdv A outer s H E) (E := E) (E₁ := fun e' z => L2N.CX prog w outer H s E e' z) rfl rfl rfl rfl
      md := ⟨M.bf, M.gl, fun f' x' h' => by
        obtain ⟨d', fd', q1, q2, q3, q4, q5, q6⟩ := M.fn f' x' h'
        exact ⟨He.ga K x', fd', d'.ps, d'.fn, q5, q4.kp, q6, q2, fun b' hb' => ih b' hb' f' x' d' fd' h' q1 q2 q3 q4⟩, fun k x' h' => by
        obtain ⟨q1, q2, q3, q4, q5⟩ := M.cl k x' h'
        exact ⟨He.ga K x', q1, q2, q3, q4, q5, fun ρ H => ⟨x', h', rfl, rfl, rfl⟩⟩, M.lm, M.tb, M.tu⟩
      dn := fun dd hd => by
        unfold DefC.cs at hd
        dsimp only at hd
        split at hd
        · rename_i hc
          cases hd
          refine ⟨by simpa using hc, ?_, by rw [hnm]; rfl⟩
          obtain ⟨c, rfl⟩ := He.codeIn_ref hcd
          show Value.ref c = Value.ref (He.codeOf K (d.nm, none))
          rw [He.codeOf_eq (p := (d.nm, none)) (by rw [hnm]; exact lk) rfl]
        · cases hd }
    refine ⟨_, pss_of (snd (gmK P B K) n) hC o4, ρ, S, _, st, slR_start rv o2 (by rw [fnD_len o]; exact o3), ?_⟩
    have hl := fnD_len o
    unfold fnD at o
    rw [if_pos hl] at o
    rw [hl]
    show OutS (xrK K B.cnm) K (fun cls dd _ H => E cls dd H) { nx := fun _ H' => Q V.non H', rt := Q } (evSs ((evN P n).s b) d.fn.body (ds.map some ++ List.replicate (d.fn.n - d.fn.par) none) S) ρ H
    generalize evSs ((evN P n).s b) d.fn.body (ds.map some ++ List.replicate (d.fn.n - d.fn.par) none) S = r at o ⊢
    cases r with
    | ok fl S1 => cases fl with
      | nx sl => exact fun ρ' H' σ' e st' sr => o ρ' H' .non e st' rfl
      | rt dd => exact o
      | bk sl => exact o.elim
    | ex xx S1 => exact fun ρ' H' cls dd σ' e st' hx => o ρ' H' cls dd e st' hx
    | no => exact o
end
end Nv

end

section
set_option linter.all false
set_option maxRecDepth 100000
set_option maxHeartbeats 2000000
/-! NvM: the checkers of the def that tells an error's names, and of the def that catches. -/
namespace Nv
open PySem PySem.Spec PyProof.Rows L2 HotX L2H LamX

def okIs (sc : Scope) (e : Str) (x : Expr) (c : Str) : Bool := match x with
  | .Call (.Name f _) [.Name y _, .Name z _] [] _ => decide (f = "isinstance") && glB sc f && decide (y = e) && decide (z = c) && glB sc z && plainNm z
  | _ => false
/-- the pieces of such a def's text -/
structure NmT where
  c1 : List Str
  c2 : List Str
  c3 : List Str
  lab : Str
  sep : Str
def okNm (sc : Scope) (N : List Str) (body : List Stmt) (t : NmT) : Bool := match N with
  | [e, a, b, l, g] => (match body with
    | [.Assign [.Name a1 _] (.List es1 _) _, .Assign [.Name a2 _] (.BinOp (.Name a3 _) .Add (.List es2 _) _) _, .Assign [.Name a4 _] (.BinOp (.Name a5 _) .Add (.List es3 _) _) _, .Assign [.Name b1 _] (.Constant (.str lb) _ _) _,
        .Return (some (.Call (.Attribute (.Constant (.str s1) _ _) jn ap1) [.ListComp (.Name l1 _) [⟨.Tuple [.Name l2 _, .Name g1 _] _ _, .Call (.Name zn _) [.Call (.Attribute (.Name b2 _) sn ap2) [.Constant (.str s2) _ _] [] cp2, .Name a6 _] [] _, [.Name g2 _], asy⟩] scope _] [] cp1)) _] =>
      decide (a1 = a ∧ a2 = a ∧ a3 = a ∧ a4 = a ∧ a5 = a ∧ a6 = a ∧ b1 = b ∧ b2 = b ∧ l1 = l ∧ l2 = l ∧ g1 = g ∧ g2 = g) && decide (lb = t.lab ∧ s1 = t.sep ∧ s2 = t.sep ∧ jn = "join" ∧ sn = "split" ∧ zn = "zip" ∧ asy = 0) &&
      (ap1.endLine == cp1.line) && (ap2.endLine == cp2.line) && glB sc zn && (visB sc e && plainNm e) && (locB sc a && plainNm a) && (locB sc b && plainNm b) && plainNm l && plainNm g && blkC [e, a, b, l, g] sc scope [(l, 3), (g, 4)] &&
      (isLocB (relS scope sc) l && isLocB (relS scope sc) g) && all2 (okIs sc e) es1 t.c1 && all2 (okIs sc e) es2 t.c2 && all2 (okIs sc e) es3 t.c3 && decide [e, a, b, l, g].Nodup
    | _ => false)
  | _ => false
theorem isLoc_vis {sc : Scope} {x : Str} (h : isLocB sc x = true) : Vis sc x := .inl (isLocB_ok h)
theorem loc_vis {sc : Scope} {x : Str} (h : locB sc x = true) : Vis sc x := (locB_ok h).elim .inl fun z => .inr (.inl z)
section
variable {X : Cx} {a D : Addr} {oe : Obj} {e : Str}
theorem isEs_of (C : ExcC X.K D) (hp : (a, oe) ∈ X.pn) (hz : Zc (.ref D) none oe) (hf : ∃ vs, oe.data = .fields vs) (hN : X.N[0]? = some e) (hv : Vis X.env.scope e) (he : plainNm e = true) (hm : X.mg "isinstance" = none) {bt : Str → Bool} :
    ∀ {es : List Expr} {cs : List Str}, all2 (okIs X.env.scope e) es cs = true → (∀ c ∈ cs, ClsV X.K X.mg D c (bt c)) → IsEs X a es (cs.map bt)
  | [], [], _, _ => .nil
  | x :: es, c :: cs, h, hc => by
    obtain ⟨h1, h2⟩ := Bool.and_eq_true_iff.mp h
    unfold okIs at h1
    split at h1
    · simp only [Bool.and_eq_true, decide_eq_true_eq] at h1
      obtain ⟨⟨⟨⟨⟨rfl, q2⟩, h3⟩, h4⟩, q5⟩, q6⟩ := h1
      have h3 := h3.symm
      have h4 := h4.symm
      subst h3 h4
      exact .cons (pe_is C hp hz hf hN hv he (glB_ok q2) hm (glB_ok q5) q6 (hc _ List.mem_cons_self)) rfl (isEs_of C hp hz hf hN hv he hm h2 fun y hy => hc y (List.mem_cons_of_mem _ hy))
    · cases h1
  | [], _ :: _, h, _ => by cases h
  | _ :: _, [], h, _ => by cases h
/-- the body, read -/
theorem names_read {N : List Str} {body : List Stmt} {t : NmT} (ok : okNm X.env.scope N body t = true) (hXN : X.N = N) (hfn : X.fn = fun _ => true) (C : ExcC X.K D) (hot : Hot1 X.A (a, oe)) (hp : (a, oe) ∈ X.pn) (hz : Zc (.ref D) none oe) (hf : ∃ vs, oe.data = .fields vs)
    (hm : X.mg "isinstance" = none) (hmz : X.mg "zip" = none) {bt : Str → Bool} (hc : ∀ c, c ∈ t.c1 ∨ c ∈ t.c2 ∨ c ∈ t.c3 → ClsV X.K X.mg D c (bt c)) : PSs X body (tNm X.K a (t.c1.map bt) (t.c2.map bt) (t.c3.map bt) t.lab t.sep) := by
  unfold okNm at ok
  split at ok
  · rename_i ne na nb nl ng
    split at ok
    · simp only [Bool.and_eq_true, decide_eq_true_eq, beq_iff_eq] at ok
      obtain ⟨⟨⟨⟨⟨⟨⟨⟨⟨⟨⟨⟨⟨⟨⟨⟨x1, x2, x3, x4, x5, x6, x7, x8, x9, x10, x11, x12⟩, y1, y2, y3, rfl, rfl, rfl, rfl⟩, w1⟩, w2⟩, gz⟩, ve⟩, va⟩, vb⟩, pl⟩, pg⟩, bk⟩, lg⟩, i1⟩, i2⟩, i3⟩, nd⟩ := ok
      have x1 := x1.symm
      subst x1
      have x2 := x2.symm
      subst x2
      have x3 := x3.symm
      subst x3
      have x4 := x4.symm
      subst x4
      have x5 := x5.symm
      subst x5
      have x6 := x6.symm
      subst x6
      have x7 := x7.symm
      subst x7
      have x8 := x8.symm
      subst x8
      have x9 := x9.symm
      subst x9
      have x10 := x10.symm
      subst x10
      have x11 := x11.symm
      subst x11
      have x12 := x12.symm
      subst x12
      subst y1 y2 y3
      have hNd : X.N.Nodup := by rw [hXN]; exact nd
      have va' := plainNm_ok va.2
      have vb' := plainNm_ok vb.2
      have pl' := plainNm_ok pl
      have pg' := plainNm_ok pg
      have n0 : X.N[0]? = some ne := by rw [hXN]; rfl
      have n1 : X.N[1]? = some na := by rw [hXN]; rfl
      have n2 : X.N[2]? = some nb := by rw [hXN]; rfl
      have n3 : X.N[3]? = some nl := by rw [hXN]; rfl
      have n4 : X.N[4]? = some ng := by rw [hXN]; rfl
      have hfn' : ∀ y, X.fn y = true := fun y => by rw [hfn]
      have s1 := (isEs_of C hp hz hf n0 (visB_ok ve.1) ve.2 hm i1 fun c h => hc c (.inl h)).pa
      have s2 := (isEs_of C hp hz hf n0 (visB_ok ve.1) ve.2 hm i2 fun c h => hc c (.inr (.inl h))).pa
      have s3 := (isEs_of C hp hz hf n0 (visB_ok ve.1) ve.2 hm i3 fun c h => hc c (.inr (.inr h))).pa
      have bo := blkOk_by bk
      rw [← hXN] at bo
      have pa := fun pos => pe_var (X := X) (pos := pos) n1 (loc_vis va.1) va'.1 va'.2
      have pb := fun pos => pe_var (X := X) (pos := pos) n2 (loc_vis vb.1) vb'.1 vb'.2
      refine pss_cons (ps_set hNd n1 (locB_ok va.1) (pe_lst s1) rfl (.inl (hfn' _))) (pss_cons (ps_set hNd n1 (locB_ok va.1) (pe_op op_cat (pa _) (pe_lst s2)) rfl (.inl (hfn' _))) (pss_cons (ps_set hNd n1 (locB_ok va.1) (pe_op op_cat (pa _) (pe_lst s3)) rfl (.inl (hfn' _)))
        (pss_cons (ps_set hNd n2 (locB_ok vb.1) pe_str rfl (.inl (hfn' _))) (pss_one (ps_ret (pe_join pe_str ?_ rfl rfl (by simpa using w1)))))))
      refine pe_lcX (own := [(nl, 3), (ng, 4)]) hot hp hNd (pi_zipX (glB_ok gz) hmz (pa_cons (pe_split (pb _) pe_str rfl rfl (by simpa using w2)) (pa_cons (pa _) pa_nil)) rfl rfl) bo (fun s H Ca cl fp => ?_) (fun s H Ca cl fp => ?_) (fun s H Ca cl fp => ?_) (fun _ => rfl)
      · exact pg_tupH (pgs_cons (pg_name hNd n3 (.inl (isLocB_ok lg.1)) (.inr (isLocB_ok lg.1))) (pgs_cons (pg_name hNd n4 (.inl (isLocB_ok lg.2)) (.inr (isLocB_ok lg.2))) pgs_nil)) rfl rfl
      · exact pts_one (pt_truth (pe_var n4 (isLoc_vis lg.2) pg'.1 pg'.2) fun _ => rfl)
      · exact pe_var n3 (isLoc_vis lg.1) pl'.1 pl'.2
    · cases ok
  · cases ok
end

def nmBs (t : NmT) (b : Str → Bool) : List Bool := t.c1.map b ++ t.c2.map b ++ t.c3.map b
/-- what it tells -/
def nmTxt (t : NmT) (b : Str → Bool) : Str := Txt.join t.sep (selW (Txt.split t.lab t.sep) (nmBs t b))
def nmOk (t : NmT) (b : Str → Bool) : Bool := decide ((Txt.split t.lab t.sep).length = (nmBs t b).length) && decide ((Txt.split t.lab t.sep).length ≤ 1000) && !(t.sep.length == 0) && decide (t.lab.length ≤ 1000000) &&
  decide (((selW (Txt.split t.lab t.sep) (nmBs t b)).map (·.length)).sum + (selW (Txt.split t.lab t.sep) (nmBs t b)).length * t.sep.length ≤ 16777216)
def spNm (K : PySem.W.Frag) (cn : List Str) (t : NmT) (bt : Str → Str → Bool) : SpP := fun p vs H Q E => ∃ (k : Nat) (nm : Str), vs = [.ref p.1] ∧ cn[k]? = some nm ∧ Zc (.ref (He.ga K nm)) none p.2 ∧ (∃ vs, p.2.data = .fields vs) ∧ ∀ H'', Gr H H'' → Q (.str (nmTxt t (bt nm))) H''
theorem names_fn {P : Program} {w : World} {K : PySem.W.Frag} {mg : Str → Option Value} {base : Heap} {cn : List Str} {x e a b l g : Str} {params : Arguments} {body : List Stmt} {scope : Scope} {f : Addr} {fd : FuncData} {t : NmT} {bt : Str → Str → Bool}
    (F : FunD K x x params body scope [] [] f fd) (S : FnScope [e, a, b, l, g] [e] scope) (ok : okNm scope [e, a, b, l, g] body t = true) (hE : ∀ nm ∈ cn, ExcC K (He.ga K nm)) (hc : ∀ nm ∈ cn, ∀ c, c ∈ t.c1 ∨ c ∈ t.c2 ∨ c ∈ t.c3 → ClsV K mg (He.ga K nm) c (bt nm c)) (hk : ∀ nm ∈ cn, nmOk t (bt nm) = true)
    (hm : mg "isinstance" = none) (hmz : mg "zip" = none) : FnP P w K mg base 1 f fd [e] (spNm K cn t bt) := by
  refine fn_ofP F S (fun p vs H Q E ⟨k, nm, h, _⟩ => by rw [h]; rfl) fun cdv A outer s H vs Q E p hot hr ⟨k, nm, hv, hn, hz, hf, q⟩ => ?_
  have mem := List.mem_of_getElem? hn
  have o := hk nm mem
  simp only [nmOk, Bool.and_eq_true, decide_eq_true_eq, Bool.not_eq_true'] at o
  obtain ⟨⟨⟨⟨o1, o2⟩, o3⟩, o4⟩, o5⟩ := o
  refine ⟨_, names_read (X := cxH C8.CX0 P w K mg base [e, a, b, l, g] x scope f cdv A outer s H E p) (oe := p.2) ok rfl rfl (hE nm mem) hot (List.mem_singleton.mpr rfl) hz hf hm hmz (hc nm mem), ?_⟩
  subst hv
  exact names_pure (ad := p.1) rfl o1 o2 o3 (by rw [sizeLine_eq]; omega) o5 q

/-! ### the def that catches -/
def okCa (sg : Scope) (a en ne nf : Str) (body : List Stmt) : Bool := match body with
  | [.Try [.Expr (.Call (.Name a1 _) [] [] _) _] [.ExceptHandler (some (.Name ne1 _)) (some en1) [.Return (some (.Call (.Name nf1 _) [.Name en2 _] [] _)) _] _] [] [] _, .Return (some (.Constant (.str z) _ _)) _] =>
    decide (a1 = a ∧ ne1 = ne ∧ en1 = en ∧ nf1 = nf ∧ en2 = en) && decide (z = "") && isLocB sg en && plainNm en && glB sg ne && plainNm ne && glB sg nf && plainNm nf
  | _ => false
theorem catch_gives {P : Program} {w : World} {K : PySem.W.Frag} {mg : Str → Option Value} {base : Heap} {cn : List Str} {x a en ne nf : Str} {sg : Scope} {g fN CS : Addr} {cd : Value} {bg : List Stmt} {fdN : FuncData} {e : Str} {t : NmT} {bt : Str → Str → Bool} {L : Lm}
    (ok : okCa sg a en ne nf bg = true) (nd : a ≠ en) (F : FnP P w K mg base 1 fN fdN [e] (spNm K cn t bt)) (mN : mg nf = some (.ref fN)) (kN : PySem.W.keepIn K (.ref fN) = true) (bN : Binds K fdN [e] []) (mC : mg ne = some (.ref CS)) (hx : ∀ nm ∈ cn, PySem.W.exmOne K (.ref (He.ga K nm)) (.ref CS) = some true)
    (hL : L.okv = some (.str [])) (hLx : ∀ (k : Nat) (nm : Str), cn[k]? = some nm → ∃ s, L.exv k none = some (.str s) ∧ toStr s = nmTxt t (bt nm)) : GivesN P w K mg base [a, en] x sg g cd bg a (lmTT (xrK K cn) L) := by
  unfold okCa at ok
  split at ok
  · simp only [Bool.and_eq_true, decide_eq_true_eq] at ok
    obtain ⟨⟨⟨⟨⟨⟨⟨⟨x1, x2, x3, x4, x5⟩, rfl⟩, l1⟩, l2⟩, l3⟩, l4⟩, l5⟩, l6⟩ := ok
    have x1 := x1.symm
    have x2 := x2.symm
    have x3 := x3.symm
    have x4 := x4.symm
    have x5 := x5.symm
    subst x1 x2 x3 x4 x5
    intro A outer q f c' s H Q tl hr act hc h
    refine ⟨_, pss_cons (L2N.ps_try_as (X := (cxZ P w K mg base [a, en] x sg g cd A outer s H).nox) (i := 1) (c := .ref CS) (Wout := fun _ _ _ _ => False)
      (tb := fun W D σ H => ∃ Ech : XK, (∀ cls d σ' H', Ech cls d H' → W cls d σ' H') ∧ σ[0]? = some (some (.ref f)) ∧ H c' = some (CodeO c' q) ∧ tl Ech H fun _ H1 => D.nx σ H1)
      (ts := fun ad cls d D σ H => (∃ σ0 : St, σ = σ0.set 1 (some (.ref ad))) ∧ d = none ∧ ∃ (k : Nat) (nm : Str), cn[k]? = some nm ∧ cls = .ref (He.ga K nm) ∧ ∀ H'', Gr H H'' → D.rt (.str (nmTxt t (bt nm))) H'')
      rfl rfl (show [a, en].Nodup by simp [nd]) rfl (isLocB_ok l1) ⟨glB_ok l3, (plainNm_ok l4).1, .inl mC⟩ (fun _ _ z => by obtain ⟨_, _, _, _, _, _, _, _, _, _, _, _, _, _, _, _, y⟩ := z; exact y.elim) (fun W pn xe tk _ => ?_) (fun ad oe cls d pn hz hf => ?_)) (pss_one (ps_ret pe_str)), ?_⟩
    · refine ⟨fun pins s' σ H' D I ⟨Ech, hW, h1, h2, h3⟩ => ?_⟩
      exact (pss_one (ps_expr (act W pn xe Ech _ _ tk hW))).run pins s' σ H' D I ⟨h1, h2, h3⟩
    · refine ⟨fun pins s' σ H' D I ⟨⟨σ0, h0⟩, hd, k, nm, hk, hcl, hq⟩ => ?_⟩
      subst hd hcl h0
      have rm : RoomH 1 (A.deeper (envOfC x sg s.heap.objs.size g cd)) := roomH_of (hr.mono (j := 1) (by omega))
      have len : (σ0.set 1 (some (V.ref ad))).length = 2 := I.len
      have h1 : (σ0.set 1 (some (V.ref ad)))[1]? = some (some (V.ref ad)) := List.getElem?_set_self (by rw [List.length_set] at len; omega)
      obtain ⟨vs, hd⟩ := hf
      have hh := fun z1 z2 z3 z4 : Pos => pss_one (ps_ret (pos := z1) (pe_callP (q := z2) (pos := z3) (X := (cxZ P w K mg base [a, en] x sg g cd A outer s H).nox.suite ad ((ad, oe) :: pn)) (p := (ad, oe)) F (show RoomH 1 _ from ⟨rm.dp, rm.un⟩) ⟨rfl, vs, hd, hz.2.2 vs hd⟩ List.mem_cons_self (glB_ok l5) mN kN bN (pa_cons (pe_var (pos := z4) (i := 1) rfl (isLoc_vis l1) (plainNm_ok l2).1 (plainNm_ok l2).2) pa_nil) (plainNm_ok l6).1 rfl rfl))
      exact (hh _ _ _ _).run pins s' _ H' D I ⟨.ref ad, h1, k, nm, rfl, hk, hz.zc, ⟨vs, hd⟩, hq⟩
    · unfold lmTT okQ at h
      rw [hL] at h
      refine ⟨_, fun cls d σ' H' ⟨xx, ρ, c, ⟨nm, e1, e2, e3, e4⟩, e5, e6, e7⟩ => ?_, rfl, hc, h⟩
      subst e2 e3
      rw [e4] at e5
      obtain ⟨sx, s1, s2⟩ := hLx _ _ e1
      rw [s1] at e5
      cases e5
      refine ⟨true, hx nm (List.mem_of_getElem? e1), fun _ ad na => ⟨⟨σ', rfl⟩, rfl, _, nm, e1, rfl, fun H'' gr => ?_⟩, fun z => by cases z⟩
      rw [← s2]
      exact e7 H'' gr
  · cases ok
end Nv

end

section
set_option linter.all false
set_option maxRecDepth 100000
set_option maxHeartbeats 2000000
/-! Nv12: the law's end. -/
namespace Nv
open PySem PySem.Spec PyProof.Rows L2 LamX

theorem walk_TE {l : PySem.W.OpenLaw} {n k : Nat} {q : Program} {loose : List Str} {XP : (Str → Option Value) → Heap → Prop} {YP : World → Heap → Prop} {d : DefRec} {CX : World → CXT} {x : Str} (hn : l.most = some n) (hn2 : n ≤ sizeLine) (hdf : d.params.defaults = []) (hr : Room k callerA)
    (F : ∀ (w : World) (mg : Str → Option Value) (fa : Addr) (h : Heap), YP w h → h.Ns mainGlobals mg → mg d.name = some (.ref fa) → ∃ K : PySem.W.Frag, K.In h ∧ LawAtS l w K (CX w) k n x mg fa h)
    (hCX : ∀ (w : World) (H : Hp) (s : Shared) (e : Value) (s' : Shared), CX w [] H s (fun _ _ _ => False) e s' → False) : PySem.W.WalkO q loose XP YP l.row.toRowW d [] (fun f vs => PySem.call f vs) :=
  Att.attach_callB hn hdf fun w s₀ s₁ mg mb fa o pm cd doc a vs ns G Y ho hd hcd hmg hobj hints hlen hbits hg => by
    obtain ⟨K, KX, fd, cs, sp, hT, nT, C, hb, hsp, hF⟩ := F w mg fa _ Y G.T.g hmg
    exact law_callTs KX G.T.g G.T.b G.T.builtins G.T.nolimit hg hT nT C G.T.bmain hobj hints (Nat.le_trans hlen hn2) hr hF hb (fun H hH hS => hsp H a ns hlen hbits hH hS) fun H e s' => hCX w H s₁ e s'

theorem ints_rvs {K : PySem.W.Frag} {ρ : Rh} {H : Hp} : ∀ ns : List Int, RVs K ρ H (ns.map D.int) (ns.map V.int)
  | [] => rfl
  | i :: r => ⟨.int i, r.map V.int, rfl, rfl, ints_rvs r⟩
/-- the evaluator says True at every script: so does the model -/
theorem law_at {l : PySem.W.OpenLaw} {w : World} {K : PySem.W.Frag} {b n f : Nat} {x : Str} {mg : Str → Option Value} {h : Heap} {P : Pg} {B : Tab} {fd : FuncData} {d : DefC} (hf : B.fnm[f]? = some d.nm) (hd : P.fns[f]? = some d.fn) (hok : d.ok B = true) (hps : d.ps = [x])
    (F : FunD K d.nm d.nm (defArgs d.st) (defBody d.st) (defScope d.st) [] [] (He.ga K d.nm) fd) (hb : ∀ (s : Shared) (u : Value), BindsTo s fd ⟨[u], []⟩ [(x, u)])
    (t1 : ∀ p ∈ tfL, PySem.W.CodeHd h (He.cT K p).1 (He.cT K p).2) (t2 : ∀ p ∈ tfL, K.lookup (He.cT K p).2 = none) (t3 : ∀ p ∈ tfL, h.get? (He.cT K p).2 = some { cls := .none, data := .fields #[] })
    (M : ∀ base : Heap, K.In base → base.Ns mainGlobals mg → (∀ p ∈ tfL, TabB base mg (He.cT K p).1 (He.cT K p).2) → ModOk P B l.prog w K mg base)
    (law : ∀ ns : List Int, ns.length ≤ n → (∀ z ∈ ns, Builtin.Int.intBits z ≤ 1048576) → ∃ m S, fnD (evN P m) b d.fn [.frz (ns.map D.int)] [] = .ok (.bl true) S) :
    LawAtS l w K (L2N.CX l.prog w) (b + 1) n x mg (He.ga K d.nm) h := by
  refine ⟨fd, tfL.map (He.cT K), spF (xrK K B.cnm) K P b d.fn, fun p hp => ?_, fun p hp => ?_, fun p hp => ?_, hb, fun H a ns hl hbits hT hS => ?_, fun base hK hN hTB => ?_⟩
  · obtain ⟨q, hq, rfl⟩ := List.mem_map.mp hp
    exact t3 q hq
  · obtain ⟨q, hq, rfl⟩ := List.mem_map.mp hp
    exact t2 q hq
  · obtain ⟨q, hq, rfl⟩ := List.mem_map.mp hp
    exact t1 q hq
  · obtain ⟨m, S, e⟩ := law ns hl hbits
    refine ⟨m, ⟨[], []⟩, [], [.frz (ns.map D.int)], ⟨rfl, by simp, by simp, fun p hp => ?_, by simp⟩, ⟨.ref a, [], rfl, ⟨a, ns.map V.int, rfl, ?_, ints_rvs ns⟩, rfl⟩, ?_⟩
    · obtain ⟨q, hq, rfl⟩ := List.mem_map.mp hp
      exact TabS.nil (hT (He.cT K q) (List.mem_map.mpr ⟨q, hq, rfl⟩))
    · rcases hS with (z | ⟨o, z⟩) | z
      · exact .inl ⟨_, .inl rfl, z, by rintro (y | y) <;> cases y⟩
      · exact .inl ⟨_, .inr ⟨o, rfl⟩, z, by rintro (y | y) <;> cases y⟩
      · exact .inr z
    · rw [e]
      exact fun ρ' H' v _ _ r => r
  · have := modFn (M base hK hN fun p hp => hTB _ (List.mem_map.mpr ⟨p, hp, rfl⟩)) b f d.nm d fd hf rfl hd hok F
    rw [hps] at this
    exact this
end Nv

end

section
set_option linter.all false
set_option maxRecDepth 100000
/-! NvP: plain lemmas about the evaluator, for proofs of plain laws. Core Lean alone. -/
namespace Nv

/-! the evaluator's rows, one by one (those of lc, for_, whl left out) -/
theorem eE_c {P : Pg} {ev : Ev} {b : Nat} {sl : Sl} {S : Sto} {d : D} : stE P ev b (.c d) sl S = .ok d S := rfl
theorem eE_v {P : Pg} {ev : Ev} {b : Nat} {sl : Sl} {S : Sto} {i : Nat} : stE P ev b (.v i) sl S = (match sl[i]? with | some (some d) => .ok d S | _ => .no) := rfl
theorem eE_g {P : Pg} {ev : Ev} {b : Nat} {sl : Sl} {S : Sto} {i : Nat} : stE P ev b (.g i) sl S = (match P.glb[i]? with | some d => .ok d S | none => .no) := rfl
theorem eE_bin {P : Pg} {ev : Ev} {b : Nat} {sl : Sl} {S : Sto} {op : Bop} {m : Bool} {x y : E} : stE P ev b (.bin op m x y) sl S = (ev.e b x sl S).bind fun p S1 => (ev.e b y sl S1).bind fun q S2 => nox (binD op m p q S2) := rfl
theorem eE_neg {P : Pg} {ev : Ev} {b : Nat} {sl : Sl} {S : Sto} {x : E} : stE P ev b (.neg x) sl S = (ev.e b x sl S).bind fun p S1 => match p with | .int i => .ok (.int (-i)) S1 | _ => .no := rfl
theorem eE_nt {P : Pg} {ev : Ev} {b : Nat} {sl : Sl} {S : Sto} {x : E} : stE P ev b (.nt x) sl S = (blD (ev.e b x sl S)).bind fun k S1 => .ok (.bl (!k)) S1 := rfl
theorem eE_an {P : Pg} {ev : Ev} {b : Nat} {sl : Sl} {S : Sto} {x y : E} : stE P ev b (.an x y) sl S = (blD (ev.e b x sl S)).bind fun k S1 => match k with | true => ev.e b y sl S1 | false => .ok (.bl false) S1 := rfl
theorem eE_or {P : Pg} {ev : Ev} {b : Nat} {sl : Sl} {S : Sto} {x y : E} : stE P ev b (.or x y) sl S = (blD (ev.e b x sl S)).bind fun k S1 => match k with | false => ev.e b y sl S1 | true => .ok (.bl true) S1 := rfl
theorem eE_cmp {P : Pg} {ev : Ev} {b : Nat} {sl : Sl} {S : Sto} {op : Cop} {x y : E} : stE P ev b (.cmp op x y) sl S = (ev.e b x sl S).bind fun p S1 => (ev.e b y sl S1).bind fun q S2 => nox (cmpD op p q S2) := rfl
theorem eE_ch {P : Pg} {ev : Ev} {b : Nat} {sl : Sl} {S : Sto} {op op' : Cop} {x y z : E} : stE P ev b (.ch op op' x y z) sl S = (ev.e b x sl S).bind fun p S1 => (ev.e b y sl S1).bind fun q S2 => (blD (nox (cmpD op p q S2))).bind fun k S3 => match k with | true => (ev.e b z sl S3).bind fun r S4 => nox (cmpD op' q r S4) | false => .ok (.bl false) S3 := rfl
theorem eE_ite {P : Pg} {ev : Ev} {b : Nat} {sl : Sl} {S : Sto} {x y z : E} : stE P ev b (.ite x y z) sl S = (ev.t b x sl S).bind fun k S1 => match k with | true => ev.e b y sl S1 | false => ev.e b z sl S1 := rfl
theorem eE_tup {P : Pg} {ev : Ev} {b : Nat} {sl : Sl} {S : Sto} {es : List E} : stE P ev b (.tup es) sl S = (evEs (fun e S => ev.e b e sl S) es S).bind fun ds S1 => if ds.length ≤ sizeMax then .ok (.tup ds) S1 else .no := rfl
theorem eE_lst {P : Pg} {ev : Ev} {b : Nat} {sl : Sl} {S : Sto} {m : Bool} {es : List E} : stE P ev b (.lst m es) sl S = (evEs (fun e S => ev.e b e sl S) es S).bind fun ds S1 => if ds.length ≤ sizeMax then newL m ds S1 else .no := rfl
theorem eE_ix {P : Pg} {ev : Ev} {b : Nat} {sl : Sl} {S : Sto} {x y : E} : stE P ev b (.ix x y) sl S = (ev.e b x sl S).bind fun p S1 => (ev.e b y sl S1).bind fun q S2 => nox (ixD p q S2) := rfl
theorem eE_sl {P : Pg} {ev : Ev} {b : Nat} {sl : Sl} {S : Sto} {m : Bool} {x : E} {lo hi : Option E} : stE P ev b (.sl m x lo hi) sl S = (ev.e b x sl S).bind fun p S1 => (evO (fun e S => ev.e b e sl S) lo S1).bind fun l S2 => (evO (fun e S => ev.e b e sl S) hi S2).bind fun h S3 => nox (slD m p l h S3) := rfl
theorem eE_rv {P : Pg} {ev : Ev} {b : Nat} {sl : Sl} {S : Sto} {m : Bool} {x : E} : stE P ev b (.rv m x) sl S = (ev.e b x sl S).bind fun p S1 => nox (rvD m p S1) := rfl
theorem eE_isi {P : Pg} {ev : Ev} {b : Nat} {sl : Sl} {S : Sto} {x : E} {t : Ty} : stE P ev b (.isi x t) sl S = (ev.e b x sl S).bind fun p S1 => .ok (.bl (isiD p t)) S1 := rfl
theorem eE_call {P : Pg} {ev : Ev} {b : Nat} {sl : Sl} {S : Sto} {f : Nat} {es : List E} : stE P ev (b + 1) (.call f es) sl S = (match P.fns[f]? with | some fn => (evEs (fun e S => ev.e (b + 1) e sl S) es S).bind fun ds S1 => fnD ev b fn ds S1 | none => .no) := by
  show (match b + 1, P.fns[f]? with | b' + 1, some fn => (evEs (fun e S => ev.e (b' + 1) e sl S) es S).bind fun ds S1 => fnD ev b' fn ds S1 | _, _ => .no) = _
  cases P.fns[f]? <;> rfl
theorem eE_bf {P : Pg} {ev : Ev} {b : Nat} {sl : Sl} {S : Sto} {f : Bf} {m : Bool} {es : List E} : stE P ev b (.bf f m es) sl S = (evEs (fun e S => ev.e b e sl S) es S).bind fun ds S1 => nox (bfD f m ds S1) := rfl
theorem eE_mt {P : Pg} {ev : Ev} {b : Nat} {sl : Sl} {S : Sto} {f : Mf} {x : E} {es : List E} : stE P ev b (.mt f x es) sl S = (ev.e b x sl S).bind fun p S1 => if isLst p = true then (evEs (fun e S => ev.e b e sl S) es S1).bind fun ds S2 => nox (mtD f p ds S2) else .no := rfl
theorem eE_lam {P : Pg} {ev : Ev} {b : Nat} {sl : Sl} {S : Sto} {k : Nat} {x : E} : stE P ev (b + 3) (.lam k x) sl S = (match P.lms[k]? with | some L => lmR L (ev.e (b + 1) x sl S) | none => .no) := by
  show (match b + 3, P.lms[k]? with | b' + 3, some L => lmR L (ev.e (b' + 1) x sl S) | _, _ => .no) = _
  cases P.lms[k]? <;> rfl
theorem eT_nt {P : Pg} {ev : Ev} {b : Nat} {sl : Sl} {S : Sto} {x : E} : stT P ev b (.nt x) sl S = (ev.t b x sl S).bind fun k S1 => .ok (!k) S1 := rfl
theorem eT_an {P : Pg} {ev : Ev} {b : Nat} {sl : Sl} {S : Sto} {x y : E} : stT P ev b (.an x y) sl S = (ev.t b x sl S).bind fun k S1 => match k with | true => ev.t b y sl S1 | false => .ok false S1 := rfl
theorem eT_or {P : Pg} {ev : Ev} {b : Nat} {sl : Sl} {S : Sto} {x y : E} : stT P ev b (.or x y) sl S = (ev.t b x sl S).bind fun k S1 => match k with | false => ev.t b y sl S1 | true => .ok true S1 := rfl
theorem eT_cmp {P : Pg} {ev : Ev} {b : Nat} {sl : Sl} {S : Sto} {op : Cop} {x y : E} : stT P ev b (.cmp op x y) sl S = blD (stE P ev b (.cmp op x y) sl S) := rfl
theorem eT_ch {P : Pg} {ev : Ev} {b : Nat} {sl : Sl} {S : Sto} {op op' : Cop} {x y z : E} : stT P ev b (.ch op op' x y z) sl S = blD (stE P ev b (.ch op op' x y z) sl S) := rfl
theorem eT_v {P : Pg} {ev : Ev} {b : Nat} {sl : Sl} {S : Sto} {i : Nat} : stT P ev b (.v i) sl S = (ev.e b (.v i) sl S).bind fun d S1 => match truD S1 d with | some k => .ok k S1 | none => .no := rfl
theorem eT_call {P : Pg} {ev : Ev} {b : Nat} {sl : Sl} {S : Sto} {f : Nat} {es : List E} : stT P ev b (.call f es) sl S = (ev.e b (.call f es) sl S).bind fun d S1 => match truD S1 d with | some k => .ok k S1 | none => .no := rfl
theorem eT_isi {P : Pg} {ev : Ev} {b : Nat} {sl : Sl} {S : Sto} {x : E} {t : Ty} : stT P ev b (.isi x t) sl S = (ev.e b (.isi x t) sl S).bind fun d S1 => match truD S1 d with | some k => .ok k S1 | none => .no := rfl
theorem eT_ix {P : Pg} {ev : Ev} {b : Nat} {sl : Sl} {S : Sto} {x y : E} : stT P ev b (.ix x y) sl S = (ev.e b (.ix x y) sl S).bind fun d S1 => match truD S1 d with | some k => .ok k S1 | none => .no := rfl
theorem eT_c {P : Pg} {ev : Ev} {b : Nat} {sl : Sl} {S : Sto} {d : D} : stT P ev b (.c d) sl S = (ev.e b (.c d) sl S).bind fun d S1 => match truD S1 d with | some k => .ok k S1 | none => .no := rfl
theorem eT_bf {P : Pg} {ev : Ev} {b : Nat} {sl : Sl} {S : Sto} {f : Bf} {m : Bool} {es : List E} : stT P ev b (.bf f m es) sl S = (ev.e b (.bf f m es) sl S).bind fun d S1 => match truD S1 d with | some k => .ok k S1 | none => .no := rfl
theorem eS_asg {P : Pg} {ev : Ev} {b : Nat} {sl : Sl} {S : Sto} {t : T} {e : E} : stS P ev b (.asg t e) sl S = (ev.e b e sl S).bind fun d S1 => (setT (ev.e b) 9 t d sl S1).bind fun sl1 S2 => .ok (.nx sl1) S2 := rfl
theorem eS_par {P : Pg} {ev : Ev} {b : Nat} {sl : Sl} {S : Sto} {is : List Nat} {es : List E} : stS P ev b (.par is es) sl S = (evEs (fun e S => ev.e b e sl S) es S).bind fun ds S1 => if ds.length = is.length ∧ is.all (· < sl.length) = true then .ok (.nx ((is.zip ds).foldl (fun sl p => sl.set p.1 (some p.2)) sl)) S1 else .no := rfl
theorem eS_lcs {P : Pg} {ev : Ev} {b : Nat} {sl : Sl} {S : Sto} {i : Nat} {e : E} : stS P ev b (.lcs i e) sl S = (stE P ev b e sl S).bind fun d S1 => .ok (.nx (sl.set i (some d))) S1 := rfl
theorem eS_ret {P : Pg} {ev : Ev} {b : Nat} {sl : Sl} {S : Sto} {e : E} : stS P ev b (.ret e) sl S = (ev.e b e sl S).bind fun d S1 => .ok (.rt d) S1 := rfl
theorem eS_ex {P : Pg} {ev : Ev} {b : Nat} {sl : Sl} {S : Sto} {e : E} : stS P ev b (.ex e) sl S = (ev.e b e sl S).bind fun _ S1 => .ok (.nx sl) S1 := rfl
theorem eS_iff {P : Pg} {ev : Ev} {b : Nat} {sl : Sl} {S : Sto} {c : E} {x y : List Nv.S} : stS P ev b (.iff c x y) sl S = (ev.t b c sl S).bind fun k S1 => match k with | true => evSs (ev.s b) x sl S1 | false => evSs (ev.s b) y sl S1 := rfl
theorem eS_rai {P : Pg} {ev : Ev} {b : Nat} {sl : Sl} {S : Sto} {k : Nat} : stS P ev b (.rai k) sl S = .ex ⟨k, none⟩ S := rfl
theorem eS_retN {P : Pg} {ev : Ev} {b : Nat} {sl : Sl} {S : Sto}  : stS P ev b .retN sl S = .ok (.rt .non) S := rfl
theorem eS_pass {P : Pg} {ev : Ev} {b : Nat} {sl : Sl} {S : Sto}  : stS P ev b .pass sl S = .ok (.nx sl) S := rfl
theorem eS_brk {P : Pg} {ev : Ev} {b : Nat} {sl : Sl} {S : Sto}  : stS P ev b .brk sl S = .ok (.bk sl) S := rfl
theorem c_lt {i j : Int} {S : Sto} : cmpD .lt (.int i) (.int j) S = .ok (.bl (decide (i < j))) S := rfl
theorem c_le {i j : Int} {S : Sto} : cmpD .le (.int i) (.int j) S = .ok (.bl (decide (i ≤ j))) S := rfl
theorem c_gt {i j : Int} {S : Sto} : cmpD .gt (.int i) (.int j) S = .ok (.bl (decide (j < i))) S := rfl
theorem c_ge {i j : Int} {S : Sto} : cmpD .ge (.int i) (.int j) S = .ok (.bl (decide (j ≤ i))) S := rfl
theorem c_isN {a : D} {S : Sto} : cmpD .isN a .non S = .ok (.bl (isNon a)) S := rfl
theorem c_isntN {a : D} {S : Sto} : cmpD .isntN a .non S = .ok (.bl (!isNon a)) S := rfl
theorem c_isB {a : D} {k : Bool} {S : Sto} : cmpD .isB a (.bl k) S = .ok (.bl (isBl k a)) S := rfl
theorem c_isntB {a : D} {k : Bool} {S : Sto} : cmpD .isntB a (.bl k) S = .ok (.bl (!isBl k a)) S := rfl
theorem now_pure {a : D} {S : Sto} (h : pureD a = true) : now S a = some a := by
  cases a with
  | ref n => cases h
  | frz n => cases h
  | _ => simp [now, h]
theorem c_eq {a b : D} {S : Sto} (h : (pureD a && (pureD b && near a b)) = true) : cmpD .eq a b S = .ok (.bl (deq a b)) S := by
  simp only [Bool.and_eq_true] at h
  simp [cmpD, cmpB, now_pure h.1, now_pure h.2.1, h.2.2]
theorem c_ne {a b : D} {S : Sto} (h : (pureD a && (pureD b && near a b)) = true) : cmpD .ne a b S = .ok (.bl (!deq a b)) S := by
  simp only [Bool.and_eq_true] at h
  simp [cmpD, cmpB, now_pure h.1, now_pure h.2.1, h.2.2]
/-- what a def makes of its body's end -/
def fnR (r : R Fl) : R D :=
  match r with
  | .ok (.rt d) S1 => .ok d S1
  | .ok (.nx _) S1 => .ok .non S1
  | .ok (.bk _) _ => .no
  | .ex x S1 => .ex x S1
  | .no => .no
theorem fnD_run {ev : Ev} {b : Nat} {f : Fn} {ds : List D} {S : Sto} (h : ds.length = f.par) : fnD ev b f ds S = fnR (evSs (ev.s b) f.body (ds.map some ++ List.replicate (f.n - f.par) none) S) := by
  unfold fnD
  rw [if_pos h]
  rfl
section
variable {st : D → Sto → R Sl} {tt : Sl → Sto → R Bool} {el : Sl → Sto → R D}
/-- a list display whose turns change nothing -/
theorem lcL_pure {g : Option (Nat × List D)} {S : Sto} {sl : D → Sl} {p : D → Bool} {f : D → D} (hg : gdOk S g = true) : ∀ (ds acc : List D), (∀ d ∈ ds, st d S = .ok (sl d) S ∧ tt (sl d) S = .ok (p d) S ∧ (p d = true → el (sl d) S = .ok (f d) S)) → acc.length + ds.length ≤ sizeMax →
    lcL g st tt el ds acc S = .ok (acc ++ (ds.filter p).map f) S
  | [], acc, _, _ => by simp [lcL, hg]
  | d :: r, acc, h, hz => by
    obtain ⟨h1, h2, h3⟩ := h d List.mem_cons_self
    have hz' : acc.length + (r.length + 1) ≤ sizeMax := hz
    have ha : acc.length < sizeMax := by omega
    unfold lcL
    rw [if_pos hg, h1]
    simp only [R.bind, h2]
    cases hp : p d with
    | false =>
      simp only [Bool.false_eq_true, if_false]
      rw [lcL_pure hg r acc (fun e he => h e (List.mem_cons_of_mem _ he)) (by omega), List.filter_cons_of_neg (by simp [hp])]
    | true =>
      simp only [if_true, h3 hp, if_pos ha]
      rw [lcL_pure hg r (acc ++ [f d]) (fun e he => h e (List.mem_cons_of_mem _ he)) (by simp; omega), List.filter_cons_of_pos hp]
      simp
/-- a list display whose turns keep I, and give what Q says -/
theorem lcL_inv {I : Sto → Prop} {Q : D → D → Prop} : ∀ (ds acc : List D) (S : Sto), I S → (∀ d ∈ ds, ∀ S, I S → ∃ sl S1 S2 y S3, st d S = .ok sl S1 ∧ tt sl S1 = .ok true S2 ∧ el sl S2 = .ok y S3 ∧ I S3 ∧ Q d y) → acc.length + ds.length ≤ sizeMax →
    ∃ ys S', lcL none st tt el ds acc S = .ok (acc ++ ys) S' ∧ I S' ∧ ys.length = ds.length ∧ ∀ y ∈ ys, ∃ d ∈ ds, Q d y
  | [], acc, S, i, _, _ => ⟨[], S, by simp [lcL, gdOk], i, rfl, by simp⟩
  | d :: r, acc, S, i, h, hz => by
    obtain ⟨sl, S1, S2, y, S3, h1, h2, h3, i3, q⟩ := h d List.mem_cons_self S i
    have hz' : acc.length + (r.length + 1) ≤ sizeMax := hz
    have ha : acc.length < sizeMax := by omega
    obtain ⟨ys, S', e, i', hl, hq⟩ := lcL_inv r (acc ++ [y]) S3 i3 (fun e he => h e (List.mem_cons_of_mem _ he)) (by simp; omega)
    refine ⟨y :: ys, S', ?_, i', by simp [hl], fun z hz => ?_⟩
    · unfold lcL
      rw [if_pos (show gdOk _ none = true from rfl), h1]
      simp only [R.bind, h2, if_true, h3, if_pos ha]
      rw [e]
      simp
    · rcases List.mem_cons.mp hz with rfl | hz
      · exact ⟨d, List.mem_cons_self, q⟩
      · obtain ⟨d', m, q'⟩ := hq z hz
        exact ⟨d', List.mem_cons_of_mem _ m, q'⟩
end
section
variable {st : D → Sl → Sto → R Sl} {bd : Sl → Sto → R Fl}
/-- a loop that looks at each item, and returns at one that fails -/
theorem forL_test {p : D → Bool} {S : Sto} {x : D} {I : Sl → Prop} : ∀ (ds : List D) (sl : Sl), I sl → (∀ d ∈ ds, ∀ sl, I sl → ∃ sl1, st d sl S = .ok sl1 S ∧ (p d = true → ∃ sl2, bd sl1 S = .ok (.nx sl2) S ∧ I sl2) ∧ (p d = false → bd sl1 S = .ok (.rt x) S)) →
    (ds.all p = true → ∃ sl', forL none st bd ds sl S = .ok (.nx sl') S ∧ I sl') ∧ (ds.all p = false → forL none st bd ds sl S = .ok (.rt x) S)
  | [], sl, i, _ => ⟨fun _ => ⟨sl, by simp [forL, gdOk], i⟩, fun h => by simp at h⟩
  | d :: r, sl, i, h => by
    obtain ⟨sl1, e1, ht, hf⟩ := h d List.mem_cons_self sl i
    cases q : p d with
    | true =>
      obtain ⟨sl2, e2, i2⟩ := ht q
      have ih := forL_test r sl2 i2 fun e he => h e (List.mem_cons_of_mem _ he)
      have un : forL none st bd (d :: r) sl S = forL none st bd r sl2 S := by
        conv => lhs; unfold forL
        rw [if_pos (show gdOk _ none = true from rfl), e1]
        simp only [R.bind, e2]
      rw [un]
      simpa [q] using ih
    | false =>
      refine ⟨fun z => by simp [q] at z, fun _ => ?_⟩
      unfold forL
      rw [if_pos (show gdOk _ none = true from rfl), e1]
      simp only [R.bind, hf q]
/-- a loop that folds -/
theorem forL_fold {α β : Type} {enc : α → D} {slf : β → Option D → Sl} {stf : β → Sto} {step : β → α → β} {Inv : β → Prop} : ∀ (xs : List α) (s : β) (o : Option D), Inv s → (∀ x ∈ xs, ∀ s o, Inv s → st (enc x) (slf s o) (stf s) = .ok (slf s (some (enc x))) (stf s) ∧ bd (slf s (some (enc x))) (stf s) = .ok (.nx (slf (step s x) (some (enc x)))) (stf (step s x)) ∧ Inv (step s x)) →
    ∃ o', forL none st bd (xs.map enc) (slf s o) (stf s) = .ok (.nx (slf (xs.foldl step s) o')) (stf (xs.foldl step s)) ∧ Inv (xs.foldl step s)
  | [], s, o, i, _ => ⟨o, by simp [forL, gdOk], i⟩
  | x :: r, s, o, i, h => by
    obtain ⟨h1, h2, i2⟩ := h x List.mem_cons_self s o i
    obtain ⟨o', e, i'⟩ := forL_fold r (step s x) (some (enc x)) i2 fun y hy => h y (List.mem_cons_of_mem _ hy)
    refine ⟨o', ?_, i'⟩
    rw [List.map_cons]
    unfold forL
    rw [if_pos (show gdOk _ none = true from rfl), h1]
    simp only [R.bind, h2]
    exact e
/-- a loop without break or return -/
theorem forL_inv {I : List D → Sl → Sto → Prop} : ∀ (ds : List D) (sl : Sl) (S : Sto), I ds sl S → (∀ d r sl S, I (d :: r) sl S → ∃ sl1 S1 sl2 S2, st d sl S = .ok sl1 S1 ∧ bd sl1 S1 = .ok (.nx sl2) S2 ∧ I r sl2 S2) →
    ∃ sl' S', forL none st bd ds sl S = .ok (.nx sl') S' ∧ I [] sl' S'
  | [], sl, S, i, _ => ⟨sl, S, by simp [forL, gdOk], i⟩
  | d :: r, sl, S, i, h => by
    obtain ⟨sl1, S1, sl2, S2, h1, h2, i2⟩ := h d r sl S i
    obtain ⟨sl', S', e, i'⟩ := forL_inv r sl2 S2 i2 h
    refine ⟨sl', S', ?_, i'⟩
    unfold forL
    rw [if_pos (show gdOk _ none = true from rfl), h1]
    simp only [R.bind, h2]
    exact e
end
end Nv

end

section
set_option linter.all false
set_option maxRecDepth 100000
/-! NvW: the evaluator without fuel: evW, where evN comes to. Core Lean alone. -/
namespace Nv

/-- a way of setting answers side by side -/
structure Cl where
  X : Type
  Rel : {α : Type} → (X → R α) → R α → Prop
  con : ∀ {α : Type} (r : R α), Rel (fun _ => r) r
  bnd : ∀ {α β : Type} {f : X → R α} {w : R α} {g : X → α → Sto → R β} {w' : α → Sto → R β}, Rel f w → (∀ a S, Rel (fun x => g x a S) (w' a S)) → Rel (fun x => (f x).bind (g x)) (w.bind w')
  map : ∀ {α β : Type} {f : X → R α} {w : R α} (m : R α → R β), m .no = .no → Rel f w → Rel (fun x => m (f x)) (m w)

structure Cl.At (C : Cl) (E : C.X → Ev) (W : Ev) : Prop where
  e : ∀ b e sl S, C.Rel (fun x => (E x).e b e sl S) (W.e b e sl S)
  t : ∀ b e sl S, C.Rel (fun x => (E x).t b e sl S) (W.t b e sl S)
  s : ∀ b e sl S, C.Rel (fun x => (E x).s b e sl S) (W.s b e sl S)

section
variable {C : Cl}
theorem Cl.evEs {ev : C.X → E → Sto → R D} {w : E → Sto → R D} (h : ∀ e S, C.Rel (fun x => ev x e S) (w e S)) : ∀ es S, C.Rel (fun x => Nv.evEs (ev x) es S) (Nv.evEs w es S)
  | [], S => C.con _
  | e :: r, S => C.bnd (h e S) fun d S1 => C.bnd (Cl.evEs h r S1) fun ds S2 => C.con _
theorem Cl.evO {ev : C.X → E → Sto → R D} {w : E → Sto → R D} (h : ∀ e S, C.Rel (fun x => ev x e S) (w e S)) : ∀ o S, C.Rel (fun x => Nv.evO (ev x) o S) (Nv.evO w o S)
  | none, S => C.con _
  | some e, S => C.bnd (h e S) fun d S1 => C.con _
theorem Cl.setTs {st : C.X → T → D → Sl → Sto → R Sl} {w : T → D → Sl → Sto → R Sl} (h : ∀ t d sl S, C.Rel (fun x => st x t d sl S) (w t d sl S)) : ∀ ts ds sl S, C.Rel (fun x => Nv.setTs (st x) ts ds sl S) (Nv.setTs w ts ds sl S)
  | [], [], sl, S => C.con _
  | t :: ts, d :: ds, sl, S => C.bnd (h t d sl S) fun sl1 S1 => Cl.setTs h ts ds sl1 S1
  | [], _ :: _, sl, S => C.con _
  | _ :: _, [], sl, S => C.con _
theorem Cl.setT {ev : C.X → E → Sl → Sto → R D} {w : E → Sl → Sto → R D} (h : ∀ e sl S, C.Rel (fun x => ev x e sl S) (w e sl S)) : ∀ n t d sl S, C.Rel (fun x => Nv.setT (ev x) n t d sl S) (Nv.setT w n t d sl S)
  | 0, t, d, sl, S => C.con _
  | n + 1, .nm i, d, sl, S => C.con _
  | n + 1, .tp ts, d, sl, S => by
    cases d with
    | tup xs =>
      show C.Rel (fun x => if xs.length = ts.length then Nv.setTs (Nv.setT (ev x) n) ts xs sl S else .no) (if xs.length = ts.length then Nv.setTs (Nv.setT w n) ts xs sl S else .no)
      split
      · exact Cl.setTs (Cl.setT h n) ts xs sl S
      · exact C.con _
    | _ => exact C.con _
  | n + 1, .ix a b, d, sl, S => C.bnd (h a sl S) fun o S1 => C.bnd (h b sl S1) fun i S2 => C.con _
theorem Cl.itD {ev : C.X → E → Sto → R D} {w : E → Sto → R D} (h : ∀ e S, C.Rel (fun x => ev x e S) (w e S)) : ∀ i S, C.Rel (fun x => Nv.itD (ev x) i S) (Nv.itD w i S)
  | .seq a, S => C.bnd (h a S) fun d S1 => C.con _
  | .rng1 a, S => C.bnd (h a S) fun d S1 => C.con _
  | .rng2 a b, S => C.bnd (h a S) fun d S1 => C.bnd (h b S1) fun e S2 => C.con _
  | .enum a, S => C.bnd (h a S) fun d S1 => C.con _
  | .zip a b, S => C.bnd (h a S) fun d S1 => C.bnd (h b S1) fun e S2 => C.con _
theorem Cl.forL {g : Option (Nat × List D)} {st : C.X → D → Sl → Sto → R Sl} {bd : C.X → Sl → Sto → R Fl} {w : D → Sl → Sto → R Sl} {v : Sl → Sto → R Fl} (h : ∀ d sl S, C.Rel (fun x => st x d sl S) (w d sl S)) (k : ∀ sl S, C.Rel (fun x => bd x sl S) (v sl S)) : ∀ ds sl S, C.Rel (fun x => Nv.forL g (st x) (bd x) ds sl S) (Nv.forL g w v ds sl S)
  | [], sl, S => C.con _
  | d :: r, sl, S => by
    unfold Nv.forL
    split
    · refine C.bnd (h d sl S) fun sl1 S1 => C.bnd (k sl1 S1) fun f S2 => ?_
      cases f with
      | nx sl2 => exact Cl.forL h k r sl2 S2
      | rt x => exact C.con _
      | bk sl2 => exact C.con _
    · exact C.con _
theorem Cl.lcL {g : Option (Nat × List D)} {st : C.X → D → Sto → R Sl} {tt : C.X → Sl → Sto → R Bool} {el : C.X → Sl → Sto → R D} {w : D → Sto → R Sl} {v : Sl → Sto → R Bool} {u : Sl → Sto → R D} (h : ∀ d S, C.Rel (fun x => st x d S) (w d S)) (k : ∀ sl S, C.Rel (fun x => tt x sl S) (v sl S)) (l : ∀ sl S, C.Rel (fun x => el x sl S) (u sl S)) : ∀ ds acc S, C.Rel (fun x => Nv.lcL g (st x) (tt x) (el x) ds acc S) (Nv.lcL g w v u ds acc S)
  | [], acc, S => C.con _
  | d :: r, acc, S => by
    unfold Nv.lcL
    split
    · refine C.bnd (h d S) fun sl S1 => C.bnd (k sl S1) fun q S2 => ?_
      cases q with
      | true =>
        simp only [if_true]
        refine C.bnd (l sl S2) fun y S3 => ?_
        split
        · exact Cl.lcL h k l r (acc ++ [y]) S3
        · exact C.con _
      | false =>
        simp only [Bool.false_eq_true, if_false]
        exact Cl.lcL h k l r acc S2
    · exact C.con _
theorem Cl.evSs {ev : C.X → S → Sl → Sto → R Fl} {w : S → Sl → Sto → R Fl} (h : ∀ s sl S, C.Rel (fun x => ev x s sl S) (w s sl S)) : ∀ ss sl S, C.Rel (fun x => Nv.evSs (ev x) ss sl S) (Nv.evSs w ss sl S)
  | [], sl, S => C.con _
  | s :: r, sl, S => by
    refine C.bnd (h s sl S) fun f S1 => ?_
    cases f with
    | nx sl1 => exact Cl.evSs h r sl1 S1
    | rt x => exact C.con _
    | bk sl2 => exact C.con _
theorem fnD_eq {ev : Ev} {b : Nat} {f : Fn} {ds : List D} {S : Sto} : fnD ev b f ds S = if ds.length = f.par then fnR (evSs (ev.s b) f.body (ds.map some ++ List.replicate (f.n - f.par) none) S) else .no := rfl
theorem Cl.fnD {E : C.X → Ev} {W : Ev} (A : C.At E W) (b : Nat) (f : Fn) (ds : List D) (S : Sto) : C.Rel (fun x => Nv.fnD (E x) b f ds S) (Nv.fnD W b f ds S) := by
  simp only [fnD_eq]
  split
  · exact C.map fnR rfl (Cl.evSs (A.s b) f.body _ S)
  · exact C.con _
theorem Cl.blD {f : C.X → R D} {w : R D} (h : C.Rel f w) : C.Rel (fun x => Nv.blD (f x)) (Nv.blD w) := C.bnd h fun d S => C.con _
theorem Cl.nox {α : Type} {f : C.X → R α} {w : R α} (h : C.Rel f w) : C.Rel (fun x => Nv.nox (f x)) (Nv.nox w) := C.map Nv.nox rfl h
theorem Cl.ifsD {t : C.X → E → Sl → Sto → R Bool} {w : E → Sl → Sto → R Bool} (h : ∀ e sl S, C.Rel (fun x => t x e sl S) (w e sl S)) : ∀ o sl S, C.Rel (fun x => Nv.ifsD (t x) o sl S) (Nv.ifsD w o sl S)
  | some c, sl, S => h c sl S
  | none, sl, S => C.con _
theorem Cl.stE {P : Pg} {E : C.X → Ev} {W : Ev} (A : C.At E W) (b : Nat) (e : Nv.E) (sl : Sl) (S : Sto) : C.Rel (fun x => Nv.stE P (E x) b e sl S) (Nv.stE P W b e sl S) := by
  have hv : ∀ e S, C.Rel (fun x => (E x).e b e sl S) (W.e b e sl S) := fun e S => A.e b e sl S
  cases e with
  | c d => exact C.con _
  | v i => exact C.con _
  | g i => exact C.con _
  | bin op m x y => exact C.bnd (hv x S) fun p S1 => C.bnd (hv y S1) fun q S2 => C.con _
  | neg x => exact C.bnd (hv x S) fun p S1 => C.con _
  | nt x => exact C.bnd (Cl.blD (hv x S)) fun p S1 => C.con _
  | an x y =>
    refine C.bnd (Cl.blD (hv x S)) fun k S1 => ?_
    cases k
    · exact C.con _
    · exact hv y S1
  | or x y =>
    refine C.bnd (Cl.blD (hv x S)) fun k S1 => ?_
    cases k
    · exact hv y S1
    · exact C.con _
  | cmp op x y => exact C.bnd (hv x S) fun p S1 => C.bnd (hv y S1) fun q S2 => C.con _
  | ch op op' x y z =>
    refine C.bnd (hv x S) fun p S1 => C.bnd (hv y S1) fun q S2 => C.bnd (C.con _) fun k S3 => ?_
    cases k
    · exact C.con _
    · exact C.bnd (hv z S3) fun r S4 => C.con _
  | ite x y z =>
    refine C.bnd (A.t b x sl S) fun k S1 => ?_
    cases k
    · exact hv z S1
    · exact hv y S1
  | tup es => exact C.bnd (Cl.evEs (ev := fun x e S => (E x).e b e sl S) hv es S) fun ds S1 => C.con _
  | lst m es => exact C.bnd (Cl.evEs (ev := fun x e S => (E x).e b e sl S) hv es S) fun ds S1 => C.con _
  | ix x y => exact C.bnd (hv x S) fun p S1 => C.bnd (hv y S1) fun q S2 => C.con _
  | sl m x lo hi => exact C.bnd (hv x S) fun p S1 => C.bnd (Cl.evO (ev := fun x e S => (E x).e b e sl S) hv lo S1) fun l S2 => C.bnd (Cl.evO (ev := fun x e S => (E x).e b e sl S) hv hi S2) fun h S3 => C.con _
  | rv m x => exact C.bnd (hv x S) fun p S1 => C.con _
  | isi x t => exact C.bnd (hv x S) fun p S1 => C.con _
  | call f es =>
    cases b with
    | zero => exact C.con _
    | succ b =>
      simp only [eE_call]
      cases P.fns[f]? with
      | none => exact C.con _
      | some fn => exact C.bnd (Cl.evEs (ev := fun x e S => (E x).e (b + 1) e sl S) hv es S) fun ds S1 => Cl.fnD A b fn ds S1
  | bf f m es => exact C.bnd (Cl.evEs (ev := fun x e S => (E x).e b e sl S) hv es S) fun ds S1 => C.con _
  | mt f x es =>
    refine C.bnd (hv x S) fun p S1 => ?_
    split
    · exact C.bnd (Cl.evEs (ev := fun x e S => (E x).e b e sl S) hv es S1) fun ds S2 => C.con _
    · exact C.con _
  | lc m e t own i ifs =>
    refine C.bnd (Cl.itD (ev := fun x e S => (E x).e b e sl S) hv i S) fun w S1 => C.bnd (Cl.nox (Cl.lcL (st := fun x d S => Nv.setT ((E x).e b) 9 t d (wipeD sl own) S) (tt := fun x sl S => Nv.ifsD ((E x).t b) ifs sl S) (el := fun x sl S => (E x).e b e sl S) (fun d S => ?_) (fun sl S => ?_) (fun sl S => ?_) w.ds [] S1)) fun ys S2 => C.con _
    · exact Cl.setT (ev := fun x => (E x).e b) (A.e b) 9 t d _ S
    · exact Cl.ifsD (t := fun x => (E x).t b) (A.t b) ifs sl S
    · exact A.e b e sl S
  | lam k x =>
    match b with
    | 0 => exact C.con _
    | 1 => exact C.con _
    | 2 => exact C.con _
    | b + 3 =>
      simp only [eE_lam]
      cases P.lms[k]? with
      | none => exact C.con _
      | some L => exact C.map (lmR L) rfl (A.e (b + 1) x sl S)
  | nev => exact C.con _
theorem Cl.stT {P : Pg} {E : C.X → Ev} {W : Ev} (A : C.At E W) (b : Nat) (e : Nv.E) (sl : Sl) (S : Sto) : C.Rel (fun x => Nv.stT P (E x) b e sl S) (Nv.stT P W b e sl S) := by
  cases e with
  | nt x => exact C.bnd (A.t b x sl S) fun k S1 => C.con _
  | an x y =>
    refine C.bnd (A.t b x sl S) fun k S1 => ?_
    cases k
    · exact C.con _
    · exact A.t b y sl S1
  | or x y =>
    refine C.bnd (A.t b x sl S) fun k S1 => ?_
    cases k
    · exact A.t b y sl S1
    · exact C.con _
  | cmp op x y => exact Cl.blD (Cl.stE A b (.cmp op x y) sl S)
  | ch op op' x y z => exact Cl.blD (Cl.stE A b (.ch op op' x y z) sl S)
  | ite _ _ _ => exact C.con _
  | _ => exact C.bnd (A.e b _ sl S) fun d S1 => C.con _
theorem Cl.stS {P : Pg} {E : C.X → Ev} {W : Ev} (A : C.At E W) (b : Nat) (s : Nv.S) (sl : Sl) (S : Sto) : C.Rel (fun x => Nv.stS P (E x) b s sl S) (Nv.stS P W b s sl S) := by
  have hv : ∀ e S, C.Rel (fun x => (E x).e b e sl S) (W.e b e sl S) := fun e S => A.e b e sl S
  cases s with
  | asg t e => exact C.bnd (hv e S) fun d S1 => C.bnd (Cl.setT (ev := fun x => (E x).e b) (A.e b) 9 t d sl S1) fun sl1 S2 => C.con _
  | par is es => exact C.bnd (Cl.evEs (ev := fun x e S => (E x).e b e sl S) hv es S) fun ds S1 => C.con _
  | lcs i e => exact C.bnd (Cl.stE A b e sl S) fun d S1 => C.con _
  | ret e => exact C.bnd (hv e S) fun d S1 => C.con _
  | retN => exact C.con _
  | ex e => exact C.bnd (hv e S) fun d S1 => C.con _
  | iff c x y =>
    refine C.bnd (A.t b c sl S) fun k S1 => ?_
    cases k
    · exact Cl.evSs (ev := fun x => (E x).s b) (A.s b) y sl S1
    · exact Cl.evSs (ev := fun x => (E x).s b) (A.s b) x sl S1
  | for_ t i bd =>
    exact C.bnd (Cl.itD (ev := fun x e S => (E x).e b e sl S) hv i S) fun w S1 => Cl.forL (st := fun x d sl S => Nv.setT ((E x).e b) 9 t d sl S) (bd := fun x sl S => Nv.evSs ((E x).s b) bd sl S) (fun d sl S => Cl.setT (ev := fun x => (E x).e b) (A.e b) 9 t d sl S) (fun sl S => Cl.evSs (ev := fun x => (E x).s b) (A.s b) bd sl S) w.ds sl S1
  | whl c bd =>
    refine C.bnd (A.t b c sl S) fun k S1 => ?_
    cases k
    · exact C.con _
    · refine C.bnd (Cl.evSs (ev := fun x => (E x).s b) (A.s b) bd sl S1) fun f S2 => ?_
      cases f with
      | nx sl2 => exact A.s b _ sl2 S2
      | rt x => exact C.con _
      | bk sl2 => exact C.con _
  | pass => exact C.con _
  | brk => exact C.con _
  | rai k => exact C.con _
  | nev => exact C.con _
end

/-- one says nothing, or the same -/
def clLe : Cl where
  X := Unit
  Rel := fun f w => f () = .no ∨ f () = w
  con := fun r => .inr rfl
  bnd := fun {α β f w g w'} h k => by
    rcases h with h | h
    · exact .inl (by simp only [h, R.bind])
    · show (f ()).bind (g ()) = .no ∨ (f ()).bind (g ()) = w.bind w'
      rw [h]
      cases w with
      | ok a S => exact k a S
      | ex x S => exact .inr rfl
      | no => exact .inr rfl
  map := fun {α β f w} m hm h => by
    rcases h with h | h
    · exact .inl (by simp only [h, hm])
    · exact .inr (by simp only [h])
/-- from some number on, the same -/
def clEv : Cl where
  X := Nat
  Rel := fun f w => ∃ N, ∀ n, N ≤ n → f n = w
  con := fun r => ⟨0, fun _ _ => rfl⟩
  bnd := fun {α β f w g w'} h k => by
    obtain ⟨N, h⟩ := h
    cases w with
    | ok a S =>
      obtain ⟨M, k⟩ := k a S
      exact ⟨max N M, fun n hn => by simp only [h n (by omega), R.bind, k n (by omega)]⟩
    | ex x S => exact ⟨N, fun n hn => by simp only [h n hn, R.bind]⟩
    | no => exact ⟨N, fun n hn => by simp only [h n hn, R.bind]⟩
  map := fun {α β f w} m hm h => by
    obtain ⟨N, h⟩ := h
    exact ⟨N, fun n hn => by simp only [h n hn]⟩

theorem evN_le (P : Pg) : ∀ n, clLe.At (fun _ => evN P n) (evN P (n + 1))
  | 0 => ⟨fun _ _ _ _ => .inl rfl, fun _ _ _ _ => .inl rfl, fun _ _ _ _ => .inl rfl⟩
  | n + 1 => ⟨fun b e sl S => Cl.stE (evN_le P n) b e sl S, fun b e sl S => Cl.stT (evN_le P n) b e sl S, fun b e sl S => Cl.stS (evN_le P n) b e sl S⟩

theorem lim_ex {α : Type} (f : Nat → R α) (h : ∀ n, f n = .no ∨ f n = f (n + 1)) : ∃ w, ∃ N, ∀ n, N ≤ n → f n = w := by
  by_cases z : ∀ n, f n = .no
  · exact ⟨.no, 0, fun n _ => z n⟩
  · obtain ⟨N, hN⟩ := Classical.not_forall.mp z
    refine ⟨f N, N, fun n hn => ?_⟩
    obtain ⟨k, rfl⟩ : ∃ k, n = N + k := ⟨n - N, by omega⟩
    clear hn
    induction k with
    | zero => rfl
    | succ k ih =>
      rcases h (N + k) with q | q
      · exact absurd (ih ▸ q) hN
      · rw [← Nat.add_assoc, ← q, ih]

/-- where evN comes to -/
noncomputable def evW (P : Pg) : Ev where
  e := fun b e sl S => Classical.choose (lim_ex (fun n => (evN P n).e b e sl S) fun n => (evN_le P n).e b e sl S)
  t := fun b e sl S => Classical.choose (lim_ex (fun n => (evN P n).t b e sl S) fun n => (evN_le P n).t b e sl S)
  s := fun b e sl S => Classical.choose (lim_ex (fun n => (evN P n).s b e sl S) fun n => (evN_le P n).s b e sl S)
theorem evW_at (P : Pg) : clEv.At (evN P) (evW P) where
  e := fun b e sl S => Classical.choose_spec (lim_ex (fun n => (evN P n).e b e sl S) fun n => (evN_le P n).e b e sl S)
  t := fun b e sl S => Classical.choose_spec (lim_ex (fun n => (evN P n).t b e sl S) fun n => (evN_le P n).t b e sl S)
  s := fun b e sl S => Classical.choose_spec (lim_ex (fun n => (evN P n).s b e sl S) fun n => (evN_le P n).s b e sl S)
theorem lim_one {α : Type} {f : Nat → R α} {w v : R α} (h : ∃ N, ∀ n, N ≤ n → f n = w) (k : ∃ N, ∀ n, N ≤ n → f (n + 1) = v) : w = v := by
  obtain ⟨N, h⟩ := h
  obtain ⟨M, k⟩ := k
  rw [← h (max N M + 1) (by omega), k (max N M) (by omega)]
theorem evW_e {P : Pg} {b : Nat} {e : E} {sl : Sl} {S : Sto} : (evW P).e b e sl S = stE P (evW P) b e sl S := lim_one ((evW_at P).e b e sl S) (Cl.stE (C := clEv) (P := P) (evW_at P) b e sl S)
theorem evW_t {P : Pg} {b : Nat} {e : E} {sl : Sl} {S : Sto} : (evW P).t b e sl S = stT P (evW P) b e sl S := lim_one ((evW_at P).t b e sl S) (Cl.stT (C := clEv) (P := P) (evW_at P) b e sl S)
theorem evW_s {P : Pg} {b : Nat} {e : S} {sl : Sl} {S : Sto} : (evW P).s b e sl S = stS P (evW P) b e sl S := lim_one ((evW_at P).s b e sl S) (Cl.stS (C := clEv) (P := P) (evW_at P) b e sl S)
/-- back to fuel -/
theorem evW_fn {P : Pg} {b : Nat} {f : Fn} {ds : List D} {S : Sto} {r : R D} (h : fnD (evW P) b f ds S = r) : ∃ m, fnD (evN P m) b f ds S = r := by
  obtain ⟨N, k⟩ := Cl.fnD (C := clEv) (evW_at P) b f ds S
  exact ⟨N, (k N (Nat.le_refl _)).trans h⟩
/-- and by running it -/
theorem evW_of {P : Pg} {m b : Nat} {f : Fn} {ds : List D} {S : Sto} {r : R D} (h : fnD (evN P m) b f ds S = r) (hr : r ≠ .no) : fnD (evW P) b f ds S = r := by
  obtain ⟨N, k⟩ := Cl.fnD (C := clEv) (evW_at P) b f ds S
  have : ∀ j, fnD (evN P (m + j)) b f ds S = r := by
    intro j
    induction j with
    | zero => exact h
    | succ j ih =>
      rcases Cl.fnD (C := clLe) (evN_le P (m + j)) b f ds S with q | q
      · exact absurd (ih ▸ q) hr
      · exact q.symm.trans ih
  have q := k (m + N) (by omega)
  rw [← q]
  exact this N
end Nv

end

section
set_option linter.all false
set_option maxRecDepth 100000
set_option maxHeartbeats 0
namespace Kd
open PySem PySem.Spec PyProof.Rows L2 Nv
/-- law -/
def f0 : Fn := ⟨1, 9, [.asg (.nm 1) (.call 1 [(.v 0)]),
    .for_ (.nm 2) (.rng1 (.c (.int 2))) [.asg (.nm 3) (.call 2 [(.v 1)]),
    .asg (.nm 4) (.call 3 [(.v 1), (.v 3)]),
    .asg (.nm 5) (.call 4 [(.v 3)]),
    .iff (.or (.nt (.call 5 [(.v 1), (.v 3), (.v 4)])) (.nt (.call 5 [(.v 1), (.v 5), (.v 4)]))) [.ret (.c (.bl false))] [],
    .iff (.or (.cmp .ne (.call 6 [(.v 5), (.v 4)]) (.call 7 [(.v 5), (.v 4)])) (.cmp .ne (.call 8 [(.v 5), (.v 4)]) (.lst false []))) [.ret (.c (.bl false))] []],
    .for_ (.nm 6) (.seq (.lst false [(.c .non), (.lst false []), (.tup [(.tup [(.tup [(.c (.str [97]))]), (.tup [(.c (.int 1))])])]), (.tup [(.c (.int 0))])])) [.iff (.cmp .ne (.lst false [(.lam 0 (.call 6 [(.v 6), (.c .non)])), (.lam 0 (.call 8 [(.v 6), (.c .non)]))]) (.bin .mul false (.lst false [(.c (.str [104, 101, 97, 112, 32, 118, 97, 108, 117, 101]))]) (.c (.int 2)))) [.ret (.c (.bl false))] []],
    .for_ (.nm 6) (.seq (.lst false [(.c .non), (.lst false []), (.tup [(.c (.int 0))]), (.tup [(.c (.bl true))])])) [.iff (.cmp .ne (.lst false [(.lam 0 (.call 6 [(.tup [(.c .non)]), (.v 6)])), (.lam 0 (.call 8 [(.tup []), (.v 6)]))]) (.bin .mul false (.lst false [(.c (.str [114, 111, 111, 116, 115, 32, 118, 97, 108, 117, 101]))]) (.c (.int 2)))) [.ret (.c (.bl false))] []],
    .asg (.nm 7) (.tup [(.tup [(.tup [(.c (.str [97]))]), (.tup [(.c (.int 1))])]), (.tup [(.tup [(.c (.str [98]))]), (.tup [(.c (.int 0))])]), (.tup [(.tup [(.c (.str [99]))]), (.tup [(.c (.int 1))])]), (.c .non), (.tup [(.tup [(.c (.str [100]))]), (.tup [(.c (.int 2)), (.c (.int 4))])])]),
    .iff (.or (.cmp .ne (.call 6 [(.v 7), (.tup [(.c (.int 2))])]) (.v 7)) (.or (.cmp .ne (.call 8 [(.v 7), (.tup [(.c (.int 2))])]) (.lst false [(.c (.int 4))])) (.cmp .ne (.call 8 [(.v 7), (.tup [])]) (.lst false [(.c (.int 0)), (.c (.int 1)), (.c (.int 2)), (.c (.int 4))])))) [.ret (.c (.bl false))] [],
    .asg (.nm 8) (.tup [(.tup [(.tup [(.c (.str [97]))]), (.tup [])]), (.tup [(.tup [(.c (.str [98]))]), (.tup [(.c (.int 0))])]), (.tup [(.tup [(.c (.str [99]))]), (.tup [(.c (.int 1)), (.c (.int 1))])]), (.tup [(.tup [(.c (.str [100]))]), (.tup [(.c (.int 0)), (.c (.int 3))])])]),
    .iff (.or (.cmp .ne (.call 6 [(.v 8), (.tup [])]) (.tup [(.ix (.v 8) (.c (.int 0))), (.c .non), (.c .non), (.ix (.v 8) (.c (.int 3)))])) (.or (.cmp .ne (.call 8 [(.v 8), (.tup [])]) (.lst false [(.c (.int 0)), (.c (.int 3))])) (.cmp .ne (.call 6 [(.v 8), (.tup [(.c (.int 1))])]) (.tup [(.ix (.v 8) (.c (.int 0))), (.ix (.v 8) (.c (.int 1))), (.c .non), (.ix (.v 8) (.c (.int 3)))])))) [.ret (.c (.bl false))] [],
    .ret (.an (.cmp .eq (.call 6 [(.sl false (.v 8) none (some (.c (.int 3)))), (.tup [])]) (.tup [(.c .non), (.c .non), (.c .non)])) (.an (.call 5 [(.v 1), (.v 7), (.tup [(.c (.int 0)), (.c (.int 0))])]) (.cmp .eq (.call 8 [(.v 8), (.tup [(.c (.int 1))])]) (.lst false [(.c (.int 3))]))))]⟩
/-- _law_cup!m -/
def f1 : Fn := ⟨1, 3, [.asg (.nm 1) (.bf .abs false [(.ix (.bin .add false (.bf .list false [(.v 0)]) (.lst false [(.c (.int 0))])) (.c (.int 0)))]),
    .asg (.nm 2) (.ite (.cmp .ge (.v 1) (.bin .pow false (.c (.int 10)) (.c (.int 18)))) (.bin .fdiv false (.v 1) (.c (.int 11))) (.c (.int 0))),
    .ret (.lst true [(.v 2), (.bin .add false (.bin .mod false (.bf .int false [(.bin .add false (.bin .mul false (.v 1) (.c (.int 193))) (.c (.int 1201)))]) (.c (.int 2077504273))) (.c (.int 89)))])]⟩
/-- _law_heap -/
def f2 : Fn := ⟨1, 8, [.asg (.nm 1) (.lc false (.cmp .eq (.call 9 [(.v 0), (.c (.int 5))]) (.c (.int 0))) (.nm 6) [6] (.rng1 (.bin .add false (.c (.int 1)) (.call 9 [(.v 0), (.c (.int 9))]))) none),
    .asg (.tp [(.nm 2), (.nm 3)]) (.tup [(.lc false (.v 6) (.nm 6) [6] (.rng1 (.bf .len false [(.v 1)])) (some (.nt (.ix (.v 1) (.v 6))))), (.tup [])]),
    .for_ (.nm 4) (.seq (.v 1)) [.asg (.nm 5) (.bf .tuple false [(.lc false (.call 10 [(.v 0), (.v 2)]) (.nm 7) [7] (.rng1 (.call 11 [(.v 0), (.lst false [(.c (.int 0)), (.c (.int 1)), (.c (.int 1)), (.c (.int 2)), (.c (.int 2)), (.c (.int 3))])])) none)]),
    .asg (.nm 3) (.bin .add false (.v 3) (.tup [(.ite (.v 4) (.c .non) (.tup [(.tup [(.call 11 [(.v 0), (.lst false [(.c (.str [97])), (.c (.str [98])), (.c (.str [99]))])])]), (.v 5)]))]))],
    .ret (.v 3)]⟩
/-- _law_roots -/
def f3 : Fn := ⟨2, 5, [.asg (.nm 2) (.lc false (.v 3) (.nm 3) [3] (.rng1 (.bf .len false [(.v 1)])) (some (.cmp .isntN (.ix (.v 1) (.v 3)) (.c .non)))),
    .ret (.bf .tuple false [(.lc false (.call 10 [(.v 0), (.v 2)]) (.nm 4) [4] (.rng1 (.call 11 [(.v 0), (.lst false [(.c (.int 0)), (.c (.int 1)), (.c (.int 1)), (.c (.int 2)), (.c (.int 3))])])) none)])]⟩
/-- _law_downward -/
def f4 : Fn := ⟨1, 6, [.asg (.nm 1) (.tup []),
    .for_ (.tp [(.nm 2), (.nm 3)]) (.enum (.v 0)) [.asg (.nm 4) (.ite (.cmp .isntN (.v 3) (.c .non)) (.ix (.v 3) (.c (.int 1))) (.tup [])),
    .asg (.nm 1) (.bin .add false (.v 1) (.tup [(.ite (.cmp .isN (.v 3) (.c .non)) (.c .non) (.tup [(.ix (.v 3) (.c (.int 0))), (.bf .tuple false [(.lc false (.v 5) (.nm 5) [5] (.seq (.v 4)) (some (.or (.nt (.isi (.v 5) .int)) (.cmp .lt (.v 5) (.v 2)))))])]))]))],
    .ret (.v 1)]⟩
/-- _law_right -/
def f5 : Fn := ⟨3, 10, [.asg (.tp [(.nm 3), (.nm 4)]) (.tup [(.call 12 [(.v 0), (.v 1), (.v 2)]), (.call 13 [(.v 1), (.v 2), (.c .non)])]),
    .lcs 5 (.lc false (.v 8) (.tp [(.nm 8), (.nm 9)]) [8, 9] (.enum (.v 3)) (some (.an (.cmp .isntN (.v 9) (.c .non)) (.cmp .notin (.v 8) (.v 4))))),
    .iff (.or (.cmp .ne (.call 6 [(.v 1), (.v 2)]) (.v 3)) (.cmp .ne (.call 8 [(.v 1), (.v 2)]) (.v 5))) [.ret (.c (.bl false))] [],
    .iff (.or (.cmp .ne (.lc false (.v 8) (.nm 8) [8] (.seq (.v 4)) (some (.cmp .isN (.ix (.v 3) (.v 8)) (.c .non)))) (.lst false [])) (.cmp .ne (.call 6 [(.v 3), (.v 2)]) (.v 3))) [.ret (.c (.bl false))] [],
    .lcs 6 (.lc false (.v 8) (.nm 8) [8] (.seq (.v 5)) (some (.call 14 [(.v 1), (.v 8)]))),
    .asg (.nm 7) (.call 13 [(.v 1), (.bf .tuple false [(.v 6)]), (.c .non)]),
    .ret (.cmp .eq (.lc false (.v 8) (.nm 8) [8] (.seq (.v 5)) (some (.cmp .notin (.v 8) (.v 7)))) (.lst false []))]⟩
/-- let_go -/
def f6 : Fn := ⟨2, 2, [.ex (.call 15 [(.v 0), (.v 1)]),
    .ret (.call 16 [(.v 0), (.v 1)])]⟩
/-- swept_heap -/
def f7 : Fn := ⟨2, 2, [.ex (.call 15 [(.v 0), (.v 1)]),
    .ret (.call 17 [(.v 0), (.v 1)])]⟩
/-- rings_held -/
def f8 : Fn := ⟨2, 6, [.ex (.call 15 [(.v 0), (.v 1)]),
    .asg (.tp [(.nm 2), (.nm 3)]) (.tup [(.call 18 [(.v 0), (.v 1), (.c .non)]), (.call 16 [(.v 0), (.v 1)])]),
    .ret (.lc false (.v 4) (.tp [(.nm 4), (.nm 5)]) [4, 5] (.enum (.v 3)) (some (.an (.cmp .isntN (.v 5) (.c .non)) (.nt (.ix (.v 2) (.v 4))))))]⟩
/-- _law_roll -/
def f9 : Fn := ⟨2, 4, [.iff (.cmp .gt (.ix (.v 0) (.c (.int 0))) (.c (.int 0))) [.asg (.nm 2) (.bin .mod false (.bf .int false [(.ix (.v 0) (.c (.int 0)))]) (.v 1)),
    .asg (.ix (.v 0) (.c (.int 0))) (.bin .fdiv false (.ix (.v 0) (.c (.int 0))) (.v 1)),
    .ret (.v 2)] [],
    .asg (.ix (.v 0) (.c (.int 1))) (.bin .mod false (.bf .int false [(.bin .add false (.bin .mul false (.ix (.v 0) (.c (.int 1))) (.c (.int 30671))) (.c (.int 7919)))]) (.c (.int 2147483549))),
    .asg (.nm 3) (.bin .mod false (.bf .int false [(.bin .mul false (.ix (.v 0) (.c (.int 1))) (.bin .add false (.ix (.v 0) (.c (.int 1))) (.c (.int 131))))]) (.c (.int 2147483587))),
    .ret (.bin .mod false (.bf .int false [(.bin .fdiv false (.v 3) (.c (.int 709)))]) (.v 1))]⟩
/-- _law_word -/
def f10 : Fn := ⟨2, 3, [.asg (.nm 2) (.call 9 [(.v 0), (.c (.int 8))]),
    .iff (.or (.cmp .eq (.v 2) (.c (.int 0))) (.cmp .eq (.v 1) (.lst false []))) [.ret (.c .non)] [],
    .ret (.ite (.cmp .eq (.v 2) (.c (.int 1))) (.tup [(.c (.str [110, 117, 109])), (.bin .sub false (.call 9 [(.v 0), (.c (.int 9))]) (.c (.int 4)))]) (.call 11 [(.v 0), (.v 1)]))]⟩
/-- _law_some -/
def f11 : Fn := ⟨2, 2, [.ret (.ix (.v 1) (.call 9 [(.v 0), (.bf .len false [(.v 1)])]))]⟩
/-- _law_left -/
def f12 : Fn := ⟨3, 9, [.asg (.nm 3) (.bf .list true [(.v 1)]),
    .for_ (.nm 4) (.rng1 (.bf .len false [(.v 1)])) [.asg (.nm 5) (.call 19 [(.v 2)]),
    .for_ (.nm 6) (.seq (.v 3)) [.asg (.nm 5) (.bin .add false (.v 5) (.call 19 [(.ite (.cmp .isntN (.v 6) (.c .non)) (.ix (.v 6) (.c (.int 1))) (.tup []))]))],
    .lcs 7 (.lc false (.v 8) (.tp [(.nm 8), (.nm 6)]) [8, 6] (.enum (.v 3)) (some (.an (.cmp .isntN (.v 6) (.c .non)) (.cmp .notin (.v 8) (.v 5))))),
    .iff (.cmp .ne (.v 7) (.lst false [])) [.asg (.ix (.v 3) (.call 11 [(.v 0), (.v 7)])) (.c .non)] []],
    .ret (.bf .tuple false [(.v 3)])]⟩
/-- _law_reached -/
def f13 : Fn := ⟨3, 6, [.par [3, 4] [(.lst false []), (.c (.int 0))],
    .for_ (.nm 5) (.seq (.call 19 [(.v 1)])) [.asg (.nm 3) (.bin .add false (.v 3) (.bin .mul false (.lst false [(.v 5)]) (.bf .int false [(.cmp .notin (.v 5) (.v 3))])))],
    .whl (.cmp .lt (.v 4) (.bf .len false [(.v 3)])) [.for_ (.nm 5) (.seq (.ite (.cmp .ne (.ix (.v 3) (.v 4)) (.v 2)) (.call 19 [(.ix (.ix (.v 0) (.ix (.v 3) (.v 4))) (.c (.int 1)))]) (.lst false []))) [.asg (.nm 3) (.bin .add false (.v 3) (.bin .mul false (.lst false [(.v 5)]) (.bf .int false [(.cmp .notin (.v 5) (.v 3))])))],
    .asg (.nm 4) (.bin .add false (.v 4) (.c (.int 1)))],
    .ret (.v 3)]⟩
/-- _law_rung -/
def f14 : Fn := ⟨2, 2, [.ret (.cmp .isin (.v 1) (.call 13 [(.v 0), (.ix (.ix (.v 0) (.v 1)) (.c (.int 1))), (.c .non)]))]⟩
/-- need_roots -/
def f15 : Fn := ⟨2, 2, [.ex (.call 20 [(.v 0)]),
    .iff (.nt (.call 21 [(.v 0), (.v 1)])) [.rai 0] []]⟩
/-- by_counting -/
def f16 : Fn := ⟨2, 8, [.asg (.tp [(.nm 2), (.nm 3)]) (.tup [(.call 22 [(.v 0), (.v 1)]), (.bf .list true [(.v 0)])]),
    .lcs 4 (.lc true (.v 5) (.tp [(.nm 5), (.nm 7)]) [5, 7] (.enum (.v 0)) (some (.an (.cmp .isntN (.v 7) (.c .non)) (.cmp .eq (.ix (.v 2) (.v 5)) (.c (.int 0)))))),
    .whl (.cmp .ne (.v 4) (.lst false [])) [.asg (.nm 5) (.mt .pop (.v 4) []),
    .asg (.ix (.v 3) (.v 5)) (.c .non),
    .for_ (.nm 6) (.seq (.call 23 [(.v 0), (.v 5)])) [.asg (.ix (.v 2) (.v 6)) (.bin .sub false (.ix (.v 2) (.v 6)) (.c (.int 1))),
    .iff (.cmp .eq (.ix (.v 2) (.v 6)) (.c (.int 0))) [.ex (.mt .append (.v 4) [(.v 6)])] []]],
    .ret (.bf .tuple false [(.v 3)])]⟩
/-- by_sweeping -/
def f17 : Fn := ⟨2, 5, [.asg (.nm 2) (.call 18 [(.v 0), (.v 1), (.c .non)]),
    .ret (.bf .tuple false [(.lc false (.ite (.ix (.v 2) (.v 3)) (.v 4) (.c .non)) (.tp [(.nm 3), (.nm 4)]) [3, 4] (.enum (.v 0)) none)])]⟩
/-- marks_reached -/
def f18 : Fn := ⟨3, 6, [.par [3, 4] [(.bin .mul true (.lst false [(.c (.bl false))]) (.bf .len false [(.v 0)])), (.call 24 [(.v 1)])],
    .whl (.cmp .ne (.v 4) (.lst false [])) [.asg (.nm 5) (.mt .pop (.v 4) []),
    .iff (.nt (.ix (.v 3) (.v 5))) [.asg (.ix (.v 3) (.v 5)) (.c (.bl true)),
    .iff (.cmp .ne (.v 5) (.v 2)) [.asg (.nm 4) (.bin .add true (.v 4) (.call 23 [(.v 0), (.v 5)]))] []] []],
    .ret (.v 3)]⟩
/-- _law_led -/
def f19 : Fn := ⟨1, 2, [.ret (.lc false (.v 1) (.nm 1) [1] (.seq (.v 0)) (some (.isi (.v 1) .int)))]⟩
/-- need_heap -/
def f20 : Fn := ⟨1, 1, [.iff (.nt (.call 25 [(.v 0)])) [.rai 1] []]⟩
/-- fits_words -/
def f21 : Fn := ⟨2, 3, [.iff (.or (.nt (.isi (.v 1) .tuple)) (.cmp .gt (.bf .len false [(.v 1)]) (.g 0))) [.ret (.c (.bl false))] [],
    .ret (.bf .all false [(.lc false (.call 26 [(.v 0), (.v 2)]) (.nm 2) [2] (.seq (.v 1)) none)])]⟩
/-- counts_of_cells!m -/
def f22 : Fn := ⟨2, 5, [.asg (.nm 2) (.bin .mul true (.lst false [(.c (.int 0))]) (.bf .len false [(.v 0)])),
    .for_ (.nm 3) (.seq (.call 27 [(.v 1)])) [.asg (.ix (.v 2) (.v 3)) (.bin .add false (.ix (.v 2) (.v 3)) (.c (.int 1)))],
    .for_ (.nm 4) (.seq (.v 0)) [.iff (.cmp .isntN (.v 4) (.c .non)) [.for_ (.nm 3) (.seq (.call 27 [(.ix (.v 4) (.c (.int 1)))])) [.asg (.ix (.v 2) (.v 3)) (.bin .add false (.ix (.v 2) (.v 3)) (.c (.int 1)))]] []],
    .ret (.v 2)]⟩
/-- led_from -/
def f23 : Fn := ⟨2, 2, [.ret (.call 27 [(.ix (.ix (.v 0) (.v 1)) (.c (.int 1)))])]⟩
/-- addresses_in!m -/
def f24 : Fn := ⟨1, 2, [.ret (.lc true (.v 1) (.nm 1) [1] (.seq (.v 0)) (some (.call 28 [(.v 1)])))]⟩
/-- fits_heap -/
def f25 : Fn := ⟨1, 2, [.iff (.or (.nt (.isi (.v 0) .tuple)) (.cmp .gt (.bf .len false [(.v 0)]) (.g 1))) [.ret (.c (.bl false))] [],
    .ret (.bf .all false [(.lc false (.or (.cmp .isN (.v 1) (.c .non)) (.call 29 [(.v 0), (.v 1)])) (.nm 1) [1] (.seq (.v 0)) none)])]⟩
/-- fits_word -/
def f26 : Fn := ⟨2, 2, [.iff (.cmp .isN (.v 1) (.c .non)) [.ret (.c (.bl true))] [],
    .iff (.isi (.v 1) .tuple) [.ret (.an (.cmp .eq (.bf .len false [(.v 1)]) (.c (.int 2))) (.an (.cmp .eq (.ix (.v 1) (.c (.int 0))) (.c (.str [110, 117, 109]))) (.an (.call 28 [(.ix (.v 1) (.c (.int 1)))]) (.cmp .le (.bf .abs false [(.ix (.v 1) (.c (.int 1)))]) (.g 2)))))] [],
    .ret (.an (.call 28 [(.v 1)]) (.an (.ch .le .lt (.c (.int 0)) (.v 1) (.bf .len false [(.v 0)])) (.cmp .isntN (.ix (.v 0) (.v 1)) (.c .non))))]⟩
/-- addresses_in -/
def f27 : Fn := ⟨1, 2, [.ret (.lc false (.v 1) (.nm 1) [1] (.seq (.v 0)) (some (.call 28 [(.v 1)])))]⟩
/-- is_integer -/
def f28 : Fn := ⟨1, 1, [.ret (.an (.isi (.v 0) .int) (.nt (.isi (.v 0) .bool)))]⟩
/-- fits_cell -/
def f29 : Fn := ⟨2, 2, [.iff (.or (.nt (.isi (.v 1) .tuple)) (.or (.cmp .ne (.bf .len false [(.v 1)]) (.c (.int 2))) (.nt (.isi (.ix (.v 1) (.c (.int 0))) .tuple)))) [.ret (.c (.bl false))] [],
    .iff (.or (.cmp .eq (.bf .len false [(.ix (.v 1) (.c (.int 0)))]) (.c (.int 0))) (.nt (.isi (.ix (.ix (.v 1) (.c (.int 0))) (.c (.int 0))) .str))) [.ret (.c (.bl false))] [],
    .ret (.call 21 [(.v 0), (.ix (.v 1) (.c (.int 1)))])]⟩
def fns : List Fn := [f0, f1, f2, f3, f4, f5, f6, f7, f8, f9, f10, f11, f12, f13, f14, f15, f16, f17, f18, f19, f20, f21, f22, f23, f24, f25, f26, f27, f28, f29]
def B : Tab := ⟨([("law" : Str), ("_law_cup" : Str), ("_law_heap" : Str), ("_law_roots" : Str), ("_law_downward" : Str), ("_law_right" : Str), ("let_go" : Str), ("swept_heap" : Str), ("rings_held" : Str), ("_law_roll" : Str), ("_law_word" : Str), ("_law_some" : Str), ("_law_left" : Str), ("_law_reached" : Str), ("_law_rung" : Str), ("need_roots" : Str), ("by_counting" : Str), ("by_sweeping" : Str), ("marks_reached" : Str), ("_law_led" : Str), ("need_heap" : Str), ("fits_words" : Str), ("counts_of_cells" : Str), ("led_from" : Str), ("addresses_in" : Str), ("fits_heap" : Str), ("fits_word" : Str), ("addresses_in" : Str), ("is_integer" : Str), ("fits_cell" : Str)] : List Str), ([("WORDS_MOST" : Str), ("PLACES_MOST" : Str), ("NUMBER_MOST" : Str)] : List Str), ([("InvalidRoots" : Str), ("InvalidHeap" : Str)] : List Str), ([("_law_error" : Str)] : List Str)⟩
def top (i : Nat) : Stmt := PySem.Challenge.pw_nearanswer_k52_whole_cells_let_go_and_ri.main.body.getD i (.Pass ⟨0, 0, 0, 0⟩)
def d0 : DefC := ⟨("law" : Str), top 46, ([("_law_script" : Str), ("_law_cup_here" : Str), ("_law_turn" : Str), ("_law_heap_here" : Str), ("_law_roots_here" : Str), ("_law_down" : Str), ("_law_odd" : Str), ("_law_g" : Str), ("_law_h" : Str)] : List Str), f0⟩
def d1 : DefC := ⟨("_law_cup" : Str), top 32, ([("_law_script" : Str), ("_law_cell" : Str), ("_law_great" : Str)] : List Str), f1⟩
def d2 : DefC := ⟨("_law_heap" : Str), top 38, ([("_law_cup_here" : Str), ("_law_free" : Str), ("_law_addresses" : Str), ("_law_cells" : Str), ("_law_gone_so" : Str), ("_law_words_so" : Str), ("_law_place" : Str), ("_law_turn" : Str)] : List Str), f2⟩
def d3 : DefC := ⟨("_law_roots" : Str), top 39, ([("_law_cup_here" : Str), ("_law_heap_here" : Str), ("_law_addresses" : Str), ("_law_place" : Str), ("_law_turn" : Str)] : List Str), f3⟩
def d4 : DefC := ⟨("_law_downward" : Str), top 45, ([("_law_heap_here" : Str), ("_law_cells" : Str), ("_law_at" : Str), ("_law_cell" : Str), ("_law_words_so" : Str), ("_law_word_here" : Str)] : List Str), f4⟩
def d5 : DefC := ⟨("_law_right" : Str), top 44, ([("_law_cup_here" : Str), ("_law_heap_here" : Str), ("_law_roots_here" : Str), ("_law_left_here" : Str), ("_law_order" : Str), ("_law_stay" : Str), ("_law_rung_here" : Str), ("_law_met" : Str), ("_law_at" : Str), ("_law_cell" : Str)] : List Str), f5⟩
def d6 : DefC := ⟨("let_go" : Str), top 29, ([("heap" : Str), ("roots" : Str)] : List Str), f6⟩
def d7 : DefC := ⟨("swept_heap" : Str), top 28, ([("heap" : Str), ("roots" : Str)] : List Str), f7⟩
def d8 : DefC := ⟨("rings_held" : Str), top 30, ([("heap" : Str), ("roots" : Str), ("marks" : Str), ("left" : Str), ("address" : Str), ("cell" : Str)] : List Str), f8⟩
def d9 : DefC := ⟨("_law_roll" : Str), top 33, ([("_law_cup_here" : Str), ("_law_many" : Str), ("_law_found" : Str), ("_law_deep" : Str)] : List Str), f9⟩
def d10 : DefC := ⟨("_law_word" : Str), top 37, ([("_law_cup_here" : Str), ("_law_addresses" : Str), ("_law_way" : Str)] : List Str), f10⟩
def d11 : DefC := ⟨("_law_some" : Str), top 34, ([("_law_cup_here" : Str), ("_law_things" : Str)] : List Str), f11⟩
def d12 : DefC := ⟨("_law_left" : Str), top 42, ([("_law_cup_here" : Str), ("_law_heap_here" : Str), ("_law_roots_here" : Str), ("_law_left_here" : Str), ("_law_turn" : Str), ("_law_every" : Str), ("_law_cell" : Str), ("_law_some_here" : Str), ("_law_at" : Str)] : List Str), f12⟩
def d13 : DefC := ⟨("_law_reached" : Str), top 41, ([("_law_heap_here" : Str), ("_law_roots_here" : Str), ("_law_barred" : Str), ("_law_found" : Str), ("_law_at" : Str), ("_law_word_here" : Str)] : List Str), f13⟩
def d14 : DefC := ⟨("_law_rung" : Str), top 43, ([("_law_heap_here" : Str), ("_law_at" : Str)] : List Str), f14⟩
def d15 : DefC := ⟨("need_roots" : Str), top 20, ([("heap" : Str), ("roots" : Str)] : List Str), f15⟩
def d16 : DefC := ⟨("by_counting" : Str), top 27, ([("heap" : Str), ("roots" : Str), ("counts" : Str), ("left" : Str), ("line" : Str), ("address" : Str), ("other" : Str), ("cell" : Str)] : List Str), f16⟩
def d17 : DefC := ⟨("by_sweeping" : Str), top 26, ([("heap" : Str), ("roots" : Str), ("marks" : Str), ("address" : Str), ("cell" : Str)] : List Str), f17⟩
def d18 : DefC := ⟨("marks_reached" : Str), top 23, ([("heap" : Str), ("roots" : Str), ("barred" : Str), ("marks" : Str), ("line" : Str), ("address" : Str)] : List Str), f18⟩
def d19 : DefC := ⟨("_law_led" : Str), top 40, ([("_law_words_so" : Str), ("_law_word_here" : Str)] : List Str), f19⟩
def d20 : DefC := ⟨("need_heap" : Str), top 19, ([("heap" : Str)] : List Str), f20⟩
def d21 : DefC := ⟨("fits_words" : Str), top 16, ([("heap" : Str), ("value" : Str), ("word" : Str)] : List Str), f21⟩
def d22 : DefC := ⟨("counts_of_cells" : Str), top 24, ([("heap" : Str), ("roots" : Str), ("counts" : Str), ("address" : Str), ("cell" : Str)] : List Str), f22⟩
def d23 : DefC := ⟨("led_from" : Str), top 22, ([("heap" : Str), ("address" : Str)] : List Str), f23⟩
def d24 : DefC := ⟨("addresses_in" : Str), top 21, ([("words" : Str), ("word" : Str)] : List Str), f24⟩
def d25 : DefC := ⟨("fits_heap" : Str), top 18, ([("value" : Str), ("cell" : Str)] : List Str), f25⟩
def d26 : DefC := ⟨("fits_word" : Str), top 15, ([("heap" : Str), ("value" : Str)] : List Str), f26⟩
def d27 : DefC := ⟨("addresses_in" : Str), top 21, ([("words" : Str), ("word" : Str)] : List Str), f27⟩
def d28 : DefC := ⟨("is_integer" : Str), top 14, ([("value" : Str)] : List Str), f28⟩
def d29 : DefC := ⟨("fits_cell" : Str), top 17, ([("heap" : Str), ("value" : Str)] : List Str), f29⟩
def dl : List DefC := [d0, d1, d2, d3, d4, d5, d6, d7, d8, d9, d10, d11, d12, d13, d14, d15, d16, d17, d18, d19, d20, d21, d22, d23, d24, d25, d26, d27, d28, d29]
def loose : List Str := ([("NearError" : Str), ("InvalidTree" : Str), ("InvalidProgram" : Str), ("InvalidNumber" : Str), ("InvalidHeap" : Str), ("InvalidRoots" : Str), ("InvalidAddress" : Str), ("InvalidClearing" : Str), ("TooMany" : Str), ("PLACES_MOST" : Str), ("WORDS_MOST" : Str), ("NUMBER_MOST" : Str), ("is_integer" : Str), ("fits_word" : Str), ("fits_words" : Str), ("fits_cell" : Str), ("fits_heap" : Str), ("need_heap" : Str), ("need_roots" : Str), ("addresses_in" : Str)] : List Str) ++ ([("led_from" : Str), ("marks_reached" : Str), ("counts_of_cells" : Str), ("by_sweeping" : Str), ("by_counting" : Str), ("swept_heap" : Str), ("let_go" : Str), ("rings_held" : Str), ("_law_cup" : Str), ("_law_roll" : Str), ("_law_some" : Str), ("_law_names" : Str), ("_law_error" : Str), ("_law_word" : Str), ("_law_heap" : Str), ("_law_roots" : Str), ("_law_led" : Str), ("_law_reached" : Str), ("_law_left" : Str), ("_law_rung" : Str)] : List Str) ++ ([("_law_right" : Str), ("_law_downward" : Str)] : List Str)
def mkD (d : DefC) : He.DefD := ⟨(d.nm, none), d.nm, d.nm, defArgs d.st, defBody d.st, defScope d.st, [], []⟩
def nN : List Str := [("_law_e" : Str), ("_law_some_here" : Str), ("_law_labels" : Str), ("_law_label" : Str), ("_law_good" : Str)]
def dN : DefC := ⟨("_law_names" : Str), top 35, nN, ⟨1, 5, []⟩⟩
def dE : DefC := ⟨("_law_error" : Str), top 36, [("_law_call" : Str), ("_law_e" : Str)], ⟨1, 2, []⟩⟩
def fn : List He.DefD := (dl ++ [dN, dE]).map mkD
def gn : List Str := (dl ++ [dN, dE]).map (·.nm) ++ ([("NearError" : Str), ("InvalidTree" : Str), ("InvalidProgram" : Str), ("InvalidNumber" : Str), ("InvalidHeap" : Str), ("InvalidRoots" : Str), ("InvalidAddress" : Str), ("InvalidClearing" : Str), ("TooMany" : Str)] : List Str)
def fr : List Str := bltNames ++ [("ValueError" : Str)]
def cs : List (Str × Int) := ([(("WORDS_MOST" : Str), 12), (("PLACES_MOST" : Str), 1000), (("NUMBER_MOST" : Str), 1000000000000)] : List (Str × Int))
def fa : List He.Fa := gn.map .glo ++ (fr.map .free ++ (cs.map (fun p => .int p.1 p.2) ++ (B.cnm.map .exc ++ B.cnm.map fun x => .exm x "NearError" true)))
def tests : List Str := ([("InvalidHeap" : Str), ("InvalidRoots" : Str), ("InvalidAddress" : Str), ("InvalidClearing" : Str), ("InvalidTree" : Str), ("InvalidProgram" : Str), ("InvalidNumber" : Str), ("TooMany" : Str)] : List Str)
def bt (x c : Str) : Bool := decide (x = c) || decide (c = "ValueError")
def excB (K : PySem.W.Frag) (D : Addr) : Bool := He.eqO (PySem.W.findIn K (.ref D) "__getattribute__") (some (some (.builtin "BaseException.__getattribute__"))) && (He.eqO (PySem.W.findIn K (.ref D) "__getattr__") (some none) && (decide (PySem.W.subIn K (.ref D) (.type "BaseException") = some true) && (PySem.W.hasDictIn K D &&
  (He.eqO (PySem.W.findIn K (.ref D) "__class__") (some (some (.builtin "object.__class__"))) && (He.eqO (PySem.W.specialIn K (.builtin "object.__class__") "__get__") (some (some (.builtin "getset_descriptor.__get__"))) && (decide (PySem.W.takesIn K (.builtin "object.__class__") = some true) && decide (PySem.W.mroIn K D (.type "object") = some true)))))))
theorem excB_ok {K : PySem.W.Frag} {D : Addr} (h : excB K D = true) : ExcC K D := by
  simp only [excB, Bool.and_eq_true, decide_eq_true_eq] at h
  obtain ⟨h1, h2, h3, h4, h5, h6, h7, h8⟩ := h
  exact ⟨He.eqO_ok h1, He.eqO_ok h2, h3, h4, He.eqO_ok h5, He.eqO_ok h6, h7, h8⟩
def ex (K : PySem.W.Frag) : Bool := B.cnm.all fun x => excB K (He.ga K x) && ((tests.all fun y => decide (PySem.W.kitOne K (.ref (He.ga K x)) (.ref (He.ga K y)) = some (bt x y))) && decide (PySem.W.kitOne K (.ref (He.ga K x)) (.type "ValueError") = some (bt x "ValueError")))
abbrev R : PySem.W.OpenRow := PySem.W.OpenLaw.row PySem.Challenge.rw_nearanswer_k52_whole_cells_let_go_and_ri
abbrev hk : PySem.W.Hook := He.hookX 5 fa fn [] tfL ex
def ob (s : PySem.W.SharedT) : He.AlX := He.obsX 5 fa fn [] tfL ex (HandSHeadRun.getT s)
theorem ob_eq (s : PySem.W.SharedT) : ob s = hk.obs s.abs := He.obsX_eq (HandSHeadRun.getT_eq s)
theorem run (w : World) : HandSHeadRun.RunEq R (PySem.W.view R.prog [46]) hk ob 20000 loose w := by
  intro os
  kernel_rfl
def tN : NmT := ⟨([("InvalidHeap" : Str), ("InvalidRoots" : Str), ("InvalidAddress" : Str), ("InvalidClearing" : Str)] : List Str), ([("InvalidTree" : Str), ("InvalidProgram" : Str), ("InvalidNumber" : Str)] : List Str), ([("TooMany" : Str), ("ValueError" : Str)] : List Str), ("heap roots address clearing tree program number many value" : Str), (" " : Str)⟩
theorem ok_dl : dl.all (DefC.ok B) = true := by kernel_rfl
theorem ok_N : okNm (defScope dN.st) nN (defBody dN.st) tN = true := by kernel_rfl
theorem sc_N : scB nN [("_law_e" : Str)] (defScope dN.st) = true := by kernel_rfl
theorem ok_E : okCa (defScope dE.st) "_law_call" "_law_e" "NearError" "_law_names" (defBody dE.st) = true := by kernel_rfl
theorem sc_E : scB [("_law_call" : Str), ("_law_e" : Str)] [("_law_call" : Str)] (defScope dE.st) = true := by kernel_rfl
def Bd (d : DefC) : Prop := ∀ (kV doc pm : Value) (an : Option Addr) (cdv ct : Value) (us : List Value), us.length = d.ps.length → bindArgs (PySem.W.fnOf d.nm d.nm (defArgs d.st) (defBody d.st) (defScope d.st) .none kV doc pm an cdv ct) ⟨us, []⟩ = pure (d.ps.zip us)
theorem bd0 : Bd d0 := fun _ _ _ _ _ _ us hl => match us, hl with | [_], _ => rfl
theorem bd1 : Bd d1 := fun _ _ _ _ _ _ us hl => match us, hl with | [_], _ => rfl
theorem bd2 : Bd d2 := fun _ _ _ _ _ _ us hl => match us, hl with | [_], _ => rfl
theorem bd3 : Bd d3 := fun _ _ _ _ _ _ us hl => match us, hl with | [_, _], _ => rfl
theorem bd4 : Bd d4 := fun _ _ _ _ _ _ us hl => match us, hl with | [_], _ => rfl
theorem bd5 : Bd d5 := fun _ _ _ _ _ _ us hl => match us, hl with | [_, _, _], _ => rfl
theorem bd6 : Bd d6 := fun _ _ _ _ _ _ us hl => match us, hl with | [_, _], _ => rfl
theorem bd7 : Bd d7 := fun _ _ _ _ _ _ us hl => match us, hl with | [_, _], _ => rfl
theorem bd8 : Bd d8 := fun _ _ _ _ _ _ us hl => match us, hl with | [_, _], _ => rfl
theorem bd9 : Bd d9 := fun _ _ _ _ _ _ us hl => match us, hl with | [_, _], _ => rfl
theorem bd10 : Bd d10 := fun _ _ _ _ _ _ us hl => match us, hl with | [_, _], _ => rfl
theorem bd11 : Bd d11 := fun _ _ _ _ _ _ us hl => match us, hl with | [_, _], _ => rfl
theorem bd12 : Bd d12 := fun _ _ _ _ _ _ us hl => match us, hl with | [_, _, _], _ => rfl
theorem bd13 : Bd d13 := fun _ _ _ _ _ _ us hl => match us, hl with | [_, _, _], _ => rfl
theorem bd14 : Bd d14 := fun _ _ _ _ _ _ us hl => match us, hl with | [_, _], _ => rfl
theorem bd15 : Bd d15 := fun _ _ _ _ _ _ us hl => match us, hl with | [_, _], _ => rfl
theorem bd16 : Bd d16 := fun _ _ _ _ _ _ us hl => match us, hl with | [_, _], _ => rfl
theorem bd17 : Bd d17 := fun _ _ _ _ _ _ us hl => match us, hl with | [_, _], _ => rfl
theorem bd18 : Bd d18 := fun _ _ _ _ _ _ us hl => match us, hl with | [_, _, _], _ => rfl
theorem bd19 : Bd d19 := fun _ _ _ _ _ _ us hl => match us, hl with | [_], _ => rfl
theorem bd20 : Bd d20 := fun _ _ _ _ _ _ us hl => match us, hl with | [_], _ => rfl
theorem bd21 : Bd d21 := fun _ _ _ _ _ _ us hl => match us, hl with | [_, _], _ => rfl
theorem bd22 : Bd d22 := fun _ _ _ _ _ _ us hl => match us, hl with | [_, _], _ => rfl
theorem bd23 : Bd d23 := fun _ _ _ _ _ _ us hl => match us, hl with | [_, _], _ => rfl
theorem bd24 : Bd d24 := fun _ _ _ _ _ _ us hl => match us, hl with | [_], _ => rfl
theorem bd25 : Bd d25 := fun _ _ _ _ _ _ us hl => match us, hl with | [_], _ => rfl
theorem bd26 : Bd d26 := fun _ _ _ _ _ _ us hl => match us, hl with | [_, _], _ => rfl
theorem bd27 : Bd d27 := fun _ _ _ _ _ _ us hl => match us, hl with | [_], _ => rfl
theorem bd28 : Bd d28 := fun _ _ _ _ _ _ us hl => match us, hl with | [_], _ => rfl
theorem bd29 : Bd d29 := fun _ _ _ _ _ _ us hl => match us, hl with | [_, _], _ => rfl
theorem bdN : Bd dN := fun _ _ _ _ _ _ us hl => match us, hl with | [_], _ => rfl
theorem bdE : Bd dE := fun _ _ _ _ _ _ us hl => match us, hl with | [_], _ => rfl
theorem bd : ∀ d ∈ dl, Bd d := by
  intro d hd
  simp only [dl, List.mem_cons, List.not_mem_nil, or_false] at hd
  rcases hd with rfl | rfl | rfl | rfl | rfl | rfl | rfl | rfl | rfl | rfl | rfl | rfl | rfl | rfl | rfl | rfl | rfl | rfl | rfl | rfl | rfl | rfl | rfl | rfl | rfl | rfl | rfl | rfl | rfl | rfl
  · exact bd0
  · exact bd1
  · exact bd2
  · exact bd3
  · exact bd4
  · exact bd5
  · exact bd6
  · exact bd7
  · exact bd8
  · exact bd9
  · exact bd10
  · exact bd11
  · exact bd12
  · exact bd13
  · exact bd14
  · exact bd15
  · exact bd16
  · exact bd17
  · exact bd18
  · exact bd19
  · exact bd20
  · exact bd21
  · exact bd22
  · exact bd23
  · exact bd24
  · exact bd25
  · exact bd26
  · exact bd27
  · exact bd28
  · exact bd29
def lmE : Lm := ⟨some (.str []), fun k _ => (B.cnm[k]?).map fun x => .str (nmTxt tN (bt x)).cps.toList⟩
def P : Pg := ⟨fns, cs.map fun p => .int p.2, [lmE]⟩
theorem nm_eq : B.fnm = dl.map (·.nm) := by kernel_rfl
theorem fn_eq : P.fns = dl.map (·.fn) := rfl
theorem gn_eq : B.gnm = cs.map (·.1) := by kernel_rfl
theorem cn_sub : (B.cnm.all fun x => gn.contains x) = true := by kernel_rfl
theorem tests_sub : (tests.all fun x => gn.contains x) = true := by kernel_rfl
theorem ne_sub : gn.contains "NearError" = true := by kernel_rfl
theorem t_in : ((tN.c1 ++ tN.c2 ++ tN.c3).all fun x => tests.contains x || decide (x = "ValueError")) = true := by kernel_rfl
theorem nm_ok : (B.cnm.all fun x => nmOk tN (bt x)) = true := by kernel_rfl
theorem tf_one : (tfL.all fun d => tfL.all fun d' => decide (d = d')) = true := by kernel_rfl
section
variable {w : World} {K : PySem.W.Frag} {h : Heap} {mg : Str → Option Value} (X : K.In h) (G : h.Ns mainGlobals mg) (c : He.SaysX fa fn [] tfL ex w h K)
include X G c
theorem f_glo {x : Str} (hx : x ∈ gn) : mg x = some (.ref (He.ga K x)) := He.glo_ok X G (c.t.d.facts (List.mem_append_left _ (List.mem_map.mpr ⟨x, hx, rfl⟩)))
theorem f_free {x : Str} (hx : x ∈ fr) : mg x = none := He.free_ok X G (c.t.d.facts (List.mem_append_right _ (List.mem_append_left _ (List.mem_map.mpr ⟨x, hx, rfl⟩))))
theorem f_int {p : Str × Int} (hx : p ∈ cs) : ∃ t, mg p.1 = some (.int p.2 t) := He.int_ok X G (c.t.d.facts (List.mem_append_right _ (List.mem_append_right _ (List.mem_append_left _ (List.mem_map.mpr ⟨p, hx, rfl⟩)))))
omit X G in
theorem f_exc {x : Str} (hx : x ∈ B.cnm) : (He.Fa.exc x).ok K = true := c.t.d.facts (List.mem_append_right _ (List.mem_append_right _ (List.mem_append_right _ (List.mem_append_left _ (List.mem_map.mpr ⟨x, hx, rfl⟩)))))
omit X G in
theorem f_exm {x : Str} (hx : x ∈ B.cnm) : (He.Fa.exm x "NearError" true).ok K = true := c.t.d.facts (List.mem_append_right _ (List.mem_append_right _ (List.mem_append_right _ (List.mem_append_right _ (List.mem_map.mpr ⟨x, hx, rfl⟩)))))
omit X G in
theorem f_def {d : DefC} (hd : d ∈ dl ++ [dN, dE]) : ∃ fd, FunD K d.nm d.nm (defArgs d.st) (defBody d.st) (defScope d.st) [] [] (He.ga K d.nm) fd := c.t.d.defs (d := mkD d) (List.mem_map.mpr ⟨d, hd, rfl⟩)
theorem f_mg {d : DefC} (hd : d ∈ dl ++ [dN, dE]) : mg d.nm = some (.ref (He.ga K d.nm)) := f_glo X G c (List.mem_append_left _ (List.mem_map.mpr ⟨d, hd, rfl⟩))
theorem cn_mem {x : Str} (hx : x ∈ B.cnm) : mg x = some (.ref (He.ga K x)) := f_glo X G c (by simpa using List.all_eq_true.mp cn_sub x hx)
theorem modOk {prog : Program} {base : Heap} (hTB : ∀ p ∈ tfL, LamX.TabB base mg (He.cT K p).1 (He.cT K p).2) : ModOk P B prog w K mg base where
  bf := fun x hx => f_free X G c (List.mem_append_left _ hx)
  gl := fun i x hi => by
    rw [gn_eq, List.getElem?_map] at hi
    obtain ⟨p, hp, rfl⟩ := Option.map_eq_some_iff.mp hi
    obtain ⟨t, e⟩ := f_int X G c (List.mem_of_getElem? hp)
    exact ⟨_, .int p.2, .int p.2, e, ⟨t, rfl⟩, by show (cs.map fun p => D.int p.2)[i]? = _; rw [List.getElem?_map, hp]; rfl, fun _ _ => rfl⟩
  fn := fun f x hf => by
    rw [nm_eq, List.getElem?_map] at hf
    obtain ⟨d, hd, rfl⟩ := Option.map_eq_some_iff.mp hf
    have hm := List.mem_of_getElem? hd
    have hm2 : d ∈ dl ++ [dN, dE] := List.mem_append_left _ hm
    obtain ⟨fd, F⟩ := f_def c hm2
    exact ⟨d, fd, rfl, by rw [fn_eq, List.getElem?_map, hd]; rfl, List.all_eq_true.mp ok_dl d hm, F, f_mg X G c hm2, F.bindsN (bd d hm)⟩
  cl := fun k x hk => by
    have hm := List.mem_of_getElem? hk
    obtain ⟨h1, h2, h3, h4⟩ := He.exc_ok (f_exc c hm)
    exact ⟨cn_mem X G c hm, h2, h1, h3, h4⟩
  lm := fun k x hk => by
    have hk0 : k = 0 ∧ x = "_law_error" := by
      have z : ([("_law_error" : Str)] : List Str)[k]? = some x := hk
      cases k with
      | zero => cases z; exact ⟨rfl, rfl⟩
      | succ k => simp at z
    obtain ⟨rfl, rfl⟩ := hk0
    refine ⟨lmE, rfl, ?_⟩
    have mE : dE ∈ dl ++ [dN, dE] := by simp
    have mN : dN ∈ dl ++ [dN, dE] := by simp
    obtain ⟨fdE, FE⟩ := f_def c mE
    obtain ⟨fdN, FN⟩ := f_def c mN
    have hex := List.all_eq_true.mp c.more
    have FnN : FnP prog w K mg base 1 (He.ga K dN.nm) fdN [("_law_e" : Str)] (spNm K B.cnm tN bt) := by
      refine names_fn FN (scB_ok sc_N) ok_N (fun nm hn => ?_) (fun nm hn cc hc => ?_) (fun nm hn => List.all_eq_true.mp nm_ok nm hn) (f_free X G c (by decide +kernel)) (f_free X G c (by decide +kernel))
      · have := hex nm hn
        simp only [Bool.and_eq_true] at this
        exact excB_ok this.1
      · have := hex nm hn
        simp only [Bool.and_eq_true, decide_eq_true_eq] at this
        have hcc := List.all_eq_true.mp t_in cc (by simp only [List.mem_append]; rcases hc with z | z | z; exact .inl (.inl z); exact .inl (.inr z); exact .inr z)
        simp only [Bool.or_eq_true, decide_eq_true_eq] at hcc
        rcases hcc with z | z
        · have z' : cc ∈ tests := by simpa using z
          exact .inl ⟨_, f_glo X G c (by simpa using List.all_eq_true.mp tests_sub cc z'), of_decide_eq_true (List.all_eq_true.mp this.2.1 cc z')⟩
        · subst z
          exact .inr ⟨"ValueError", f_free X G c (by decide +kernel), by decide +kernel, this.2.2⟩
    have bN : Binds K fdN [("_law_e" : Str)] [] := FN.bindsN bdN
    have bE : Binds K fdE [("_law_call" : Str)] [] := FE.bindsN bdE
    have kN := FN.kp
    have kE := FE.kp
    obtain ⟨oc, od, dV, kV, doc, pm, an, cdv, ct, osl, e1, lk, hcd, _, _⟩ := FE.ex
    subst e1
    exact ⟨He.ga K dE.nm, "_law_call", defArgs dE.st, defBody dE.st, defScope dE.st, dV, kV, doc, pm, cdv, ct, oc, an, od, osl, [("_law_call" : Str), ("_law_e" : Str)], f_mg X G c mE, kE, lk, hcd, bE, scB_ok sc_E, rfl, by decide +kernel, by decide +kernel, by exact .inl (by decide +kernel),
      catch_gives ok_E (by decide +kernel) FnN (f_mg X G c mN) kN bN (f_glo X G c (by simpa using ne_sub)) (fun nm hn => He.exm_ok (f_exm c hn)) rfl fun k nm hk => ⟨(nmTxt tN (bt nm)).cps.toList, by show (B.cnm[k]?).map _ = _; rw [hk]; rfl, by simp⟩⟩
  tb := hTB
  tu := fun d hd d' hd' _ => of_decide_eq_true (List.all_eq_true.mp (List.all_eq_true.mp tf_one d hd) d' hd')
end
/-- the plain law -/
def Plain : Prop := ∀ ns : List Int, ns.length ≤ 63 → (∀ z ∈ ns, Builtin.Int.intBits z ≤ 1048576) → ∃ m S, fnD (evN P m) 60 d0.fn [.frz (ns.map D.int)] [] = .ok (.bl true) S
end Kd
open PySem PySem.W PySem.Calls PyProof.Rows
theorem Kd.holds (law : Kd.Plain) : PySem.Challenge.rw_nearanswer_k52_whole_cells_let_go_and_ri.Holds := by
  w_on; o_law
  refine HandSHeadRun.head_any (r := OpenLaw.row PySem.Challenge.rw_nearanswer_k52_whole_cells_let_go_and_ri) (q := view (OpenLaw.row PySem.Challenge.rw_nearanswer_k52_whole_cells_let_go_and_ri).prog [46]) (H := Kd.hk) (ob := Kd.ob) (M := 20000) (loose := Kd.loose) (d := HandSHeadRun.topDef (OpenLaw.row PySem.Challenge.rw_nearanswer_k52_whole_cells_let_go_and_ri).prog 46) (kwd := []) Kd.ob_eq
    (by kernel_rfl) (fun s => by kernel_rfl) Kd.run (by kernel_rfl) (by kernel_rfl) (by kernel_rfl) (by rfl) (by first | assumption | decide +kernel) (by decide +kernel) ⟨rfl, rfl, rfl, rfl, rfl, by decide +kernel⟩ ?hw ?hc
  case hw => w_witness2
  case hc =>
    refine Nv.walk_TE (l := PySem.Challenge.rw_nearanswer_k52_whole_cells_let_go_and_ri) (n := 63) (k := 61) (x := "_law_script") (CX := fun w => L2N.CX (PySem.Challenge.rw_nearanswer_k52_whole_cells_let_go_and_ri).prog w) rfl (by decide) (by kernel_rfl) ⟨rfl, by decide, by decide⟩ ?F (fun _ _ _ _ _ ⟨_, _, _, _, _, _, _, _, _, _, _, _, z⟩ => z)
    intro w mg fa h Y G hmg0
    obtain ⟨K, KX, c⟩ := Y
    have md : Kd.d0 ∈ Kd.dl ++ [Kd.dN, Kd.dE] := List.mem_append_left _ List.mem_cons_self
    have hmg : mg Kd.d0.nm = some (.ref fa) := hmg0
    have e := hmg.symm.trans (Kd.f_mg KX G c md)
    cases e
    obtain ⟨fd, F⟩ := Kd.f_def c md
    refine ⟨K, KX, Nv.law_at (d := Kd.d0) (P := Kd.P) (B := Kd.B) (b := 60) (f := 0) (by kernel_rfl) rfl (List.all_eq_true.mp Kd.ok_dl _ List.mem_cons_self) rfl F (fun s u => L2.FunD.bindsA F Kd.bd0 s [u] rfl) (fun p hp => PySem.W.codeHd_of_K KX (c.hd p hp)) c.out c.empty (fun base hK hN hTB => Kd.modOk KX G c hTB) law⟩


end

section
set_option linter.all false
set_option maxRecDepth 100000
set_option maxHeartbeats 4000000
namespace Kp
open Nv
open Kd (f0 f1 f2 f3 f4 f5 f6 f7 f8 f9 f10 f11 f12 f13 f14 f15 f16 f17 f18 f19 f20 f21 f22 f23 f24 f25 f26 f27 f28 f29 fns)

def lmP : Lm := ⟨some (.str []), fun k _ => match k with
  | 0 => some (.str [114, 111, 111, 116, 115, 32, 118, 97, 108, 117, 101])
  | 1 => some (.str [104, 101, 97, 112, 32, 118, 97, 108, 117, 101])
  | _ => none⟩
def P : Pg := ⟨fns, [.int 12, .int 1000, .int 1000000000000], [lmP]⟩
theorem pf0 : P.fns[0]? = some f0 := rfl
theorem pf1 : P.fns[1]? = some f1 := rfl
theorem pf2 : P.fns[2]? = some f2 := rfl
theorem pf3 : P.fns[3]? = some f3 := rfl
theorem pf4 : P.fns[4]? = some f4 := rfl
theorem pf5 : P.fns[5]? = some f5 := rfl
theorem pf6 : P.fns[6]? = some f6 := rfl
theorem pf7 : P.fns[7]? = some f7 := rfl
theorem pf8 : P.fns[8]? = some f8 := rfl
theorem pf9 : P.fns[9]? = some f9 := rfl
theorem pf10 : P.fns[10]? = some f10 := rfl
theorem pf11 : P.fns[11]? = some f11 := rfl
theorem pf12 : P.fns[12]? = some f12 := rfl
theorem pf13 : P.fns[13]? = some f13 := rfl
theorem pf14 : P.fns[14]? = some f14 := rfl
theorem pf15 : P.fns[15]? = some f15 := rfl
theorem pf16 : P.fns[16]? = some f16 := rfl
theorem pf17 : P.fns[17]? = some f17 := rfl
theorem pf18 : P.fns[18]? = some f18 := rfl
theorem pf19 : P.fns[19]? = some f19 := rfl
theorem pf20 : P.fns[20]? = some f20 := rfl
theorem pf21 : P.fns[21]? = some f21 := rfl
theorem pf22 : P.fns[22]? = some f22 := rfl
theorem pf23 : P.fns[23]? = some f23 := rfl
theorem pf24 : P.fns[24]? = some f24 := rfl
theorem pf25 : P.fns[25]? = some f25 := rfl
theorem pf26 : P.fns[26]? = some f26 := rfl
theorem pf27 : P.fns[27]? = some f27 := rfl
theorem pf28 : P.fns[28]? = some f28 := rfl
theorem pf29 : P.fns[29]? = some f29 := rfl
theorem pg0 : P.glb[0]? = some (.int 12) := rfl
theorem pg1 : P.glb[1]? = some (.int 1000) := rfl
theorem pg2 : P.glb[2]? = some (.int 1000000000000) := rfl
theorem plm0 : P.lms[0]? = some lmP := rfl
theorem bind_ok {α β : Type} {a : α} {S : Sto} {f : α → Sto → R β} : (R.ok a S).bind f = f a S := rfl
theorem bind_ex {α β : Type} {x : Xc} {S : Sto} {f : α → Sto → R β} : (R.ex (α := α) x S).bind f = .ex x S := rfl
theorem bind_no {α β : Type} {f : α → Sto → R β} : (R.no (α := α)).bind f = .no := rfl
theorem eE_lc {b : Nat} {m : Bool} {e : E} {t : T} {own : List Nat} {i : I} {ifs : Option E} {sl : Sl} {S : Sto} : stE P (evW P) b (.lc m e t own i ifs) sl S = (itD (fun e S => (evW P).e b e sl S) i S).bind fun w S1 =>
    (nox (lcL w.gd (fun d S => setT ((evW P).e b) 9 t d (wipeD sl own) S) (fun sl S => ifsD ((evW P).t b) ifs sl S) (fun sl S => (evW P).e b e sl S) w.ds [] S1)).bind fun ys S2 => newL m ys S2 := rfl
theorem eS_for {b : Nat} {t : T} {i : I} {bd : List Nv.S} {sl : Sl} {S : Sto} : stS P (evW P) b (.for_ t i bd) sl S = (itD (fun e S => (evW P).e b e sl S) i S).bind fun w S1 => forL w.gd (fun d sl S => setT ((evW P).e b) 9 t d sl S) (fun sl S => evSs ((evW P).s b) bd sl S) w.ds sl S1 := rfl
theorem eS_whl {b : Nat} {c : E} {bd : List Nv.S} {sl : Sl} {S : Sto} : stS P (evW P) b (.whl c bd) sl S = ((evW P).t b c sl S).bind fun k S1 => match k with
    | true => (evSs ((evW P).s b) bd sl S1).bind fun f S2 => match f with
      | .nx sl2 => (evW P).s b (.whl c bd) sl2 S2
      | .bk sl2 => .ok (.nx sl2) S2
      | .rt x => .ok (.rt x) S2
    | false => .ok (.nx sl) S1 := rfl
/-- a while by its invariant and a number that falls -/
theorem whl_inv {b : Nat} {c : E} {bd : List Nv.S} {I Q : Sl → Sto → Prop} {μ : Sl → Sto → Nat} (h : ∀ sl S, I sl S → ∃ k S1, (evW P).t b c sl S = .ok k S1 ∧ (k = true → ∃ sl2 S2, evSs ((evW P).s b) bd sl S1 = .ok (.nx sl2) S2 ∧ I sl2 S2 ∧ μ sl2 S2 < μ sl S) ∧ (k = false → Q sl S1)) :
    ∀ (n : Nat) (sl : Sl) (S : Sto), μ sl S ≤ n → I sl S → ∃ sl' S', stS P (evW P) b (.whl c bd) sl S = .ok (.nx sl') S' ∧ Q sl' S' := by
  intro n
  induction n with
  | zero =>
    intro sl S hm i
    obtain ⟨k, S1, e, ht, hf⟩ := h sl S i
    cases k with
    | true =>
      obtain ⟨sl2, S2, _, _, z⟩ := ht rfl
      omega
    | false => exact ⟨sl, S1, by rw [eS_whl, e]; rfl, hf rfl⟩
  | succ n ih =>
    intro sl S hm i
    obtain ⟨k, S1, e, ht, hf⟩ := h sl S i
    cases k with
    | true =>
      obtain ⟨sl2, S2, e2, i2, z⟩ := ht rfl
      obtain ⟨sl', S', e3, q⟩ := ih sl2 S2 (by omega) i2
      refine ⟨sl', S', ?_, q⟩
      rw [eS_whl, e, bind_ok]
      simp only [e2, bind_ok, evW_s]
      exact e3
    | false => exact ⟨sl, S1, by rw [eS_whl, e]; rfl, hf rfl⟩
theorem rngI_map : ∀ (n : Nat) (lo : Int), rngI lo n = (List.range n).map fun (i : Nat) => D.int (lo + (i : Int))
  | 0, lo => rfl
  | n + 1, lo => by
    rw [List.range_succ_eq_map, List.map_cons, List.map_map]
    show D.int lo :: rngI (lo + 1) n = _
    rw [rngI_map n (lo + 1)]
    congr 1
    · simp
    · apply List.map_congr_left
      intro i _
      show D.int (lo + 1 + i) = D.int (lo + ((i + 1 : Nat) : Int))
      congr 1
      omega
theorem lim62_small {i : Int} (h1 : -1000000 ≤ i) (h2 : i ≤ 1000000) : lim62 i = true := by
  simp [lim62]
  omega
theorem it_rng1 {b : Nat} {sl : Sl} {S S1 : Sto} {a : E} {n : Int} (e : (evW P).e b a sl S = .ok (.int n) S1) (h : lim62 n = true) : itD (fun e S => (evW P).e b e sl S) (.rng1 a) S = .ok ⟨rngI 0 n.toNat, none⟩ S1 := by
  show ((evW P).e b a sl S).bind _ = _
  rw [e, bind_ok]
  show (if lim62 n then R.ok _ S1 else .no) = _
  rw [if_pos h]
theorem it_tup {b : Nat} {sl : Sl} {S S1 : Sto} {a : E} {xs : List D} (e : (evW P).e b a sl S = .ok (.tup xs) S1) : itD (fun e S => (evW P).e b e sl S) (.seq a) S = .ok ⟨xs, none⟩ S1 := by
  show ((evW P).e b a sl S).bind _ = _
  rw [e, bind_ok]
  rfl
theorem it_lst {b : Nat} {sl : Sl} {S S1 : Sto} {a : E} {xs : List D} (e : (evW P).e b a sl S = .ok (.lst xs) S1) : itD (fun e S => (evW P).e b e sl S) (.seq a) S = .ok ⟨xs, none⟩ S1 := by
  show ((evW P).e b a sl S).bind _ = _
  rw [e, bind_ok]
  rfl
theorem it_etup {b : Nat} {sl : Sl} {S S1 : Sto} {a : E} {xs : List D} (e : (evW P).e b a sl S = .ok (.tup xs) S1) : itD (fun e S => (evW P).e b e sl S) (.enum a) S = .ok ⟨enumD 0 xs, none⟩ S1 := by
  show ((evW P).e b a sl S).bind _ = _
  rw [e, bind_ok]
theorem it_eref {b : Nat} {sl : Sl} {S S1 : Sto} {a : E} {n : Nat} {xs : List D} (e : (evW P).e b a sl S = .ok (.ref n) S1) (h : S1[n]? = some xs) : itD (fun e S => (evW P).e b e sl S) (.enum a) S = .ok ⟨enumD 0 xs, some (n, xs)⟩ S1 := by
  show ((evW P).e b a sl S).bind _ = _
  rw [e, bind_ok]
  show (match walkD S1 (.ref n) with | some w => R.ok (⟨enumD 0 w.ds, w.gd⟩ : Wk) S1 | none => .no) = _
  simp only [walkD, h]
theorem off {n k : Nat} (h : k ≤ n) : ∃ m, n = m + k := ⟨n - k, by omega⟩
/-- the cup -/
def cupD (c : Int × Int) : List D := [.int c.1, .int c.2]
theorem roll (b : Nat) (c : Int × Int) (k : Int) (r : Sto) (hk : 0 < k) (hk2 : k < 1073741824) : ∃ (x : Int) (c' : Int × Int), 0 ≤ x ∧ x < k ∧ fnD (evW P) b f9 [.ref 0, .int k] (cupD c :: r) = .ok (.int x) (cupD c' :: r) := by
  obtain ⟨g, c⟩ := c
  by_cases hg : 0 < g
  · refine ⟨g % k, ⟨g / k, c⟩, Int.emod_nonneg _ (by omega), Int.emod_lt_of_pos _ hk, ?_⟩
    rw [fnD_run rfl]
    simp [fnR, evSs, evW_e, evW_t, evW_s, eE_c, eE_v, eE_g, eE_bin, eE_neg, eE_nt, eE_an, eE_or, eE_cmp, eE_ch, eE_ite, eE_tup, eE_lst, eE_ix, eE_sl, eE_rv, eE_isi, eE_call, eE_bf, eE_mt, eE_lam, eT_nt, eT_an, eT_or, eT_cmp, eT_ch, eT_v, eT_call, eT_isi, eT_ix, eT_c, eT_bf, eS_asg, eS_par, eS_lcs, eS_ret, eS_ex, eS_iff, eS_rai, eS_retN, eS_pass, eS_brk, ↓bind_ok, ↓bind_ex, ↓bind_no, evEs, evO, ixD, seqOf, seqL, atI, ixN, nox, c_lt, c_le, c_gt, c_ge, c_isN, c_isntN, c_isB, c_isntB, c_eq, c_ne, pureD, pureDs, near, dle, dles, deq, deqs, blD, setT, setTs, bfD, binD, setIx, truD, newL, isiD, ifsD, wipeD, pf0, pf1, pf2, pf3, pf4, pf5, pf6, pf7, pf8, pf9, pf10, pf11, pf12, pf13, pf14, pf15, pf16, pf17, pf18, pf19, pf20, pf21, pf22, pf23, pf24, pf25, pf26, pf27, pf28, pf29, pg0, pg1, pg2, plm0, f9, hg, intD, hk, hk2, cupD]
  · have l1 : -18446744073709551616 < (c * 30671 + 7919) % 2147483549 := Int.lt_of_lt_of_le (by decide) (Int.emod_nonneg _ (by decide))
    have l2 : (c * 30671 + 7919) % 2147483549 < 18446744073709551616 := Int.lt_trans (Int.emod_lt_of_pos _ (by decide)) (by decide)
    refine ⟨((c * 30671 + 7919) % 2147483549 * ((c * 30671 + 7919) % 2147483549 + 131) % 2147483587 / 709) % k, ⟨g, (c * 30671 + 7919) % 2147483549⟩, Int.emod_nonneg _ (by omega), Int.emod_lt_of_pos _ hk, ?_⟩
    rw [fnD_run rfl]
    simp [fnR, evSs, evW_e, evW_t, evW_s, eE_c, eE_v, eE_g, eE_bin, eE_neg, eE_nt, eE_an, eE_or, eE_cmp, eE_ch, eE_ite, eE_tup, eE_lst, eE_ix, eE_sl, eE_rv, eE_isi, eE_call, eE_bf, eE_mt, eE_lam, eT_nt, eT_an, eT_or, eT_cmp, eT_ch, eT_v, eT_call, eT_isi, eT_ix, eT_c, eT_bf, eS_asg, eS_par, eS_lcs, eS_ret, eS_ex, eS_iff, eS_rai, eS_retN, eS_pass, eS_brk, ↓bind_ok, ↓bind_ex, ↓bind_no, evEs, evO, ixD, seqOf, seqL, atI, ixN, nox, c_lt, c_le, c_gt, c_ge, c_isN, c_isntN, c_isB, c_isntB, c_eq, c_ne, pureD, pureDs, near, dle, dles, deq, deqs, blD, setT, setTs, bfD, binD, setIx, truD, newL, isiD, ifsD, wipeD, pf0, pf1, pf2, pf3, pf4, pf5, pf6, pf7, pf8, pf9, pf10, pf11, pf12, pf13, pf14, pf15, pf16, pf17, pf18, pf19, pf20, pf21, pf22, pf23, pf24, pf25, pf26, pf27, pf28, pf29, pg0, pg1, pg2, plm0, f9, hg, intD, hk, hk2, mulD, addD, lim64, l1, l2, cupD]
theorem cup (b : Nat) (ns : List Int) (hl : ns.length ≤ 63) : ∃ c, fnD (evW P) b f1 [.frz (ns.map D.int)] [] = .ok (.ref 0) [cupD c] := by
  have hz : ns.length + 1 ≤ 16777216 := by omega
  cases ns with
  | nil =>
    refine ⟨⟨0, 1290⟩, ?_⟩
    rw [fnD_run rfl]
    simp [fnR, evSs, evW_e, evW_t, evW_s, eE_c, eE_v, eE_g, eE_bin, eE_neg, eE_nt, eE_an, eE_or, eE_cmp, eE_ch, eE_ite, eE_tup, eE_lst, eE_ix, eE_sl, eE_rv, eE_isi, eE_call, eE_bf, eE_mt, eE_lam, eT_nt, eT_an, eT_or, eT_cmp, eT_ch, eT_v, eT_call, eT_isi, eT_ix, eT_c, eT_bf, eS_asg, eS_par, eS_lcs, eS_ret, eS_ex, eS_iff, eS_rai, eS_retN, eS_pass, eS_brk, ↓bind_ok, ↓bind_ex, ↓bind_no, evEs, evO, ixD, seqOf, seqL, atI, ixN, nox, c_lt, c_le, c_gt, c_ge, c_isN, c_isntN, c_isB, c_isntB, c_eq, c_ne, pureD, pureDs, near, dle, dles, deq, deqs, blD, setT, setTs, bfD, binD, setIx, truD, newL, isiD, ifsD, wipeD, pf0, pf1, pf2, pf3, pf4, pf5, pf6, pf7, pf8, pf9, pf10, pf11, pf12, pf13, pf14, pf15, pf16, pf17, pf18, pf19, pf20, pf21, pf22, pf23, pf24, pf25, pf26, pf27, pf28, pf29, pg0, pg1, pg2, plm0, f1, listD, seqF, addD, absD, intD, mulD, lim64, sizeMax, cupD]
  | cons i r =>
    have hz' : r.length + 1 + 1 ≤ 16777216 := by simpa using hz
    have h0 : (0 : Int) < (r.length : Int) + 1 + 1 := by omega
    by_cases hg : (1000000000000000000 : Int) ≤ (if i < 0 then -i else i)
    · refine ⟨⟨(if i < 0 then -i else i) / 11, ((if i < 0 then -i else i) * 193 + 1201) % 2077504273 + 89⟩, ?_⟩
      rw [fnD_run rfl]
      simp [fnR, evSs, evW_e, evW_t, evW_s, eE_c, eE_v, eE_g, eE_bin, eE_neg, eE_nt, eE_an, eE_or, eE_cmp, eE_ch, eE_ite, eE_tup, eE_lst, eE_ix, eE_sl, eE_rv, eE_isi, eE_call, eE_bf, eE_mt, eE_lam, eT_nt, eT_an, eT_or, eT_cmp, eT_ch, eT_v, eT_call, eT_isi, eT_ix, eT_c, eT_bf, eS_asg, eS_par, eS_lcs, eS_ret, eS_ex, eS_iff, eS_rai, eS_retN, eS_pass, eS_brk, ↓bind_ok, ↓bind_ex, ↓bind_no, evEs, evO, ixD, seqOf, seqL, atI, ixN, nox, c_lt, c_le, c_gt, c_ge, c_isN, c_isntN, c_isB, c_isntB, c_eq, c_ne, pureD, pureDs, near, dle, dles, deq, deqs, blD, setT, setTs, bfD, binD, setIx, truD, newL, isiD, ifsD, wipeD, pf0, pf1, pf2, pf3, pf4, pf5, pf6, pf7, pf8, pf9, pf10, pf11, pf12, pf13, pf14, pf15, pf16, pf17, pf18, pf19, pf20, pf21, pf22, pf23, pf24, pf25, pf26, pf27, pf28, pf29, pg0, pg1, pg2, plm0, f1, listD, seqF, addD, absD, intD, mulD, lim64, sizeMax, hz', h0, hg, cupD]
    · refine ⟨⟨0, ((if i < 0 then -i else i) * 193 + 1201) % 2077504273 + 89⟩, ?_⟩
      rw [fnD_run rfl]
      simp [fnR, evSs, evW_e, evW_t, evW_s, eE_c, eE_v, eE_g, eE_bin, eE_neg, eE_nt, eE_an, eE_or, eE_cmp, eE_ch, eE_ite, eE_tup, eE_lst, eE_ix, eE_sl, eE_rv, eE_isi, eE_call, eE_bf, eE_mt, eE_lam, eT_nt, eT_an, eT_or, eT_cmp, eT_ch, eT_v, eT_call, eT_isi, eT_ix, eT_c, eT_bf, eS_asg, eS_par, eS_lcs, eS_ret, eS_ex, eS_iff, eS_rai, eS_retN, eS_pass, eS_brk, ↓bind_ok, ↓bind_ex, ↓bind_no, evEs, evO, ixD, seqOf, seqL, atI, ixN, nox, c_lt, c_le, c_gt, c_ge, c_isN, c_isntN, c_isB, c_isntB, c_eq, c_ne, pureD, pureDs, near, dle, dles, deq, deqs, blD, setT, setTs, bfD, binD, setIx, truD, newL, isiD, ifsD, wipeD, pf0, pf1, pf2, pf3, pf4, pf5, pf6, pf7, pf8, pf9, pf10, pf11, pf12, pf13, pf14, pf15, pf16, pf17, pf18, pf19, pf20, pf21, pf22, pf23, pf24, pf25, pf26, pf27, pf28, pf29, pg0, pg1, pg2, plm0, f1, listD, seqF, addD, absD, intD, mulD, lim64, sizeMax, hz', h0, hg, cupD]
/-- one of some things -/
theorem some_ {b : Nat} (hb : 1 ≤ b) (c : Int × Int) (r : Sto) (xs : List D) (hx : xs ≠ []) (hz : xs.length < 1000) : ∃ y ∈ xs, ∃ c', fnD (evW P) b f11 [.ref 0, .lst xs] (cupD c :: r) = .ok y (cupD c' :: r) := by
  obtain ⟨b, rfl⟩ := off hb
  have hp : 0 < xs.length := List.length_pos_iff.mpr hx
  obtain ⟨x, c', h1, h2, e⟩ := roll b c xs.length r (by omega) (by omega)
  have hlt : x.toNat < xs.length := by omega
  refine ⟨xs[x.toNat], List.getElem_mem hlt, c', ?_⟩
  rw [fnD_run rfl]
  simp [fnR, evSs, evW_e, evW_t, evW_s, eE_c, eE_v, eE_g, eE_bin, eE_neg, eE_nt, eE_an, eE_or, eE_cmp, eE_ch, eE_ite, eE_tup, eE_lst, eE_ix, eE_sl, eE_rv, eE_isi, eE_call, eE_bf, eE_mt, eE_lam, eT_nt, eT_an, eT_or, eT_cmp, eT_ch, eT_v, eT_call, eT_isi, eT_ix, eT_c, eT_bf, eS_asg, eS_par, eS_lcs, eS_ret, eS_ex, eS_iff, eS_rai, eS_retN, eS_pass, eS_brk, ↓bind_ok, ↓bind_ex, ↓bind_no, evEs, evO, ixD, seqOf, seqL, atI, ixN, nox, c_lt, c_le, c_gt, c_ge, c_isN, c_isntN, c_isB, c_isntB, c_eq, c_ne, pureD, pureDs, near, dle, dles, deq, deqs, blD, setT, setTs, bfD, binD, setIx, truD, newL, isiD, ifsD, wipeD, pf0, pf1, pf2, pf3, pf4, pf5, pf6, pf7, pf8, pf9, pf10, pf11, pf12, pf13, pf14, pf15, pf16, pf17, pf18, pf19, pf20, pf21, pf22, pf23, pf24, pf25, pf26, pf27, pf28, pf29, pg0, pg1, pg2, plm0, f11, lenD, e, h1, h2, hlt]
/-! ### heaps as plain Lean -/
inductive Wd where
  | non
  | num (i : Int)
  | adr (a : Nat)
def encW : Wd → D
  | .non => .non
  | .num i => .tup [.str [110, 117, 109], .int i]
  | .adr a => .int a
abbrev Ce := Option (List Nat × List Wd)
def encC : Ce → D
  | none => .non
  | some (l, ws) => .tup [.tup [.str l], .tup (ws.map encW)]
def encH (h : List Ce) : D := .tup (h.map encC)
def natD (a : Nat) : D := .int a
theorem pure_nat {a : Nat} : pureD (natD a) = true := rfl
theorem pures_nat : ∀ {as : List Nat}, pureDs (as.map natD) = true
  | [] => rfl
  | a :: t => by simp [pureDs, pure_nat, pures_nat (as := t)]
/-- what a drawn word is -/
def WdA (as : List Nat) : Wd → Prop
  | .non => True
  | .num i => -4 ≤ i ∧ i ≤ 4
  | .adr a => a ∈ as
theorem word {b : Nat} (hb : 2 ≤ b) (c : Int × Int) (r : Sto) (as : List Nat) (hz : as.length < 1000) : ∃ w c', WdA as w ∧ fnD (evW P) b f10 [.ref 0, .lst (as.map natD)] (cupD c :: r) = .ok (encW w) (cupD c' :: r) := by
  obtain ⟨b, rfl⟩ := off hb
  obtain ⟨x, c1, h1, h2, e1⟩ := roll (b + 1) c 8 r (by omega) (by omega)
  by_cases h0 : x = 0
  · subst h0
    refine ⟨.non, c1, trivial, ?_⟩
    rw [fnD_run rfl]
    simp [fnR, evSs, evW_e, evW_t, evW_s, eE_c, eE_v, eE_g, eE_bin, eE_neg, eE_nt, eE_an, eE_or, eE_cmp, eE_ch, eE_ite, eE_tup, eE_lst, eE_ix, eE_sl, eE_rv, eE_isi, eE_call, eE_bf, eE_mt, eE_lam, eT_nt, eT_an, eT_or, eT_cmp, eT_ch, eT_v, eT_call, eT_isi, eT_ix, eT_c, eT_bf, eS_asg, eS_par, eS_lcs, eS_ret, eS_ex, eS_iff, eS_rai, eS_retN, eS_pass, eS_brk, ↓bind_ok, ↓bind_ex, ↓bind_no, evEs, evO, ixD, seqOf, seqL, atI, ixN, nox, c_lt, c_le, c_gt, c_ge, c_isN, c_isntN, c_isB, c_isntB, c_eq, c_ne, pureD, pureDs, near, dle, dles, deq, deqs, blD, setT, setTs, bfD, binD, setIx, truD, newL, isiD, ifsD, wipeD, pf0, pf1, pf2, pf3, pf4, pf5, pf6, pf7, pf8, pf9, pf10, pf11, pf12, pf13, pf14, pf15, pf16, pf17, pf18, pf19, pf20, pf21, pf22, pf23, pf24, pf25, pf26, pf27, pf28, pf29, pg0, pg1, pg2, plm0, f10, e1, encW]
  · have h0' : (x == 0) = false := by simpa using h0
    cases as with
    | nil =>
      refine ⟨.non, c1, trivial, ?_⟩
      rw [fnD_run rfl]
      simp [fnR, evSs, evW_e, evW_t, evW_s, eE_c, eE_v, eE_g, eE_bin, eE_neg, eE_nt, eE_an, eE_or, eE_cmp, eE_ch, eE_ite, eE_tup, eE_lst, eE_ix, eE_sl, eE_rv, eE_isi, eE_call, eE_bf, eE_mt, eE_lam, eT_nt, eT_an, eT_or, eT_cmp, eT_ch, eT_v, eT_call, eT_isi, eT_ix, eT_c, eT_bf, eS_asg, eS_par, eS_lcs, eS_ret, eS_ex, eS_iff, eS_rai, eS_retN, eS_pass, eS_brk, ↓bind_ok, ↓bind_ex, ↓bind_no, evEs, evO, ixD, seqOf, seqL, atI, ixN, nox, c_lt, c_le, c_gt, c_ge, c_isN, c_isntN, c_isB, c_isntB, c_eq, c_ne, pureD, pureDs, near, dle, dles, deq, deqs, blD, setT, setTs, bfD, binD, setIx, truD, newL, isiD, ifsD, wipeD, pf0, pf1, pf2, pf3, pf4, pf5, pf6, pf7, pf8, pf9, pf10, pf11, pf12, pf13, pf14, pf15, pf16, pf17, pf18, pf19, pf20, pf21, pf22, pf23, pf24, pf25, pf26, pf27, pf28, pf29, pg0, pg1, pg2, plm0, f10, e1, h0', sizeMax, encW]
    | cons a t =>
      by_cases hx1 : x = 1
      · subst hx1
        obtain ⟨y, c2, h3, h4, e2⟩ := roll (b + 1) c1 9 r (by omega) (by omega)
        refine ⟨.num (y - 4), c2, ⟨by omega, by omega⟩, ?_⟩
        rw [fnD_run rfl]
        simp [fnR, evSs, evW_e, evW_t, evW_s, eE_c, eE_v, eE_g, eE_bin, eE_neg, eE_nt, eE_an, eE_or, eE_cmp, eE_ch, eE_ite, eE_tup, eE_lst, eE_ix, eE_sl, eE_rv, eE_isi, eE_call, eE_bf, eE_mt, eE_lam, eT_nt, eT_an, eT_or, eT_cmp, eT_ch, eT_v, eT_call, eT_isi, eT_ix, eT_c, eT_bf, eS_asg, eS_par, eS_lcs, eS_ret, eS_ex, eS_iff, eS_rai, eS_retN, eS_pass, eS_brk, ↓bind_ok, ↓bind_ex, ↓bind_no, evEs, evO, ixD, seqOf, seqL, atI, ixN, nox, c_lt, c_le, c_gt, c_ge, c_isN, c_isntN, c_isB, c_isntB, c_eq, c_ne, pureD, pureDs, near, dle, dles, deq, deqs, blD, setT, setTs, bfD, binD, setIx, truD, newL, isiD, ifsD, wipeD, pf0, pf1, pf2, pf3, pf4, pf5, pf6, pf7, pf8, pf9, pf10, pf11, pf12, pf13, pf14, pf15, pf16, pf17, pf18, pf19, pf20, pf21, pf22, pf23, pf24, pf25, pf26, pf27, pf28, pf29, pg0, pg1, pg2, plm0, f10, e1, sizeMax, e2, pure_nat, pures_nat, encW]
      · have hx1' : (x == 1) = false := by simpa using hx1
        obtain ⟨y, hy, c2, e2⟩ := some_ (b := b + 1) (by omega) c1 r ((a :: t).map natD) (by simp) (by simpa using hz)
        obtain ⟨a', ha', rfl⟩ := List.mem_map.mp hy
        refine ⟨.adr a', c2, ha', ?_⟩
        rw [List.map_cons] at e2
        simp only [natD] at e2
        rw [fnD_run rfl]
        simp [fnR, evSs, evW_e, evW_t, evW_s, eE_c, eE_v, eE_g, eE_bin, eE_neg, eE_nt, eE_an, eE_or, eE_cmp, eE_ch, eE_ite, eE_tup, eE_lst, eE_ix, eE_sl, eE_rv, eE_isi, eE_call, eE_bf, eE_mt, eE_lam, eT_nt, eT_an, eT_or, eT_cmp, eT_ch, eT_v, eT_call, eT_isi, eT_ix, eT_c, eT_bf, eS_asg, eS_par, eS_lcs, eS_ret, eS_ex, eS_iff, eS_rai, eS_retN, eS_pass, eS_brk, ↓bind_ok, ↓bind_ex, ↓bind_no, evEs, evO, ixD, seqOf, seqL, atI, ixN, nox, c_lt, c_le, c_gt, c_ge, c_isN, c_isntN, c_isB, c_isntB, c_eq, c_ne, pureD, pureDs, near, dle, dles, deq, deqs, blD, setT, setTs, bfD, binD, setIx, truD, newL, isiD, ifsD, wipeD, pf0, pf1, pf2, pf3, pf4, pf5, pf6, pf7, pf8, pf9, pf10, pf11, pf12, pf13, pf14, pf15, pf16, pf17, pf18, pf19, pf20, pf21, pf22, pf23, pf24, pf25, pf26, pf27, pf28, pf29, pg0, pg1, pg2, plm0, f10, e1, sizeMax, e2, pure_nat, pures_nat, h0', hx1', encW, natD]

theorem evEs_c {b : Nat} {sl : Sl} {S : Sto} : ∀ ks : List Int, evEs (fun e S => stE P (evW P) b e sl S) (ks.map fun k => E.c (.int k)) S = .ok (ks.map D.int) S
  | [] => rfl
  | k :: r => by
    show ((stE P (evW P) b (.c (.int k)) sl S).bind fun d S1 => (evEs (fun e S => stE P (evW P) b e sl S) (r.map fun k => E.c (.int k)) S1).bind fun ds S2 => .ok (d :: ds) S2) = _
    simp only [eE_c, bind_ok, evEs_c r, List.map_cons]
/-- so many words are drawn -/
theorem lc_words {b : Nat} (hb : 4 ≤ b) (c : Int × Int) (r : Sto) (as : List Nat) (hz : as.length < 1000) (sl : Sl) (i0 i1 j : Nat) (ks : List Int) (hk : ks ≠ []) (hk2 : ∀ k ∈ ks, 0 ≤ k ∧ k ≤ 3) (hk3 : ks.length < 100) (h0 : sl[i0]? = some (some (.ref 0))) (h1 : sl[i1]? = some (some (.lst (as.map natD)))) (n0 : j ≠ i0) (n1 : j ≠ i1) :
    ∃ (ws : List Wd) (c' : Int × Int), stE P (evW P) b (.lc false (.call 10 [.v i0, .v i1]) (.nm j) [j] (.rng1 (.call 11 [.v i0, .lst false (ks.map fun k => E.c (.int k))])) none) sl (cupD c :: r) = .ok (.lst (ws.map encW)) (cupD c' :: r) ∧ ws.length ≤ 3 ∧ ∀ x ∈ ws, WdA as x := by
  obtain ⟨b, rfl⟩ := off hb
  obtain ⟨y, hy, c1, e1⟩ := some_ (b := b + 3) (by omega) c r (ks.map D.int) (by simpa using hk) (by simp; omega)
  obtain ⟨k, hkm, rfl⟩ := List.mem_map.mp hy
  obtain ⟨k0, k3⟩ := hk2 k hkm
  have hit : itD (fun e S => (evW P).e (b + 4) e sl S) (.rng1 (.call 11 [.v i0, .lst false (ks.map fun k => E.c (.int k))])) (cupD c :: r) = .ok ⟨rngI 0 k.toNat, none⟩ (cupD c1 :: r) := by
    have l62 := lim62_small (i := k) (by omega) (by omega)
    have hz2 : ks.length ≤ sizeMax := by simp [sizeMax]; omega
    simp [fnR, evSs, evW_e, evW_t, evW_s, eE_c, eE_v, eE_g, eE_bin, eE_neg, eE_nt, eE_an, eE_or, eE_cmp, eE_ch, eE_ite, eE_tup, eE_lst, eE_ix, eE_sl, eE_rv, eE_isi, eE_call, eE_bf, eE_mt, eE_lam, eT_nt, eT_an, eT_or, eT_cmp, eT_ch, eT_v, eT_call, eT_isi, eT_ix, eT_c, eT_bf, eS_asg, eS_par, eS_lcs, eS_ret, eS_ex, eS_iff, eS_rai, eS_retN, eS_pass, eS_brk, ↓bind_ok, ↓bind_ex, ↓bind_no, evEs, evO, ixD, seqOf, seqL, atI, ixN, nox, c_lt, c_le, c_gt, c_ge, c_isN, c_isntN, c_isB, c_isntB, c_eq, c_ne, pureD, pureDs, near, dle, dles, deq, deqs, blD, setT, setTs, bfD, binD, setIx, truD, newL, isiD, ifsD, wipeD, pf0, pf1, pf2, pf3, pf4, pf5, pf6, pf7, pf8, pf9, pf10, pf11, pf12, pf13, pf14, pf15, pf16, pf17, pf18, pf19, pf20, pf21, pf22, pf23, pf24, pf25, pf26, pf27, pf28, pf29, pg0, pg1, pg2, plm0, itD, h0, evEs_c, e1, l62, hz2]
  have key : ∀ d ∈ rngI 0 k.toNat, ∀ S, (∃ c, S = cupD c :: r) → ∃ sl' S1 S2 y S3, setT ((evW P).e (b + 4)) 9 (.nm j) d (wipeD sl [j]) S = .ok sl' S1 ∧ ifsD ((evW P).t (b + 4)) none sl' S1 = .ok true S2 ∧ (evW P).e (b + 4) (.call 10 [.v i0, .v i1]) sl' S2 = .ok y S3 ∧ (∃ c, S3 = cupD c :: r) ∧ ∃ w, WdA as w ∧ y = encW w := by
    rintro d _ S ⟨c, rfl⟩
    obtain ⟨w, c2, q, e2⟩ := word (b := b + 3) (by omega) c r as hz
    have g0 : (sl.set j (some d))[i0]? = some (some (.ref 0)) := by rw [List.getElem?_set_ne n0]; exact h0
    have g1 : (sl.set j (some d))[i1]? = some (some (.lst (as.map natD))) := by rw [List.getElem?_set_ne n1]; exact h1
    refine ⟨(sl.set j none).set j (some d), _, _, encW w, _, rfl, rfl, ?_, ⟨c2, rfl⟩, w, q, rfl⟩
    simp [fnR, evSs, evW_e, evW_t, evW_s, eE_c, eE_v, eE_g, eE_bin, eE_neg, eE_nt, eE_an, eE_or, eE_cmp, eE_ch, eE_ite, eE_tup, eE_lst, eE_ix, eE_sl, eE_rv, eE_isi, eE_call, eE_bf, eE_mt, eE_lam, eT_nt, eT_an, eT_or, eT_cmp, eT_ch, eT_v, eT_call, eT_isi, eT_ix, eT_c, eT_bf, eS_asg, eS_par, eS_lcs, eS_ret, eS_ex, eS_iff, eS_rai, eS_retN, eS_pass, eS_brk, ↓bind_ok, ↓bind_ex, ↓bind_no, evEs, evO, ixD, seqOf, seqL, atI, ixN, nox, c_lt, c_le, c_gt, c_ge, c_isN, c_isntN, c_isB, c_isntB, c_eq, c_ne, pureD, pureDs, near, dle, dles, deq, deqs, blD, setT, setTs, bfD, binD, setIx, truD, newL, isiD, ifsD, wipeD, pf0, pf1, pf2, pf3, pf4, pf5, pf6, pf7, pf8, pf9, pf10, pf11, pf12, pf13, pf14, pf15, pf16, pf17, pf18, pf19, pf20, pf21, pf22, pf23, pf24, pf25, pf26, pf27, pf28, pf29, pg0, pg1, pg2, plm0, g0, g1, e2]
  obtain ⟨ys, S', e, ⟨c', rfl⟩, hl, hq⟩ := lcL_inv (I := fun S => ∃ c, S = cupD c :: r) (Q := fun _ y => ∃ w, WdA as w ∧ y = encW w) (st := fun d S => setT ((evW P).e (b + 4)) 9 (.nm j) d (wipeD sl [j]) S) (tt := fun sl S => ifsD ((evW P).t (b + 4)) none sl S) (el := fun sl S => (evW P).e (b + 4) (.call 10 [.v i0, .v i1]) sl S) (rngI 0 k.toNat) [] _ ⟨c1, rfl⟩ key (by rw [rngI_map]; simp [sizeMax]; omega)
  have : ∀ ys : List D, (∀ y ∈ ys, ∃ d ∈ rngI 0 k.toNat, ∃ w, WdA as w ∧ y = encW w) → ∃ ws : List Wd, ws.map encW = ys ∧ ∀ x ∈ ws, WdA as x := by
    intro ys
    induction ys with
    | nil => exact fun _ => ⟨[], rfl, by simp⟩
    | cons y t ih =>
      intro hy
      obtain ⟨_, _, w, q, rfl⟩ := hy y List.mem_cons_self
      obtain ⟨ws, hw, hw2⟩ := ih fun z hz => hy z (List.mem_cons_of_mem _ hz)
      refine ⟨w :: ws, by simp [hw], fun z hz => ?_⟩
      rcases List.mem_cons.mp hz with rfl | hz
      · exact q
      · exact hw2 z hz
  obtain ⟨ws, rfl, hw2⟩ := this ys hq
  refine ⟨ws, c', ?_, ?_, hw2⟩
  · rw [eE_lc, hit]
    simp only [bind_ok, e, nox, newL, List.nil_append]
  · rw [List.length_map, rngI_map, List.length_map, List.length_range] at hl
    omega
theorem lc_bools {b : Nat} (hb : 4 ≤ b) (c : Int × Int) (r : Sto) (sl : Sl) (h0 : sl[0]? = some (some (.ref 0))) :
    ∃ (bs : List Bool) (c' : Int × Int), stE P (evW P) b (.lc false (.cmp .eq (.call 9 [.v 0, .c (.int 5)]) (.c (.int 0))) (.nm 6) [6] (.rng1 (.bin .add false (.c (.int 1)) (.call 9 [.v 0, .c (.int 9)]))) none) sl (cupD c :: r) = .ok (.lst (bs.map D.bl)) (cupD c' :: r) ∧ 1 ≤ bs.length ∧ bs.length ≤ 9 := by
  obtain ⟨b, rfl⟩ := off hb
  obtain ⟨x, c1, h1, h2, e1⟩ := roll (b + 3) c 9 r (by omega) (by omega)
  have hit : itD (fun e S => (evW P).e (b + 4) e sl S) (.rng1 (.bin .add false (.c (.int 1)) (.call 9 [.v 0, .c (.int 9)]))) (cupD c :: r) = .ok ⟨rngI 0 (1 + x).toNat, none⟩ (cupD c1 :: r) := by
    have l62 := lim62_small (i := 1 + x) (by omega) (by omega)
    simp [fnR, evSs, evW_e, evW_t, evW_s, eE_c, eE_v, eE_g, eE_bin, eE_neg, eE_nt, eE_an, eE_or, eE_cmp, eE_ch, eE_ite, eE_tup, eE_lst, eE_ix, eE_sl, eE_rv, eE_isi, eE_call, eE_bf, eE_mt, eE_lam, eT_nt, eT_an, eT_or, eT_cmp, eT_ch, eT_v, eT_call, eT_isi, eT_ix, eT_c, eT_bf, eS_asg, eS_par, eS_lcs, eS_ret, eS_ex, eS_iff, eS_rai, eS_retN, eS_pass, eS_brk, ↓bind_ok, ↓bind_ex, ↓bind_no, evEs, evO, ixD, seqOf, seqL, atI, ixN, nox, c_lt, c_le, c_gt, c_ge, c_isN, c_isntN, c_isB, c_isntB, c_eq, c_ne, pureD, pureDs, near, dle, dles, deq, deqs, blD, setT, setTs, bfD, binD, setIx, truD, newL, isiD, ifsD, wipeD, pf0, pf1, pf2, pf3, pf4, pf5, pf6, pf7, pf8, pf9, pf10, pf11, pf12, pf13, pf14, pf15, pf16, pf17, pf18, pf19, pf20, pf21, pf22, pf23, pf24, pf25, pf26, pf27, pf28, pf29, pg0, pg1, pg2, plm0, itD, h0, e1, l62, addD]
  have key : ∀ d ∈ rngI 0 (1 + x).toNat, ∀ S, (∃ c, S = cupD c :: r) → ∃ sl' S1 S2 y S3, setT ((evW P).e (b + 4)) 9 (.nm 6) d (wipeD sl [6]) S = .ok sl' S1 ∧ ifsD ((evW P).t (b + 4)) none sl' S1 = .ok true S2 ∧ (evW P).e (b + 4) (.cmp .eq (.call 9 [.v 0, .c (.int 5)]) (.c (.int 0))) sl' S2 = .ok y S3 ∧ (∃ c, S3 = cupD c :: r) ∧ ∃ k, y = .bl k := by
    rintro d _ S ⟨c, rfl⟩
    obtain ⟨x, c2, _, _, e2⟩ := roll (b + 3) c 5 r (by omega) (by omega)
    have g0 : (sl.set 6 (some d))[0]? = some (some (.ref 0)) := by rw [List.getElem?_set_ne (by omega)]; exact h0
    refine ⟨(sl.set 6 none).set 6 (some d), _, _, .bl (x == 0), _, rfl, rfl, ?_, ⟨c2, rfl⟩, _, rfl⟩
    simp [fnR, evSs, evW_e, evW_t, evW_s, eE_c, eE_v, eE_g, eE_bin, eE_neg, eE_nt, eE_an, eE_or, eE_cmp, eE_ch, eE_ite, eE_tup, eE_lst, eE_ix, eE_sl, eE_rv, eE_isi, eE_call, eE_bf, eE_mt, eE_lam, eT_nt, eT_an, eT_or, eT_cmp, eT_ch, eT_v, eT_call, eT_isi, eT_ix, eT_c, eT_bf, eS_asg, eS_par, eS_lcs, eS_ret, eS_ex, eS_iff, eS_rai, eS_retN, eS_pass, eS_brk, ↓bind_ok, ↓bind_ex, ↓bind_no, evEs, evO, ixD, seqOf, seqL, atI, ixN, nox, c_lt, c_le, c_gt, c_ge, c_isN, c_isntN, c_isB, c_isntB, c_eq, c_ne, pureD, pureDs, near, dle, dles, deq, deqs, blD, setT, setTs, bfD, binD, setIx, truD, newL, isiD, ifsD, wipeD, pf0, pf1, pf2, pf3, pf4, pf5, pf6, pf7, pf8, pf9, pf10, pf11, pf12, pf13, pf14, pf15, pf16, pf17, pf18, pf19, pf20, pf21, pf22, pf23, pf24, pf25, pf26, pf27, pf28, pf29, pg0, pg1, pg2, plm0, g0, e2]
  obtain ⟨ys, S', e, ⟨c', rfl⟩, hl, hq⟩ := lcL_inv (I := fun S => ∃ c, S = cupD c :: r) (Q := fun _ y => ∃ k, y = .bl k) (st := fun d S => setT ((evW P).e (b + 4)) 9 (.nm 6) d (wipeD sl [6]) S) (tt := fun sl S => ifsD ((evW P).t (b + 4)) none sl S) (el := fun sl S => (evW P).e (b + 4) (.cmp .eq (.call 9 [.v 0, .c (.int 5)]) (.c (.int 0))) sl S) (rngI 0 (1 + x).toNat) [] _ ⟨c1, rfl⟩ key (by rw [rngI_map]; simp [sizeMax]; omega)
  have : ∀ ys : List D, (∀ y ∈ ys, ∃ d ∈ rngI 0 (1 + x).toNat, ∃ k, y = .bl k) → ∃ bs : List Bool, bs.map D.bl = ys := by
    intro ys
    induction ys with
    | nil => exact fun _ => ⟨[], rfl⟩
    | cons y t ih =>
      intro hy
      obtain ⟨_, _, w, rfl⟩ := hy y List.mem_cons_self
      obtain ⟨ws, hw⟩ := ih fun z hz => hy z (List.mem_cons_of_mem _ hz)
      exact ⟨w :: ws, by simp [hw]⟩
  obtain ⟨bs, rfl⟩ := this ys hq
  rw [List.length_map, rngI_map, List.length_map, List.length_range] at hl
  refine ⟨bs, c', ?_, by omega, by omega⟩
  rw [eE_lc, hit]
  simp only [bind_ok, e, nox, newL, List.nil_append]
/-- the places that are not free -/
def notFree (bs : List Bool) : List Nat := (List.range bs.length).filter fun i => bs[i]? == some false
theorem notFree_mem {bs : List Bool} {a : Nat} : a ∈ notFree bs ↔ bs[a]? = some false := by
  unfold notFree
  rw [List.mem_filter]
  constructor
  · intro h
    simpa using h.2
  · intro h
    exact ⟨List.mem_range.mpr (List.getElem?_eq_some_iff.mp h).1, by simp [h]⟩
theorem notFree_len {bs : List Bool} : (notFree bs).length ≤ bs.length := by
  unfold notFree
  exact Nat.le_trans (List.length_filter_le ..) (by simp)
theorem frees_it {b : Nat} (sl : Sl) (bs : List Bool) (hl : bs.length ≤ 20) (S : Sto) (h1 : sl[1]? = some (some (.lst (bs.map D.bl)))) : itD (fun e S => (evW P).e b e sl S) (.rng1 (.bf .len false [.v 1])) S = .ok ⟨rngI 0 bs.length, none⟩ S := by
  have l62 := lim62_small (i := (bs.length : Int)) (by omega) (by omega)
  have e : (evW P).e b (.bf .len false [.v 1]) sl S = .ok (.int bs.length) S := by
    simp [fnR, evSs, evW_e, evW_t, evW_s, eE_c, eE_v, eE_g, eE_bin, eE_neg, eE_nt, eE_an, eE_or, eE_cmp, eE_ch, eE_ite, eE_tup, eE_lst, eE_ix, eE_sl, eE_rv, eE_isi, eE_call, eE_bf, eE_mt, eE_lam, eT_nt, eT_an, eT_or, eT_cmp, eT_ch, eT_v, eT_call, eT_isi, eT_ix, eT_c, eT_bf, eS_asg, eS_par, eS_lcs, eS_ret, eS_ex, eS_iff, eS_rai, eS_retN, eS_pass, eS_brk, ↓bind_ok, ↓bind_ex, ↓bind_no, evEs, evO, ixD, seqOf, seqL, atI, ixN, nox, c_lt, c_le, c_gt, c_ge, c_isN, c_isntN, c_isB, c_isntB, c_eq, c_ne, pureD, pureDs, near, dle, dles, deq, deqs, blD, setT, setTs, bfD, binD, setIx, truD, newL, isiD, ifsD, wipeD, pf0, pf1, pf2, pf3, pf4, pf5, pf6, pf7, pf8, pf9, pf10, pf11, pf12, pf13, pf14, pf15, pf16, pf17, pf18, pf19, pf20, pf21, pf22, pf23, pf24, pf25, pf26, pf27, pf28, pf29, pg0, pg1, pg2, plm0, h1, lenD]
  exact it_rng1 e l62
theorem frees_eq (bs : List Bool) : (rngI 0 bs.length).filter (fun d => match d with | .int i => bs[i.toNat]? == some false | _ => false) = (notFree bs).map natD := by
  unfold notFree
  rw [rngI_map, List.filter_map]
  simp only [Int.zero_add]
  rfl
theorem frees_lc {b : Nat} (sl : Sl) (bs : List Bool) (hl : bs.length ≤ 20) (S : Sto) (h1 : sl[1]? = some (some (.lst (bs.map D.bl)))) (h6 : 6 < sl.length) :
    lcL none (fun d S => setT ((evW P).e b) 9 (.nm 6) d (wipeD sl [6]) S) (fun sl S => ifsD ((evW P).t b) (some (.nt (.ix (.v 1) (.v 6)))) sl S) (fun sl S => (evW P).e b (.v 6) sl S) (rngI 0 bs.length) [] S = .ok ((notFree bs).map natD) S := by
  rw [lcL_pure (sl := fun d => (sl.set 6 none).set 6 (some d)) (p := fun d => match d with | .int i => bs[i.toNat]? == some false | _ => false) (f := fun d => d) rfl]
  · rw [frees_eq, List.map_id', List.nil_append]
  · intro d hd
    rw [rngI_map] at hd
    obtain ⟨i, hi, rfl⟩ := List.mem_map.mp hd
    have hi : i < bs.length := List.mem_range.mp hi
    have g1 : (sl.set 6 (some (D.int (i : Int))))[1]? = some (some (.lst (bs.map D.bl))) := by rw [List.getElem?_set_ne (by omega)]; exact h1
    have g6 : (sl.set 6 (some (D.int (i : Int))))[6]? = some (some (.int (i : Int))) := List.getElem?_set_self h6
    have hi' : (i : Int) < bs.length := by omega
    refine ⟨rfl, ?_, fun _ => ?_⟩
    · simp [fnR, evSs, evW_e, evW_t, evW_s, eE_c, eE_v, eE_g, eE_bin, eE_neg, eE_nt, eE_an, eE_or, eE_cmp, eE_ch, eE_ite, eE_tup, eE_lst, eE_ix, eE_sl, eE_rv, eE_isi, eE_call, eE_bf, eE_mt, eE_lam, eT_nt, eT_an, eT_or, eT_cmp, eT_ch, eT_v, eT_call, eT_isi, eT_ix, eT_c, eT_bf, eS_asg, eS_par, eS_lcs, eS_ret, eS_ex, eS_iff, eS_rai, eS_retN, eS_pass, eS_brk, ↓bind_ok, ↓bind_ex, ↓bind_no, evEs, evO, ixD, seqOf, seqL, atI, ixN, nox, c_lt, c_le, c_gt, c_ge, c_isN, c_isntN, c_isB, c_isntB, c_eq, c_ne, pureD, pureDs, near, dle, dles, deq, deqs, blD, setT, setTs, bfD, binD, setIx, truD, newL, isiD, ifsD, wipeD, pf0, pf1, pf2, pf3, pf4, pf5, pf6, pf7, pf8, pf9, pf10, pf11, pf12, pf13, pf14, pf15, pf16, pf17, pf18, pf19, pf20, pf21, pf22, pf23, pf24, pf25, pf26, pf27, pf28, pf29, pg0, pg1, pg2, plm0, g1, g6, hi, hi', Int.zero_add]
    · simp [fnR, evSs, evW_e, evW_t, evW_s, eE_c, eE_v, eE_g, eE_bin, eE_neg, eE_nt, eE_an, eE_or, eE_cmp, eE_ch, eE_ite, eE_tup, eE_lst, eE_ix, eE_sl, eE_rv, eE_isi, eE_call, eE_bf, eE_mt, eE_lam, eT_nt, eT_an, eT_or, eT_cmp, eT_ch, eT_v, eT_call, eT_isi, eT_ix, eT_c, eT_bf, eS_asg, eS_par, eS_lcs, eS_ret, eS_ex, eS_iff, eS_rai, eS_retN, eS_pass, eS_brk, ↓bind_ok, ↓bind_ex, ↓bind_no, evEs, evO, ixD, seqOf, seqL, atI, ixN, nox, c_lt, c_le, c_gt, c_ge, c_isN, c_isntN, c_isB, c_isntB, c_eq, c_ne, pureD, pureDs, near, dle, dles, deq, deqs, blD, setT, setTs, bfD, binD, setIx, truD, newL, isiD, ifsD, wipeD, pf0, pf1, pf2, pf3, pf4, pf5, pf6, pf7, pf8, pf9, pf10, pf11, pf12, pf13, pf14, pf15, pf16, pf17, pf18, pf19, pf20, pf21, pf22, pf23, pf24, pf25, pf26, pf27, pf28, pf29, pg0, pg1, pg2, plm0, g6]
  · rw [rngI_map, List.length_map, List.length_range]
    exact Nat.le_trans (by simpa using hl) (show 20 ≤ sizeMax by decide)
theorem lc_frees {b : Nat} (sl : Sl) (bs : List Bool) (hl : bs.length ≤ 20) (S : Sto) (h1 : sl[1]? = some (some (.lst (bs.map D.bl)))) (h6 : 6 < sl.length) :
    stE P (evW P) b (.lc false (.v 6) (.nm 6) [6] (.rng1 (.bf .len false [.v 1])) (some (.nt (.ix (.v 1) (.v 6))))) sl S = .ok (.lst ((notFree bs).map natD)) S := by
  rw [eE_lc, frees_it sl bs hl S h1]
  simp only [bind_ok, frees_lc sl bs hl S h1 h6, nox, newL]
def adrs : List Wd → List Nat
  | [] => []
  | .adr a :: r => a :: adrs r
  | .non :: r => adrs r
  | .num _ :: r => adrs r
/-- a word that fits a heap -/
def WdOk (h : List Ce) : Wd → Prop
  | .non => True
  | .num i => -1000000000000 ≤ i ∧ i ≤ 1000000000000
  | .adr a => ∃ c, h[a]? = some (some c)
structure HpOk (h : List Ce) : Prop where
  len : h.length ≤ 12
  wds : ∀ l ws, some (l, ws) ∈ h → ws.length ≤ 3 ∧ ∀ x ∈ ws, WdOk h x
structure RtOk (h : List Ce) (r : List Wd) : Prop where
  len : r.length ≤ 12
  wds : ∀ x ∈ r, WdOk h x
/-- which of the first so many cells are free -/
structure Drawn (bs : List Bool) (k : Nat) (h : List Ce) : Prop where
  len : h.length = k
  at_ : ∀ i, i < k → ∀ c, h[i]? = some c → (c = none ↔ bs[i]? = some true)
  wds : ∀ l ws, some (l, ws) ∈ h → ws.length ≤ 3 ∧ ∀ x ∈ ws, WdA (notFree bs) x
theorem Drawn.ok {bs : List Bool} {h : List Ce} (d : Drawn bs bs.length h) (hl : bs.length ≤ 12) : HpOk h := by
  refine ⟨by rw [d.len]; exact hl, fun l ws m => ⟨(d.wds l ws m).1, fun x hx => ?_⟩⟩
  have hx := (d.wds l ws m).2 x hx
  cases x with
  | num i =>
    obtain ⟨h1, h2⟩ := hx
    exact ⟨by omega, by omega⟩
  | non => trivial
  | adr a =>
    have ha : bs[a]? = some false := notFree_mem.mp hx
    have hlt : a < bs.length := (List.getElem?_eq_some_iff.mp ha).1
    have hlt' : a < h.length := by rw [d.len]; exact hlt
    cases q : h[a] with
    | none =>
      have := (d.at_ a hlt none (by rw [List.getElem?_eq_getElem hlt', q])).mp rfl
      rw [ha] at this
      cases this
    | some c => exact ⟨c, by rw [List.getElem?_eq_getElem hlt', q]⟩
theorem Drawn.snoc {bs : List Bool} {k : Nat} {h : List Ce} {q : Bool} {l : List Nat} {ws : List Wd} (d : Drawn bs k h) (hq : bs[k]? = some q) (hl : ws.length ≤ 3) (hw : ∀ x ∈ ws, WdA (notFree bs) x) : Drawn bs (k + 1) (h ++ [if q then none else some (l, ws)]) := by
  refine ⟨by simp [d.len], fun i hi c hc => ?_, fun l' ws' m => ?_⟩
  · by_cases hik : i < k
    · rw [List.getElem?_append_left (by rw [d.len]; exact hik)] at hc
      exact d.at_ i hik c hc
    · have : i = k := by omega
      subst this
      rw [List.getElem?_append_right (by rw [d.len]; exact Nat.le_refl _), d.len] at hc
      simp at hc
      subst hc
      rw [hq]
      cases q <;> simp
  · rcases List.mem_append.mp m with m | m
    · exact d.wds l' ws' m
    · cases q
      · simp at m
        obtain ⟨rfl, rfl⟩ := m
        exact ⟨hl, hw⟩
      · simp at m
abbrev heapBody : List Nv.S := [.asg (.nm 5) (.bf .tuple false [(.lc false (.call 10 [(.v 0), (.v 2)]) (.nm 7) [7] (.rng1 (.call 11 [(.v 0), (.lst false [(.c (.int 0)), (.c (.int 1)), (.c (.int 1)), (.c (.int 2)), (.c (.int 2)), (.c (.int 3))])])) none)]),
    .asg (.nm 3) (.bin .add false (.v 3) (.tup [(.ite (.v 4) (.c .non) (.tup [(.tup [(.call 11 [(.v 0), (.lst false [(.c (.str [97])), (.c (.str [98])), (.c (.str [99]))])])]), (.v 5)]))]))]
theorem heap_turn {b : Nat} (hb : 6 ≤ b) (c : Int × Int) (r : Sto) (bs : List Bool) (hlen : bs.length ≤ 9) (k : Nat) (q : Bool) (hq : bs[k]? = some q) (h : List Ce) (d : Drawn bs k h) (x5 x6 x7 : Option D) :
    ∃ (h' : List Ce) (x5' x6' x7' : Option D) (c' : Int × Int), evSs ((evW P).s b) heapBody [some (.ref 0), some (.lst (bs.map D.bl)), some (.lst ((notFree bs).map natD)), some (encH h), some (.bl q), x5, x6, x7] (cupD c :: r) =
      .ok (.nx [some (.ref 0), some (.lst (bs.map D.bl)), some (.lst ((notFree bs).map natD)), some (encH h'), some (.bl q), x5', x6', x7']) (cupD c' :: r) ∧ Drawn bs (k + 1) h' := by
  obtain ⟨b, rfl⟩ := off hb
  have hnf : (notFree bs).length < 1000 := Nat.lt_of_le_of_lt notFree_len (by omega)
  obtain ⟨ws, c1, e1, hl, hw⟩ := lc_words (b := b + 6) (by omega) c r (notFree bs) hnf [some (.ref 0), some (.lst (bs.map D.bl)), some (.lst ((notFree bs).map natD)), some (encH h), some (.bl q), x5, x6, x7] 0 2 7 [0, 1, 1, 2, 2, 3] (by simp) (by decide) (by decide) rfl rfl (by omega) (by omega)
  have e1 : stE P (evW P) (b + 6) (.lc false (.call 10 [.v 0, .v 2]) (.nm 7) [7] (.rng1 (.call 11 [.v 0, .lst false [.c (.int 0), .c (.int 1), .c (.int 1), .c (.int 2), .c (.int 2), .c (.int 3)]])) none)
      [some (.ref 0), some (.lst (bs.map D.bl)), some (.lst ((notFree bs).map natD)), some (.tup (h.map encC)), some (.bl q), x5, x6, x7] (cupD c :: r) = .ok (.lst (ws.map encW)) (cupD c1 :: r) := e1
  have hz : h.length ≤ 8 := by
    have := (List.getElem?_eq_some_iff.mp hq).1
    rw [d.len]
    omega
  have hz2 : h.length + 1 ≤ 16777216 := by omega
  cases q with
  | true =>
    refine ⟨h ++ [none], some (.tup (ws.map encW)), x6, x7, c1, ?_, ?_⟩
    · simp [fnR, evSs, evW_e, evW_t, evW_s, eE_c, eE_v, eE_g, eE_bin, eE_neg, eE_nt, eE_an, eE_or, eE_cmp, eE_ch, eE_ite, eE_tup, eE_lst, eE_ix, eE_sl, eE_rv, eE_isi, eE_call, eE_bf, eE_mt, eE_lam, eT_nt, eT_an, eT_or, eT_cmp, eT_ch, eT_v, eT_call, eT_isi, eT_ix, eT_c, eT_bf, eS_asg, eS_par, eS_lcs, eS_ret, eS_ex, eS_iff, eS_rai, eS_retN, eS_pass, eS_brk, ↓bind_ok, ↓bind_ex, ↓bind_no, evEs, evO, ixD, seqOf, seqL, atI, ixN, nox, c_lt, c_le, c_gt, c_ge, c_isN, c_isntN, c_isB, c_isntB, c_eq, c_ne, pureD, pureDs, near, dle, dles, deq, deqs, blD, setT, setTs, bfD, binD, setIx, truD, newL, isiD, ifsD, wipeD, pf0, pf1, pf2, pf3, pf4, pf5, pf6, pf7, pf8, pf9, pf10, pf11, pf12, pf13, pf14, pf15, pf16, pf17, pf18, pf19, pf20, pf21, pf22, pf23, pf24, pf25, pf26, pf27, pf28, pf29, pg0, pg1, pg2, plm0, heapBody, e1, tupleD, addD, encH, encC, hz2, sizeMax]
    · have := d.snoc (l := []) hq hl hw
      simpa using this
  | false =>
    obtain ⟨y, hy, c2, e2⟩ := some_ (b := b + 5) (by omega) c1 r [.str [97], .str [98], .str [99]] (by simp) (by decide)
    have : ∃ l, y = .str l := by
      simp at hy
      rcases hy with rfl | rfl | rfl <;> exact ⟨_, rfl⟩
    obtain ⟨l, rfl⟩ := this
    refine ⟨h ++ [some (l, ws)], some (.tup (ws.map encW)), x6, x7, c2, ?_, ?_⟩
    · simp [fnR, evSs, evW_e, evW_t, evW_s, eE_c, eE_v, eE_g, eE_bin, eE_neg, eE_nt, eE_an, eE_or, eE_cmp, eE_ch, eE_ite, eE_tup, eE_lst, eE_ix, eE_sl, eE_rv, eE_isi, eE_call, eE_bf, eE_mt, eE_lam, eT_nt, eT_an, eT_or, eT_cmp, eT_ch, eT_v, eT_call, eT_isi, eT_ix, eT_c, eT_bf, eS_asg, eS_par, eS_lcs, eS_ret, eS_ex, eS_iff, eS_rai, eS_retN, eS_pass, eS_brk, ↓bind_ok, ↓bind_ex, ↓bind_no, evEs, evO, ixD, seqOf, seqL, atI, ixN, nox, c_lt, c_le, c_gt, c_ge, c_isN, c_isntN, c_isB, c_isntB, c_eq, c_ne, pureD, pureDs, near, dle, dles, deq, deqs, blD, setT, setTs, bfD, binD, setIx, truD, newL, isiD, ifsD, wipeD, pf0, pf1, pf2, pf3, pf4, pf5, pf6, pf7, pf8, pf9, pf10, pf11, pf12, pf13, pf14, pf15, pf16, pf17, pf18, pf19, pf20, pf21, pf22, pf23, pf24, pf25, pf26, pf27, pf28, pf29, pg0, pg1, pg2, plm0, heapBody, e1, tupleD, addD, encH, encC, hz2, e2, sizeMax]
    · have := d.snoc (l := l) hq hl hw
      simpa using this
theorem heap_for {b : Nat} (hb : 6 ≤ b) (c : Int × Int) (r : Sto) (bs : List Bool) (hlen : bs.length ≤ 9) (x6 : Option D) :
    ∃ (h : List Ce) (sl' : Sl) (c' : Int × Int), stS P (evW P) b (.for_ (.nm 4) (.seq (.v 1)) heapBody) [some (.ref 0), some (.lst (bs.map D.bl)), some (.lst ((notFree bs).map natD)), some (.tup []), none, none, x6, none] (cupD c :: r) = .ok (.nx sl') (cupD c' :: r) ∧ sl'[3]? = some (some (encH h)) ∧ Drawn bs bs.length h := by
  rw [eS_for]
  have hit : ∀ x2 x3 x4 x5 x6 x7, itD (fun e S => (evW P).e b e [some (.ref 0), some (.lst (bs.map D.bl)), x2, x3, x4, x5, x6, x7] S) (.seq (.v 1)) (cupD c :: r) = .ok ⟨bs.map D.bl, none⟩ (cupD c :: r) := fun x2 x3 x4 x5 x6 x7 => by simp [fnR, evSs, evW_e, evW_t, evW_s, eE_c, eE_v, eE_g, eE_bin, eE_neg, eE_nt, eE_an, eE_or, eE_cmp, eE_ch, eE_ite, eE_tup, eE_lst, eE_ix, eE_sl, eE_rv, eE_isi, eE_call, eE_bf, eE_mt, eE_lam, eT_nt, eT_an, eT_or, eT_cmp, eT_ch, eT_v, eT_call, eT_isi, eT_ix, eT_c, eT_bf, eS_asg, eS_par, eS_lcs, eS_ret, eS_ex, eS_iff, eS_rai, eS_retN, eS_pass, eS_brk, ↓bind_ok, ↓bind_ex, ↓bind_no, evEs, evO, ixD, seqOf, seqL, atI, ixN, nox, c_lt, c_le, c_gt, c_ge, c_isN, c_isntN, c_isB, c_isntB, c_eq, c_ne, pureD, pureDs, near, dle, dles, deq, deqs, blD, setT, setTs, bfD, binD, setIx, truD, newL, isiD, ifsD, wipeD, pf0, pf1, pf2, pf3, pf4, pf5, pf6, pf7, pf8, pf9, pf10, pf11, pf12, pf13, pf14, pf15, pf16, pf17, pf18, pf19, pf20, pf21, pf22, pf23, pf24, pf25, pf26, pf27, pf28, pf29, pg0, pg1, pg2, plm0, itD, walkD]
  rw [hit]
  simp only [bind_ok]
  obtain ⟨sl', S', e, k, h, x4, x5, x6', x7, c', hk, hsl, rfl, d⟩ := forL_inv (st := fun d sl S => setT ((evW P).e b) 9 (.nm 4) d sl S) (bd := fun sl S => evSs ((evW P).s b) heapBody sl S)
    (I := fun ds sl S => ∃ (k : Nat) (h : List Ce) (x4 x5 x6 x7 : Option D) (c : Int × Int), ds = (bs.drop k).map D.bl ∧ sl = [some (.ref 0), some (.lst (bs.map D.bl)), some (.lst ((notFree bs).map natD)), some (encH h), x4, x5, x6, x7] ∧ S = cupD c :: r ∧ (k ≤ bs.length ∧ Drawn bs k h))
    (bs.map D.bl) [some (.ref 0), some (.lst (bs.map D.bl)), some (.lst ((notFree bs).map natD)), some (.tup []), none, none, x6, none] (cupD c :: r)
    ⟨0, [], none, none, x6, none, c, by simp, rfl, rfl, Nat.zero_le _, ⟨rfl, fun i hi => absurd hi (by omega), fun l ws m => by simp at m⟩⟩
    (by
      rintro d rest sl S ⟨k, h, x4, x5, x6, x7, c, hds, rfl, rfl, hkl, dr⟩
      have hlt : k < bs.length := by
        by_cases z : k < bs.length
        · exact z
        · rw [List.drop_eq_nil_of_le (by omega)] at hds
          cases hds
      rw [List.drop_eq_getElem_cons hlt, List.map_cons] at hds
      cases hds
      obtain ⟨h', x5', x6', x7', c2, e2, d2⟩ := heap_turn hb c r bs hlen k bs[k] (List.getElem?_eq_getElem hlt) h dr x5 x6 x7
      exact ⟨_, _, _, _, rfl, e2, k + 1, h', _, x5', x6', x7', c2, rfl, rfl, rfl, by omega, d2⟩)
  refine ⟨h, sl', c', e, by rw [hsl]; rfl, ?_⟩
  have : k = bs.length := by
    have : ((bs.drop k).map D.bl).length = 0 := by rw [← hk]; rfl
    simp at this
    omega
  rw [← this]
  exact d.2
/-- a heap is drawn -/
theorem heap {b : Nat} (hb : 6 ≤ b) (c : Int × Int) (r : Sto) : ∃ (h : List Ce) (c' : Int × Int), fnD (evW P) b f2 [.ref 0] (cupD c :: r) = .ok (encH h) (cupD c' :: r) ∧ HpOk h ∧ h ≠ [] := by
  obtain ⟨b, rfl⟩ := off hb
  obtain ⟨bs, c1, e1, l1, l2⟩ := lc_bools (b := b + 6) (by omega) c r [some (.ref 0), none, none, none, none, none, none, none] rfl
  have e2 := lc_frees (b := b + 6) [some (.ref 0), some (.lst (bs.map D.bl)), none, none, none, none, none, none] bs (by omega) (cupD c1 :: r) rfl (by simp)
  obtain ⟨h, sl', c2, e3, h3, d3⟩ := heap_for (b := b + 6) (by omega) c1 r bs l2 none
  refine ⟨h, c2, ?_, d3.ok (Nat.le_trans l2 (by decide)), fun z => ?_⟩
  · rw [fnD_run rfl]
    simp [fnR, evSs, evW_e, evW_t, evW_s, eE_c, eE_v, eE_g, eE_bin, eE_neg, eE_nt, eE_an, eE_or, eE_cmp, eE_ch, eE_ite, eE_tup, eE_lst, eE_ix, eE_sl, eE_rv, eE_isi, eE_call, eE_bf, eE_mt, eE_lam, eT_nt, eT_an, eT_or, eT_cmp, eT_ch, eT_v, eT_call, eT_isi, eT_ix, eT_c, eT_bf, eS_asg, eS_par, eS_lcs, eS_ret, eS_ex, eS_iff, eS_rai, eS_retN, eS_pass, eS_brk, ↓bind_ok, ↓bind_ex, ↓bind_no, evEs, evO, ixD, seqOf, seqL, atI, ixN, nox, c_lt, c_le, c_gt, c_ge, c_isN, c_isntN, c_isB, c_isntB, c_eq, c_ne, pureD, pureDs, near, dle, dles, deq, deqs, blD, setT, setTs, bfD, binD, setIx, truD, newL, isiD, ifsD, wipeD, pf0, pf1, pf2, pf3, pf4, pf5, pf6, pf7, pf8, pf9, pf10, pf11, pf12, pf13, pf14, pf15, pf16, pf17, pf18, pf19, pf20, pf21, pf22, pf23, pf24, pf25, pf26, pf27, pf28, pf29, pg0, pg1, pg2, plm0, f2, e1, e2, sizeMax, e3, h3]
  · have q := d3.len
    rw [z] at q
    have q : 0 = bs.length := q
    omega

/-! ### what is a heap, of any value -/
def numT : D := .str [110, 117, 109]
def isNumT (a : D) : Bool := deq a numT
def fitsN : D → Bool
  | .int i => decide (-1000000000000 ≤ i) && decide (i ≤ 1000000000000)
  | _ => false
def fitsW (xs : List D) : D → Bool
  | .non => true
  | .tup [a, b] => isNumT a && fitsN b
  | .int i => decide (0 ≤ i) && (decide (i < xs.length) && !isNon (xs[i.toNat]?.getD .non))
  | _ => false
def isIntD : D → Bool
  | .int _ => true
  | _ => false
theorem is_integer {b : Nat} {S : Sto} (v : D) : fnD (evW P) b f28 [v] S = .ok (.bl (isIntD v)) S := by
  rw [fnD_run rfl]
  cases v <;> simp [fnR, evSs, evW_e, evW_t, evW_s, eE_c, eE_v, eE_g, eE_bin, eE_neg, eE_nt, eE_an, eE_or, eE_cmp, eE_ch, eE_ite, eE_tup, eE_lst, eE_ix, eE_sl, eE_rv, eE_isi, eE_call, eE_bf, eE_mt, eE_lam, eT_nt, eT_an, eT_or, eT_cmp, eT_ch, eT_v, eT_call, eT_isi, eT_ix, eT_c, eT_bf, eS_asg, eS_par, eS_lcs, eS_ret, eS_ex, eS_iff, eS_rai, eS_retN, eS_pass, eS_brk, ↓bind_ok, ↓bind_ex, ↓bind_no, evEs, evO, ixD, seqOf, seqL, atI, ixN, nox, c_lt, c_le, c_gt, c_ge, c_isN, c_isntN, c_isB, c_isntB, c_eq, c_ne, pureD, pureDs, near, dle, dles, deq, deqs, blD, setT, setTs, bfD, binD, setIx, truD, newL, isiD, ifsD, wipeD, pf0, pf1, pf2, pf3, pf4, pf5, pf6, pf7, pf8, pf9, pf10, pf11, pf12, pf13, pf14, pf15, pf16, pf17, pf18, pf19, pf20, pf21, pf22, pf23, pf24, pf25, pf26, pf27, pf28, pf29, pg0, pg1, pg2, plm0, f28, isIntD]
theorem abs_le (i : Int) : decide ((if i < 0 then -i else i) ≤ 1000000000000) = (decide (-1000000000000 ≤ i) && decide (i ≤ 1000000000000)) := by
  rw [Bool.eq_iff_iff]
  simp
  omega
theorem fits_word {b : Nat} (hb : 1 ≤ b) {S : Sto} (xs : List D) (v : D) (hv : pureD v = true) : fnD (evW P) b f26 [.tup xs, v] S = .ok (.bl (fitsW xs v)) S := by
  obtain ⟨b, rfl⟩ := off hb
  rw [fnD_run rfl]
  cases v with
  | non => simp [fnR, evSs, evW_e, evW_t, evW_s, eE_c, eE_v, eE_g, eE_bin, eE_neg, eE_nt, eE_an, eE_or, eE_cmp, eE_ch, eE_ite, eE_tup, eE_lst, eE_ix, eE_sl, eE_rv, eE_isi, eE_call, eE_bf, eE_mt, eE_lam, eT_nt, eT_an, eT_or, eT_cmp, eT_ch, eT_v, eT_call, eT_isi, eT_ix, eT_c, eT_bf, eS_asg, eS_par, eS_lcs, eS_ret, eS_ex, eS_iff, eS_rai, eS_retN, eS_pass, eS_brk, ↓bind_ok, ↓bind_ex, ↓bind_no, evEs, evO, ixD, seqOf, seqL, atI, ixN, nox, c_lt, c_le, c_gt, c_ge, c_isN, c_isntN, c_isB, c_isntB, c_eq, c_ne, pureD, pureDs, near, dle, dles, deq, deqs, blD, setT, setTs, bfD, binD, setIx, truD, newL, isiD, ifsD, wipeD, pf0, pf1, pf2, pf3, pf4, pf5, pf6, pf7, pf8, pf9, pf10, pf11, pf12, pf13, pf14, pf15, pf16, pf17, pf18, pf19, pf20, pf21, pf22, pf23, pf24, pf25, pf26, pf27, pf28, pf29, pg0, pg1, pg2, plm0, f26, fitsW, isNon]
  | bl k => simp [fnR, evSs, evW_e, evW_t, evW_s, eE_c, eE_v, eE_g, eE_bin, eE_neg, eE_nt, eE_an, eE_or, eE_cmp, eE_ch, eE_ite, eE_tup, eE_lst, eE_ix, eE_sl, eE_rv, eE_isi, eE_call, eE_bf, eE_mt, eE_lam, eT_nt, eT_an, eT_or, eT_cmp, eT_ch, eT_v, eT_call, eT_isi, eT_ix, eT_c, eT_bf, eS_asg, eS_par, eS_lcs, eS_ret, eS_ex, eS_iff, eS_rai, eS_retN, eS_pass, eS_brk, ↓bind_ok, ↓bind_ex, ↓bind_no, evEs, evO, ixD, seqOf, seqL, atI, ixN, nox, c_lt, c_le, c_gt, c_ge, c_isN, c_isntN, c_isB, c_isntB, c_eq, c_ne, pureD, pureDs, near, dle, dles, deq, deqs, blD, setT, setTs, bfD, binD, setIx, truD, newL, isiD, ifsD, wipeD, pf0, pf1, pf2, pf3, pf4, pf5, pf6, pf7, pf8, pf9, pf10, pf11, pf12, pf13, pf14, pf15, pf16, pf17, pf18, pf19, pf20, pf21, pf22, pf23, pf24, pf25, pf26, pf27, pf28, pf29, pg0, pg1, pg2, plm0, f26, fitsW, isNon, is_integer, isIntD]
  | str s => simp [fnR, evSs, evW_e, evW_t, evW_s, eE_c, eE_v, eE_g, eE_bin, eE_neg, eE_nt, eE_an, eE_or, eE_cmp, eE_ch, eE_ite, eE_tup, eE_lst, eE_ix, eE_sl, eE_rv, eE_isi, eE_call, eE_bf, eE_mt, eE_lam, eT_nt, eT_an, eT_or, eT_cmp, eT_ch, eT_v, eT_call, eT_isi, eT_ix, eT_c, eT_bf, eS_asg, eS_par, eS_lcs, eS_ret, eS_ex, eS_iff, eS_rai, eS_retN, eS_pass, eS_brk, ↓bind_ok, ↓bind_ex, ↓bind_no, evEs, evO, ixD, seqOf, seqL, atI, ixN, nox, c_lt, c_le, c_gt, c_ge, c_isN, c_isntN, c_isB, c_isntB, c_eq, c_ne, pureD, pureDs, near, dle, dles, deq, deqs, blD, setT, setTs, bfD, binD, setIx, truD, newL, isiD, ifsD, wipeD, pf0, pf1, pf2, pf3, pf4, pf5, pf6, pf7, pf8, pf9, pf10, pf11, pf12, pf13, pf14, pf15, pf16, pf17, pf18, pf19, pf20, pf21, pf22, pf23, pf24, pf25, pf26, pf27, pf28, pf29, pg0, pg1, pg2, plm0, f26, fitsW, isNon, is_integer, isIntD]
  | lst s => simp [fnR, evSs, evW_e, evW_t, evW_s, eE_c, eE_v, eE_g, eE_bin, eE_neg, eE_nt, eE_an, eE_or, eE_cmp, eE_ch, eE_ite, eE_tup, eE_lst, eE_ix, eE_sl, eE_rv, eE_isi, eE_call, eE_bf, eE_mt, eE_lam, eT_nt, eT_an, eT_or, eT_cmp, eT_ch, eT_v, eT_call, eT_isi, eT_ix, eT_c, eT_bf, eS_asg, eS_par, eS_lcs, eS_ret, eS_ex, eS_iff, eS_rai, eS_retN, eS_pass, eS_brk, ↓bind_ok, ↓bind_ex, ↓bind_no, evEs, evO, ixD, seqOf, seqL, atI, ixN, nox, c_lt, c_le, c_gt, c_ge, c_isN, c_isntN, c_isB, c_isntB, c_eq, c_ne, pureD, pureDs, near, dle, dles, deq, deqs, blD, setT, setTs, bfD, binD, setIx, truD, newL, isiD, ifsD, wipeD, pf0, pf1, pf2, pf3, pf4, pf5, pf6, pf7, pf8, pf9, pf10, pf11, pf12, pf13, pf14, pf15, pf16, pf17, pf18, pf19, pf20, pf21, pf22, pf23, pf24, pf25, pf26, pf27, pf28, pf29, pg0, pg1, pg2, plm0, f26, fitsW, isNon, is_integer, isIntD]
  | frz s => cases hv
  | ref s => cases hv
  | int i =>
    by_cases h0 : 0 ≤ i
    · by_cases h1 : i < xs.length
      · have h2 : i.toNat < xs.length := by omega
        simp [fnR, evSs, evW_e, evW_t, evW_s, eE_c, eE_v, eE_g, eE_bin, eE_neg, eE_nt, eE_an, eE_or, eE_cmp, eE_ch, eE_ite, eE_tup, eE_lst, eE_ix, eE_sl, eE_rv, eE_isi, eE_call, eE_bf, eE_mt, eE_lam, eT_nt, eT_an, eT_or, eT_cmp, eT_ch, eT_v, eT_call, eT_isi, eT_ix, eT_c, eT_bf, eS_asg, eS_par, eS_lcs, eS_ret, eS_ex, eS_iff, eS_rai, eS_retN, eS_pass, eS_brk, ↓bind_ok, ↓bind_ex, ↓bind_no, evEs, evO, ixD, seqOf, seqL, atI, ixN, nox, c_lt, c_le, c_gt, c_ge, c_isN, c_isntN, c_isB, c_isntB, c_eq, c_ne, pureD, pureDs, near, dle, dles, deq, deqs, blD, setT, setTs, bfD, binD, setIx, truD, newL, isiD, ifsD, wipeD, pf0, pf1, pf2, pf3, pf4, pf5, pf6, pf7, pf8, pf9, pf10, pf11, pf12, pf13, pf14, pf15, pf16, pf17, pf18, pf19, pf20, pf21, pf22, pf23, pf24, pf25, pf26, pf27, pf28, pf29, pg0, pg1, pg2, plm0, f26, fitsW, isNon, is_integer, isIntD, h0, h1, h2, lenD]
      · simp [fnR, evSs, evW_e, evW_t, evW_s, eE_c, eE_v, eE_g, eE_bin, eE_neg, eE_nt, eE_an, eE_or, eE_cmp, eE_ch, eE_ite, eE_tup, eE_lst, eE_ix, eE_sl, eE_rv, eE_isi, eE_call, eE_bf, eE_mt, eE_lam, eT_nt, eT_an, eT_or, eT_cmp, eT_ch, eT_v, eT_call, eT_isi, eT_ix, eT_c, eT_bf, eS_asg, eS_par, eS_lcs, eS_ret, eS_ex, eS_iff, eS_rai, eS_retN, eS_pass, eS_brk, ↓bind_ok, ↓bind_ex, ↓bind_no, evEs, evO, ixD, seqOf, seqL, atI, ixN, nox, c_lt, c_le, c_gt, c_ge, c_isN, c_isntN, c_isB, c_isntB, c_eq, c_ne, pureD, pureDs, near, dle, dles, deq, deqs, blD, setT, setTs, bfD, binD, setIx, truD, newL, isiD, ifsD, wipeD, pf0, pf1, pf2, pf3, pf4, pf5, pf6, pf7, pf8, pf9, pf10, pf11, pf12, pf13, pf14, pf15, pf16, pf17, pf18, pf19, pf20, pf21, pf22, pf23, pf24, pf25, pf26, pf27, pf28, pf29, pg0, pg1, pg2, plm0, f26, fitsW, isNon, is_integer, isIntD, h0, h1, lenD]
    · simp [fnR, evSs, evW_e, evW_t, evW_s, eE_c, eE_v, eE_g, eE_bin, eE_neg, eE_nt, eE_an, eE_or, eE_cmp, eE_ch, eE_ite, eE_tup, eE_lst, eE_ix, eE_sl, eE_rv, eE_isi, eE_call, eE_bf, eE_mt, eE_lam, eT_nt, eT_an, eT_or, eT_cmp, eT_ch, eT_v, eT_call, eT_isi, eT_ix, eT_c, eT_bf, eS_asg, eS_par, eS_lcs, eS_ret, eS_ex, eS_iff, eS_rai, eS_retN, eS_pass, eS_brk, ↓bind_ok, ↓bind_ex, ↓bind_no, evEs, evO, ixD, seqOf, seqL, atI, ixN, nox, c_lt, c_le, c_gt, c_ge, c_isN, c_isntN, c_isB, c_isntB, c_eq, c_ne, pureD, pureDs, near, dle, dles, deq, deqs, blD, setT, setTs, bfD, binD, setIx, truD, newL, isiD, ifsD, wipeD, pf0, pf1, pf2, pf3, pf4, pf5, pf6, pf7, pf8, pf9, pf10, pf11, pf12, pf13, pf14, pf15, pf16, pf17, pf18, pf19, pf20, pf21, pf22, pf23, pf24, pf25, pf26, pf27, pf28, pf29, pg0, pg1, pg2, plm0, f26, fitsW, isNon, is_integer, isIntD, h0, lenD]
  | tup vs =>
    match vs, hv with
    | [], _ => simp [fnR, evSs, evW_e, evW_t, evW_s, eE_c, eE_v, eE_g, eE_bin, eE_neg, eE_nt, eE_an, eE_or, eE_cmp, eE_ch, eE_ite, eE_tup, eE_lst, eE_ix, eE_sl, eE_rv, eE_isi, eE_call, eE_bf, eE_mt, eE_lam, eT_nt, eT_an, eT_or, eT_cmp, eT_ch, eT_v, eT_call, eT_isi, eT_ix, eT_c, eT_bf, eS_asg, eS_par, eS_lcs, eS_ret, eS_ex, eS_iff, eS_rai, eS_retN, eS_pass, eS_brk, ↓bind_ok, ↓bind_ex, ↓bind_no, evEs, evO, ixD, seqOf, seqL, atI, ixN, nox, c_lt, c_le, c_gt, c_ge, c_isN, c_isntN, c_isB, c_isntB, c_eq, c_ne, pureD, pureDs, near, dle, dles, deq, deqs, blD, setT, setTs, bfD, binD, setIx, truD, newL, isiD, ifsD, wipeD, pf0, pf1, pf2, pf3, pf4, pf5, pf6, pf7, pf8, pf9, pf10, pf11, pf12, pf13, pf14, pf15, pf16, pf17, pf18, pf19, pf20, pf21, pf22, pf23, pf24, pf25, pf26, pf27, pf28, pf29, pg0, pg1, pg2, plm0, f26, fitsW, isNon, lenD]
    | [a], _ => simp [fnR, evSs, evW_e, evW_t, evW_s, eE_c, eE_v, eE_g, eE_bin, eE_neg, eE_nt, eE_an, eE_or, eE_cmp, eE_ch, eE_ite, eE_tup, eE_lst, eE_ix, eE_sl, eE_rv, eE_isi, eE_call, eE_bf, eE_mt, eE_lam, eT_nt, eT_an, eT_or, eT_cmp, eT_ch, eT_v, eT_call, eT_isi, eT_ix, eT_c, eT_bf, eS_asg, eS_par, eS_lcs, eS_ret, eS_ex, eS_iff, eS_rai, eS_retN, eS_pass, eS_brk, ↓bind_ok, ↓bind_ex, ↓bind_no, evEs, evO, ixD, seqOf, seqL, atI, ixN, nox, c_lt, c_le, c_gt, c_ge, c_isN, c_isntN, c_isB, c_isntB, c_eq, c_ne, pureD, pureDs, near, dle, dles, deq, deqs, blD, setT, setTs, bfD, binD, setIx, truD, newL, isiD, ifsD, wipeD, pf0, pf1, pf2, pf3, pf4, pf5, pf6, pf7, pf8, pf9, pf10, pf11, pf12, pf13, pf14, pf15, pf16, pf17, pf18, pf19, pf20, pf21, pf22, pf23, pf24, pf25, pf26, pf27, pf28, pf29, pg0, pg1, pg2, plm0, f26, fitsW, isNon, lenD]
    | a :: a' :: a'' :: r, _ =>
      have q : ((r.length : Int) + 1 + 1 + 1 == 2) = false := by rw [beq_eq_false_iff_ne]; omega
      simp [fnR, evSs, evW_e, evW_t, evW_s, eE_c, eE_v, eE_g, eE_bin, eE_neg, eE_nt, eE_an, eE_or, eE_cmp, eE_ch, eE_ite, eE_tup, eE_lst, eE_ix, eE_sl, eE_rv, eE_isi, eE_call, eE_bf, eE_mt, eE_lam, eT_nt, eT_an, eT_or, eT_cmp, eT_ch, eT_v, eT_call, eT_isi, eT_ix, eT_c, eT_bf, eS_asg, eS_par, eS_lcs, eS_ret, eS_ex, eS_iff, eS_rai, eS_retN, eS_pass, eS_brk, ↓bind_ok, ↓bind_ex, ↓bind_no, evEs, evO, ixD, seqOf, seqL, atI, ixN, nox, c_lt, c_le, c_gt, c_ge, c_isN, c_isntN, c_isB, c_isntB, c_eq, c_ne, pureD, pureDs, near, dle, dles, deq, deqs, blD, setT, setTs, bfD, binD, setIx, truD, newL, isiD, ifsD, wipeD, pf0, pf1, pf2, pf3, pf4, pf5, pf6, pf7, pf8, pf9, pf10, pf11, pf12, pf13, pf14, pf15, pf16, pf17, pf18, pf19, pf20, pf21, pf22, pf23, pf24, pf25, pf26, pf27, pf28, pf29, pg0, pg1, pg2, plm0, f26, fitsW, isNon, lenD, q]
    | [a, a'], hv =>
      have ha : pureD a = true := by
        simp [pureD, pureDs] at hv
        exact hv.1
      by_cases h : deq a (.str [110, 117, 109]) = true
      · cases a' with
        | int i =>
          have := abs_le i
          simp [fnR, evSs, evW_e, evW_t, evW_s, eE_c, eE_v, eE_g, eE_bin, eE_neg, eE_nt, eE_an, eE_or, eE_cmp, eE_ch, eE_ite, eE_tup, eE_lst, eE_ix, eE_sl, eE_rv, eE_isi, eE_call, eE_bf, eE_mt, eE_lam, eT_nt, eT_an, eT_or, eT_cmp, eT_ch, eT_v, eT_call, eT_isi, eT_ix, eT_c, eT_bf, eS_asg, eS_par, eS_lcs, eS_ret, eS_ex, eS_iff, eS_rai, eS_retN, eS_pass, eS_brk, ↓bind_ok, ↓bind_ex, ↓bind_no, evEs, evO, ixD, seqOf, seqL, atI, ixN, nox, c_lt, c_le, c_gt, c_ge, c_isN, c_isntN, c_isB, c_isntB, c_eq, c_ne, pureD, pureDs, near, dle, dles, deq, deqs, blD, setT, setTs, bfD, binD, setIx, truD, newL, isiD, ifsD, wipeD, pf0, pf1, pf2, pf3, pf4, pf5, pf6, pf7, pf8, pf9, pf10, pf11, pf12, pf13, pf14, pf15, pf16, pf17, pf18, pf19, pf20, pf21, pf22, pf23, pf24, pf25, pf26, pf27, pf28, pf29, pg0, pg1, pg2, plm0, f26, fitsW, isNon, lenD, ha, h, isNumT, numT, is_integer, isIntD, absD, fitsN, this]
        | _ => simp [fnR, evSs, evW_e, evW_t, evW_s, eE_c, eE_v, eE_g, eE_bin, eE_neg, eE_nt, eE_an, eE_or, eE_cmp, eE_ch, eE_ite, eE_tup, eE_lst, eE_ix, eE_sl, eE_rv, eE_isi, eE_call, eE_bf, eE_mt, eE_lam, eT_nt, eT_an, eT_or, eT_cmp, eT_ch, eT_v, eT_call, eT_isi, eT_ix, eT_c, eT_bf, eS_asg, eS_par, eS_lcs, eS_ret, eS_ex, eS_iff, eS_rai, eS_retN, eS_pass, eS_brk, ↓bind_ok, ↓bind_ex, ↓bind_no, evEs, evO, ixD, seqOf, seqL, atI, ixN, nox, c_lt, c_le, c_gt, c_ge, c_isN, c_isntN, c_isB, c_isntB, c_eq, c_ne, pureD, pureDs, near, dle, dles, deq, deqs, blD, setT, setTs, bfD, binD, setIx, truD, newL, isiD, ifsD, wipeD, pf0, pf1, pf2, pf3, pf4, pf5, pf6, pf7, pf8, pf9, pf10, pf11, pf12, pf13, pf14, pf15, pf16, pf17, pf18, pf19, pf20, pf21, pf22, pf23, pf24, pf25, pf26, pf27, pf28, pf29, pg0, pg1, pg2, plm0, f26, fitsW, isNon, lenD, ha, h, isNumT, numT, is_integer, isIntD, absD, fitsN]
      · have h : deq a (.str [110, 117, 109]) = false := by simpa using h
        simp [fnR, evSs, evW_e, evW_t, evW_s, eE_c, eE_v, eE_g, eE_bin, eE_neg, eE_nt, eE_an, eE_or, eE_cmp, eE_ch, eE_ite, eE_tup, eE_lst, eE_ix, eE_sl, eE_rv, eE_isi, eE_call, eE_bf, eE_mt, eE_lam, eT_nt, eT_an, eT_or, eT_cmp, eT_ch, eT_v, eT_call, eT_isi, eT_ix, eT_c, eT_bf, eS_asg, eS_par, eS_lcs, eS_ret, eS_ex, eS_iff, eS_rai, eS_retN, eS_pass, eS_brk, ↓bind_ok, ↓bind_ex, ↓bind_no, evEs, evO, ixD, seqOf, seqL, atI, ixN, nox, c_lt, c_le, c_gt, c_ge, c_isN, c_isntN, c_isB, c_isntB, c_eq, c_ne, pureD, pureDs, near, dle, dles, deq, deqs, blD, setT, setTs, bfD, binD, setIx, truD, newL, isiD, ifsD, wipeD, pf0, pf1, pf2, pf3, pf4, pf5, pf6, pf7, pf8, pf9, pf10, pf11, pf12, pf13, pf14, pf15, pf16, pf17, pf18, pf19, pf20, pf21, pf22, pf23, pf24, pf25, pf26, pf27, pf28, pf29, pg0, pg1, pg2, plm0, f26, fitsW, isNon, lenD, ha, h, isNumT, numT, is_integer, isIntD, absD, fitsN]
theorem pureDs_mem : ∀ {xs : List D}, pureDs xs = true → ∀ x ∈ xs, pureD x = true
  | x :: r, h, y, hy => by
    simp [pureDs] at h
    rcases List.mem_cons.mp hy with rfl | hy
    · exact h.1
    · exact pureDs_mem h.2 y hy
theorem pureDs_of : ∀ {xs : List D}, (∀ x ∈ xs, pureD x = true) → pureDs xs = true
  | [], _ => rfl
  | x :: r, h => by
    simp [pureDs, h x List.mem_cons_self, pureDs_of fun y hy => h y (List.mem_cons_of_mem _ hy)]
theorem filter_tt : ∀ xs : List D, xs.filter (fun _ => true) = xs
  | [] => rfl
  | x :: r => by rw [List.filter_cons_of_pos rfl, filter_tt r]
def fitsWs (xs : List D) : D → Bool
  | .tup vs => decide (vs.length ≤ 12) && vs.all (fitsW xs)
  | _ => false
theorem blsD_map (p : D → Bool) : ∀ vs : List D, blsD (vs.map fun v => .bl (p v)) = some (vs.map p)
  | [] => rfl
  | v :: r => by simp [blsD, blsD_map p r]
theorem fits_words {b : Nat} (hb : 2 ≤ b) {S : Sto} (xs : List D) (v : D) (hv : pureD v = true) : fnD (evW P) b f21 [.tup xs, v] S = .ok (.bl (fitsWs xs v)) S := by
  obtain ⟨b, rfl⟩ := off hb
  rw [fnD_run rfl]
  cases v with
  | tup vs =>
    by_cases hl : vs.length ≤ 12
    · have hl' : ¬ (12 : Int) < vs.length := by omega
      have e : stE P (evW P) (b + 2) (.lc false (.call 26 [(.v 0), (.v 2)]) (.nm 2) [2] (.seq (.v 1)) none) [some (.tup xs), some (.tup vs), none] S = .ok (.lst (vs.map fun w => .bl (fitsW xs w))) S := by
        rw [eE_lc, it_tup (xs := vs) (S1 := S) (by simp [fnR, evSs, evW_e, evW_t, evW_s, eE_c, eE_v, eE_g, eE_bin, eE_neg, eE_nt, eE_an, eE_or, eE_cmp, eE_ch, eE_ite, eE_tup, eE_lst, eE_ix, eE_sl, eE_rv, eE_isi, eE_call, eE_bf, eE_mt, eE_lam, eT_nt, eT_an, eT_or, eT_cmp, eT_ch, eT_v, eT_call, eT_isi, eT_ix, eT_c, eT_bf, eS_asg, eS_par, eS_lcs, eS_ret, eS_ex, eS_iff, eS_rai, eS_retN, eS_pass, eS_brk, ↓bind_ok, ↓bind_ex, ↓bind_no, evEs, evO, ixD, seqOf, seqL, atI, ixN, nox, c_lt, c_le, c_gt, c_ge, c_isN, c_isntN, c_isB, c_isntB, c_eq, c_ne, pureD, pureDs, near, dle, dles, deq, deqs, blD, setT, setTs, bfD, binD, setIx, truD, newL, isiD, ifsD, wipeD, pf0, pf1, pf2, pf3, pf4, pf5, pf6, pf7, pf8, pf9, pf10, pf11, pf12, pf13, pf14, pf15, pf16, pf17, pf18, pf19, pf20, pf21, pf22, pf23, pf24, pf25, pf26, pf27, pf28, pf29, pg0, pg1, pg2, plm0])]
        simp only [bind_ok]
        rw [lcL_pure (sl := fun d => [some (.tup xs), some (.tup vs), some d]) (p := fun _ => true) (f := fun w => .bl (fitsW xs w)) rfl]
        · simp [nox, newL, bind_ok, filter_tt]
        · intro d hd
          have := fits_word (b := b + 1) (by omega) (S := S) xs d (pureDs_mem hv d hd)
          exact ⟨rfl, rfl, fun _ => by simp [fnR, evSs, evW_e, evW_t, evW_s, eE_c, eE_v, eE_g, eE_bin, eE_neg, eE_nt, eE_an, eE_or, eE_cmp, eE_ch, eE_ite, eE_tup, eE_lst, eE_ix, eE_sl, eE_rv, eE_isi, eE_call, eE_bf, eE_mt, eE_lam, eT_nt, eT_an, eT_or, eT_cmp, eT_ch, eT_v, eT_call, eT_isi, eT_ix, eT_c, eT_bf, eS_asg, eS_par, eS_lcs, eS_ret, eS_ex, eS_iff, eS_rai, eS_retN, eS_pass, eS_brk, ↓bind_ok, ↓bind_ex, ↓bind_no, evEs, evO, ixD, seqOf, seqL, atI, ixN, nox, c_lt, c_le, c_gt, c_ge, c_isN, c_isntN, c_isB, c_isntB, c_eq, c_ne, pureD, pureDs, near, dle, dles, deq, deqs, blD, setT, setTs, bfD, binD, setIx, truD, newL, isiD, ifsD, wipeD, pf0, pf1, pf2, pf3, pf4, pf5, pf6, pf7, pf8, pf9, pf10, pf11, pf12, pf13, pf14, pf15, pf16, pf17, pf18, pf19, pf20, pf21, pf22, pf23, pf24, pf25, pf26, pf27, pf28, pf29, pg0, pg1, pg2, plm0, this]⟩
        · simp [sizeMax]
          omega
      simp [fnR, evSs, evW_e, evW_t, evW_s, eE_c, eE_v, eE_g, eE_bin, eE_neg, eE_nt, eE_an, eE_or, eE_cmp, eE_ch, eE_ite, eE_tup, eE_lst, eE_ix, eE_sl, eE_rv, eE_isi, eE_call, eE_bf, eE_mt, eE_lam, eT_nt, eT_an, eT_or, eT_cmp, eT_ch, eT_v, eT_call, eT_isi, eT_ix, eT_c, eT_bf, eS_asg, eS_par, eS_lcs, eS_ret, eS_ex, eS_iff, eS_rai, eS_retN, eS_pass, eS_brk, ↓bind_ok, ↓bind_ex, ↓bind_no, evEs, evO, ixD, seqOf, seqL, atI, ixN, nox, c_lt, c_le, c_gt, c_ge, c_isN, c_isntN, c_isB, c_isntB, c_eq, c_ne, pureD, pureDs, near, dle, dles, deq, deqs, blD, setT, setTs, bfD, binD, setIx, truD, newL, isiD, ifsD, wipeD, pf0, pf1, pf2, pf3, pf4, pf5, pf6, pf7, pf8, pf9, pf10, pf11, pf12, pf13, pf14, pf15, pf16, pf17, pf18, pf19, pf20, pf21, pf22, pf23, pf24, pf25, pf26, pf27, pf28, pf29, pg0, pg1, pg2, plm0, f21, lenD, hl', e, allD, blsOf, blsD_map, fitsWs, hl]
    · have hl' : (12 : Int) < vs.length := by omega
      simp [fnR, evSs, evW_e, evW_t, evW_s, eE_c, eE_v, eE_g, eE_bin, eE_neg, eE_nt, eE_an, eE_or, eE_cmp, eE_ch, eE_ite, eE_tup, eE_lst, eE_ix, eE_sl, eE_rv, eE_isi, eE_call, eE_bf, eE_mt, eE_lam, eT_nt, eT_an, eT_or, eT_cmp, eT_ch, eT_v, eT_call, eT_isi, eT_ix, eT_c, eT_bf, eS_asg, eS_par, eS_lcs, eS_ret, eS_ex, eS_iff, eS_rai, eS_retN, eS_pass, eS_brk, ↓bind_ok, ↓bind_ex, ↓bind_no, evEs, evO, ixD, seqOf, seqL, atI, ixN, nox, c_lt, c_le, c_gt, c_ge, c_isN, c_isntN, c_isB, c_isntB, c_eq, c_ne, pureD, pureDs, near, dle, dles, deq, deqs, blD, setT, setTs, bfD, binD, setIx, truD, newL, isiD, ifsD, wipeD, pf0, pf1, pf2, pf3, pf4, pf5, pf6, pf7, pf8, pf9, pf10, pf11, pf12, pf13, pf14, pf15, pf16, pf17, pf18, pf19, pf20, pf21, pf22, pf23, pf24, pf25, pf26, pf27, pf28, pf29, pg0, pg1, pg2, plm0, f21, lenD, hl', fitsWs]
      omega
  | frz s => cases hv
  | ref s => cases hv
  | _ => simp [fnR, evSs, evW_e, evW_t, evW_s, eE_c, eE_v, eE_g, eE_bin, eE_neg, eE_nt, eE_an, eE_or, eE_cmp, eE_ch, eE_ite, eE_tup, eE_lst, eE_ix, eE_sl, eE_rv, eE_isi, eE_call, eE_bf, eE_mt, eE_lam, eT_nt, eT_an, eT_or, eT_cmp, eT_ch, eT_v, eT_call, eT_isi, eT_ix, eT_c, eT_bf, eS_asg, eS_par, eS_lcs, eS_ret, eS_ex, eS_iff, eS_rai, eS_retN, eS_pass, eS_brk, ↓bind_ok, ↓bind_ex, ↓bind_no, evEs, evO, ixD, seqOf, seqL, atI, ixN, nox, c_lt, c_le, c_gt, c_ge, c_isN, c_isntN, c_isB, c_isntB, c_eq, c_ne, pureD, pureDs, near, dle, dles, deq, deqs, blD, setT, setTs, bfD, binD, setIx, truD, newL, isiD, ifsD, wipeD, pf0, pf1, pf2, pf3, pf4, pf5, pf6, pf7, pf8, pf9, pf10, pf11, pf12, pf13, pf14, pf15, pf16, pf17, pf18, pf19, pf20, pf21, pf22, pf23, pf24, pf25, pf26, pf27, pf28, pf29, pg0, pg1, pg2, plm0, f21, fitsWs]
def fitsC0 (xs : List D) : D → Bool
  | .tup [.tup (.str _ :: _), ws] => fitsWs xs ws
  | _ => false
def fitsC (xs : List D) (v : D) : Bool := isNon v || fitsC0 xs v
def isHeapD : D → Bool
  | .tup xs => decide (xs.length ≤ 1000) && xs.all (fitsC xs)
  | _ => false
theorem fits_cell {b : Nat} (hb : 3 ≤ b) {S : Sto} (xs : List D) (v : D) (hv : pureD v = true) : fnD (evW P) b f29 [.tup xs, v] S = .ok (.bl (fitsC0 xs v)) S := by
  obtain ⟨b, rfl⟩ := off hb
  rw [fnD_run rfl]
  cases v with
  | tup vs =>
    match vs, hv with
    | [], _ => simp [fnR, evSs, evW_e, evW_t, evW_s, eE_c, eE_v, eE_g, eE_bin, eE_neg, eE_nt, eE_an, eE_or, eE_cmp, eE_ch, eE_ite, eE_tup, eE_lst, eE_ix, eE_sl, eE_rv, eE_isi, eE_call, eE_bf, eE_mt, eE_lam, eT_nt, eT_an, eT_or, eT_cmp, eT_ch, eT_v, eT_call, eT_isi, eT_ix, eT_c, eT_bf, eS_asg, eS_par, eS_lcs, eS_ret, eS_ex, eS_iff, eS_rai, eS_retN, eS_pass, eS_brk, ↓bind_ok, ↓bind_ex, ↓bind_no, evEs, evO, ixD, seqOf, seqL, atI, ixN, nox, c_lt, c_le, c_gt, c_ge, c_isN, c_isntN, c_isB, c_isntB, c_eq, c_ne, pureD, pureDs, near, dle, dles, deq, deqs, blD, setT, setTs, bfD, binD, setIx, truD, newL, isiD, ifsD, wipeD, pf0, pf1, pf2, pf3, pf4, pf5, pf6, pf7, pf8, pf9, pf10, pf11, pf12, pf13, pf14, pf15, pf16, pf17, pf18, pf19, pf20, pf21, pf22, pf23, pf24, pf25, pf26, pf27, pf28, pf29, pg0, pg1, pg2, plm0, f29, fitsC0, lenD]
    | [a], _ => simp [fnR, evSs, evW_e, evW_t, evW_s, eE_c, eE_v, eE_g, eE_bin, eE_neg, eE_nt, eE_an, eE_or, eE_cmp, eE_ch, eE_ite, eE_tup, eE_lst, eE_ix, eE_sl, eE_rv, eE_isi, eE_call, eE_bf, eE_mt, eE_lam, eT_nt, eT_an, eT_or, eT_cmp, eT_ch, eT_v, eT_call, eT_isi, eT_ix, eT_c, eT_bf, eS_asg, eS_par, eS_lcs, eS_ret, eS_ex, eS_iff, eS_rai, eS_retN, eS_pass, eS_brk, ↓bind_ok, ↓bind_ex, ↓bind_no, evEs, evO, ixD, seqOf, seqL, atI, ixN, nox, c_lt, c_le, c_gt, c_ge, c_isN, c_isntN, c_isB, c_isntB, c_eq, c_ne, pureD, pureDs, near, dle, dles, deq, deqs, blD, setT, setTs, bfD, binD, setIx, truD, newL, isiD, ifsD, wipeD, pf0, pf1, pf2, pf3, pf4, pf5, pf6, pf7, pf8, pf9, pf10, pf11, pf12, pf13, pf14, pf15, pf16, pf17, pf18, pf19, pf20, pf21, pf22, pf23, pf24, pf25, pf26, pf27, pf28, pf29, pg0, pg1, pg2, plm0, f29, fitsC0, lenD]
    | a :: a' :: a'' :: r, _ =>
      have q : ((r.length : Int) + 1 + 1 + 1 == 2) = false := by rw [beq_eq_false_iff_ne]; omega
      simp [fnR, evSs, evW_e, evW_t, evW_s, eE_c, eE_v, eE_g, eE_bin, eE_neg, eE_nt, eE_an, eE_or, eE_cmp, eE_ch, eE_ite, eE_tup, eE_lst, eE_ix, eE_sl, eE_rv, eE_isi, eE_call, eE_bf, eE_mt, eE_lam, eT_nt, eT_an, eT_or, eT_cmp, eT_ch, eT_v, eT_call, eT_isi, eT_ix, eT_c, eT_bf, eS_asg, eS_par, eS_lcs, eS_ret, eS_ex, eS_iff, eS_rai, eS_retN, eS_pass, eS_brk, ↓bind_ok, ↓bind_ex, ↓bind_no, evEs, evO, ixD, seqOf, seqL, atI, ixN, nox, c_lt, c_le, c_gt, c_ge, c_isN, c_isntN, c_isB, c_isntB, c_eq, c_ne, pureD, pureDs, near, dle, dles, deq, deqs, blD, setT, setTs, bfD, binD, setIx, truD, newL, isiD, ifsD, wipeD, pf0, pf1, pf2, pf3, pf4, pf5, pf6, pf7, pf8, pf9, pf10, pf11, pf12, pf13, pf14, pf15, pf16, pf17, pf18, pf19, pf20, pf21, pf22, pf23, pf24, pf25, pf26, pf27, pf28, pf29, pg0, pg1, pg2, plm0, f29, fitsC0, lenD, q]
    | [a, a'], hv =>
      have ha : pureD a' = true := by
        simp [pureD, pureDs] at hv
        exact hv.2
      have e := fits_words (b := b + 2) (by omega) (S := S) xs a' ha
      cases a with
      | tup l =>
        cases l with
        | nil => simp [fnR, evSs, evW_e, evW_t, evW_s, eE_c, eE_v, eE_g, eE_bin, eE_neg, eE_nt, eE_an, eE_or, eE_cmp, eE_ch, eE_ite, eE_tup, eE_lst, eE_ix, eE_sl, eE_rv, eE_isi, eE_call, eE_bf, eE_mt, eE_lam, eT_nt, eT_an, eT_or, eT_cmp, eT_ch, eT_v, eT_call, eT_isi, eT_ix, eT_c, eT_bf, eS_asg, eS_par, eS_lcs, eS_ret, eS_ex, eS_iff, eS_rai, eS_retN, eS_pass, eS_brk, ↓bind_ok, ↓bind_ex, ↓bind_no, evEs, evO, ixD, seqOf, seqL, atI, ixN, nox, c_lt, c_le, c_gt, c_ge, c_isN, c_isntN, c_isB, c_isntB, c_eq, c_ne, pureD, pureDs, near, dle, dles, deq, deqs, blD, setT, setTs, bfD, binD, setIx, truD, newL, isiD, ifsD, wipeD, pf0, pf1, pf2, pf3, pf4, pf5, pf6, pf7, pf8, pf9, pf10, pf11, pf12, pf13, pf14, pf15, pf16, pf17, pf18, pf19, pf20, pf21, pf22, pf23, pf24, pf25, pf26, pf27, pf28, pf29, pg0, pg1, pg2, plm0, f29, fitsC0, lenD]
        | cons s t =>
          have q : ((t.length : Int) + 1 == 0) = false := by rw [beq_eq_false_iff_ne]; omega
          have q0 : (0 : Int) < (t.length : Int) + 1 := by omega
          cases s <;> simp [fnR, evSs, evW_e, evW_t, evW_s, eE_c, eE_v, eE_g, eE_bin, eE_neg, eE_nt, eE_an, eE_or, eE_cmp, eE_ch, eE_ite, eE_tup, eE_lst, eE_ix, eE_sl, eE_rv, eE_isi, eE_call, eE_bf, eE_mt, eE_lam, eT_nt, eT_an, eT_or, eT_cmp, eT_ch, eT_v, eT_call, eT_isi, eT_ix, eT_c, eT_bf, eS_asg, eS_par, eS_lcs, eS_ret, eS_ex, eS_iff, eS_rai, eS_retN, eS_pass, eS_brk, ↓bind_ok, ↓bind_ex, ↓bind_no, evEs, evO, ixD, seqOf, seqL, atI, ixN, nox, c_lt, c_le, c_gt, c_ge, c_isN, c_isntN, c_isB, c_isntB, c_eq, c_ne, pureD, pureDs, near, dle, dles, deq, deqs, blD, setT, setTs, bfD, binD, setIx, truD, newL, isiD, ifsD, wipeD, pf0, pf1, pf2, pf3, pf4, pf5, pf6, pf7, pf8, pf9, pf10, pf11, pf12, pf13, pf14, pf15, pf16, pf17, pf18, pf19, pf20, pf21, pf22, pf23, pf24, pf25, pf26, pf27, pf28, pf29, pg0, pg1, pg2, plm0, f29, fitsC0, lenD, q, q0, e]
      | frz s => simp [pureD, pureDs] at hv
      | ref s => simp [pureD, pureDs] at hv
      | _ => simp [fnR, evSs, evW_e, evW_t, evW_s, eE_c, eE_v, eE_g, eE_bin, eE_neg, eE_nt, eE_an, eE_or, eE_cmp, eE_ch, eE_ite, eE_tup, eE_lst, eE_ix, eE_sl, eE_rv, eE_isi, eE_call, eE_bf, eE_mt, eE_lam, eT_nt, eT_an, eT_or, eT_cmp, eT_ch, eT_v, eT_call, eT_isi, eT_ix, eT_c, eT_bf, eS_asg, eS_par, eS_lcs, eS_ret, eS_ex, eS_iff, eS_rai, eS_retN, eS_pass, eS_brk, ↓bind_ok, ↓bind_ex, ↓bind_no, evEs, evO, ixD, seqOf, seqL, atI, ixN, nox, c_lt, c_le, c_gt, c_ge, c_isN, c_isntN, c_isB, c_isntB, c_eq, c_ne, pureD, pureDs, near, dle, dles, deq, deqs, blD, setT, setTs, bfD, binD, setIx, truD, newL, isiD, ifsD, wipeD, pf0, pf1, pf2, pf3, pf4, pf5, pf6, pf7, pf8, pf9, pf10, pf11, pf12, pf13, pf14, pf15, pf16, pf17, pf18, pf19, pf20, pf21, pf22, pf23, pf24, pf25, pf26, pf27, pf28, pf29, pg0, pg1, pg2, plm0, f29, fitsC0, lenD]
  | frz s => cases hv
  | ref s => cases hv
  | _ => simp [fnR, evSs, evW_e, evW_t, evW_s, eE_c, eE_v, eE_g, eE_bin, eE_neg, eE_nt, eE_an, eE_or, eE_cmp, eE_ch, eE_ite, eE_tup, eE_lst, eE_ix, eE_sl, eE_rv, eE_isi, eE_call, eE_bf, eE_mt, eE_lam, eT_nt, eT_an, eT_or, eT_cmp, eT_ch, eT_v, eT_call, eT_isi, eT_ix, eT_c, eT_bf, eS_asg, eS_par, eS_lcs, eS_ret, eS_ex, eS_iff, eS_rai, eS_retN, eS_pass, eS_brk, ↓bind_ok, ↓bind_ex, ↓bind_no, evEs, evO, ixD, seqOf, seqL, atI, ixN, nox, c_lt, c_le, c_gt, c_ge, c_isN, c_isntN, c_isB, c_isntB, c_eq, c_ne, pureD, pureDs, near, dle, dles, deq, deqs, blD, setT, setTs, bfD, binD, setIx, truD, newL, isiD, ifsD, wipeD, pf0, pf1, pf2, pf3, pf4, pf5, pf6, pf7, pf8, pf9, pf10, pf11, pf12, pf13, pf14, pf15, pf16, pf17, pf18, pf19, pf20, pf21, pf22, pf23, pf24, pf25, pf26, pf27, pf28, pf29, pg0, pg1, pg2, plm0, f29, fitsC0]
theorem fits_heap {b : Nat} (hb : 4 ≤ b) {S : Sto} (v : D) (hv : pureD v = true) : fnD (evW P) b f25 [v] S = .ok (.bl (isHeapD v)) S := by
  obtain ⟨b, rfl⟩ := off hb
  rw [fnD_run rfl]
  cases v with
  | tup xs =>
    by_cases hl : xs.length ≤ 1000
    · have hl' : ¬ (1000 : Int) < xs.length := by omega
      have e : stE P (evW P) (b + 4) (.lc false (.or (.cmp .isN (.v 1) (.c .non)) (.call 29 [(.v 0), (.v 1)])) (.nm 1) [1] (.seq (.v 0)) none) [some (.tup xs), none] S = .ok (.lst (xs.map fun w => .bl (fitsC xs w))) S := by
        rw [eE_lc, it_tup (xs := xs) (S1 := S) (by simp [fnR, evSs, evW_e, evW_t, evW_s, eE_c, eE_v, eE_g, eE_bin, eE_neg, eE_nt, eE_an, eE_or, eE_cmp, eE_ch, eE_ite, eE_tup, eE_lst, eE_ix, eE_sl, eE_rv, eE_isi, eE_call, eE_bf, eE_mt, eE_lam, eT_nt, eT_an, eT_or, eT_cmp, eT_ch, eT_v, eT_call, eT_isi, eT_ix, eT_c, eT_bf, eS_asg, eS_par, eS_lcs, eS_ret, eS_ex, eS_iff, eS_rai, eS_retN, eS_pass, eS_brk, ↓bind_ok, ↓bind_ex, ↓bind_no, evEs, evO, ixD, seqOf, seqL, atI, ixN, nox, c_lt, c_le, c_gt, c_ge, c_isN, c_isntN, c_isB, c_isntB, c_eq, c_ne, pureD, pureDs, near, dle, dles, deq, deqs, blD, setT, setTs, bfD, binD, setIx, truD, newL, isiD, ifsD, wipeD, pf0, pf1, pf2, pf3, pf4, pf5, pf6, pf7, pf8, pf9, pf10, pf11, pf12, pf13, pf14, pf15, pf16, pf17, pf18, pf19, pf20, pf21, pf22, pf23, pf24, pf25, pf26, pf27, pf28, pf29, pg0, pg1, pg2, plm0])]
        simp only [bind_ok]
        rw [lcL_pure (sl := fun d => [some (.tup xs), some d]) (p := fun _ => true) (f := fun w => .bl (fitsC xs w)) rfl]
        · simp [nox, newL, bind_ok, filter_tt]
        · intro d hd
          have := fits_cell (b := b + 3) (by omega) (S := S) xs d (pureDs_mem hv d hd)
          refine ⟨rfl, rfl, fun _ => ?_⟩
          cases hn : isNon d <;> simp [fnR, evSs, evW_e, evW_t, evW_s, eE_c, eE_v, eE_g, eE_bin, eE_neg, eE_nt, eE_an, eE_or, eE_cmp, eE_ch, eE_ite, eE_tup, eE_lst, eE_ix, eE_sl, eE_rv, eE_isi, eE_call, eE_bf, eE_mt, eE_lam, eT_nt, eT_an, eT_or, eT_cmp, eT_ch, eT_v, eT_call, eT_isi, eT_ix, eT_c, eT_bf, eS_asg, eS_par, eS_lcs, eS_ret, eS_ex, eS_iff, eS_rai, eS_retN, eS_pass, eS_brk, ↓bind_ok, ↓bind_ex, ↓bind_no, evEs, evO, ixD, seqOf, seqL, atI, ixN, nox, c_lt, c_le, c_gt, c_ge, c_isN, c_isntN, c_isB, c_isntB, c_eq, c_ne, pureD, pureDs, near, dle, dles, deq, deqs, blD, setT, setTs, bfD, binD, setIx, truD, newL, isiD, ifsD, wipeD, pf0, pf1, pf2, pf3, pf4, pf5, pf6, pf7, pf8, pf9, pf10, pf11, pf12, pf13, pf14, pf15, pf16, pf17, pf18, pf19, pf20, pf21, pf22, pf23, pf24, pf25, pf26, pf27, pf28, pf29, pg0, pg1, pg2, plm0, this, hn, fitsC]
        · simp [sizeMax]
          omega
      simp [fnR, evSs, evW_e, evW_t, evW_s, eE_c, eE_v, eE_g, eE_bin, eE_neg, eE_nt, eE_an, eE_or, eE_cmp, eE_ch, eE_ite, eE_tup, eE_lst, eE_ix, eE_sl, eE_rv, eE_isi, eE_call, eE_bf, eE_mt, eE_lam, eT_nt, eT_an, eT_or, eT_cmp, eT_ch, eT_v, eT_call, eT_isi, eT_ix, eT_c, eT_bf, eS_asg, eS_par, eS_lcs, eS_ret, eS_ex, eS_iff, eS_rai, eS_retN, eS_pass, eS_brk, ↓bind_ok, ↓bind_ex, ↓bind_no, evEs, evO, ixD, seqOf, seqL, atI, ixN, nox, c_lt, c_le, c_gt, c_ge, c_isN, c_isntN, c_isB, c_isntB, c_eq, c_ne, pureD, pureDs, near, dle, dles, deq, deqs, blD, setT, setTs, bfD, binD, setIx, truD, newL, isiD, ifsD, wipeD, pf0, pf1, pf2, pf3, pf4, pf5, pf6, pf7, pf8, pf9, pf10, pf11, pf12, pf13, pf14, pf15, pf16, pf17, pf18, pf19, pf20, pf21, pf22, pf23, pf24, pf25, pf26, pf27, pf28, pf29, pg0, pg1, pg2, plm0, f25, lenD, hl', e, allD, blsOf, blsD_map, isHeapD, hl]
    · have hl' : (1000 : Int) < xs.length := by omega
      simp [fnR, evSs, evW_e, evW_t, evW_s, eE_c, eE_v, eE_g, eE_bin, eE_neg, eE_nt, eE_an, eE_or, eE_cmp, eE_ch, eE_ite, eE_tup, eE_lst, eE_ix, eE_sl, eE_rv, eE_isi, eE_call, eE_bf, eE_mt, eE_lam, eT_nt, eT_an, eT_or, eT_cmp, eT_ch, eT_v, eT_call, eT_isi, eT_ix, eT_c, eT_bf, eS_asg, eS_par, eS_lcs, eS_ret, eS_ex, eS_iff, eS_rai, eS_retN, eS_pass, eS_brk, ↓bind_ok, ↓bind_ex, ↓bind_no, evEs, evO, ixD, seqOf, seqL, atI, ixN, nox, c_lt, c_le, c_gt, c_ge, c_isN, c_isntN, c_isB, c_isntB, c_eq, c_ne, pureD, pureDs, near, dle, dles, deq, deqs, blD, setT, setTs, bfD, binD, setIx, truD, newL, isiD, ifsD, wipeD, pf0, pf1, pf2, pf3, pf4, pf5, pf6, pf7, pf8, pf9, pf10, pf11, pf12, pf13, pf14, pf15, pf16, pf17, pf18, pf19, pf20, pf21, pf22, pf23, pf24, pf25, pf26, pf27, pf28, pf29, pg0, pg1, pg2, plm0, f25, lenD, hl', isHeapD]
      omega
  | frz s => cases hv
  | ref s => cases hv
  | _ => simp [fnR, evSs, evW_e, evW_t, evW_s, eE_c, eE_v, eE_g, eE_bin, eE_neg, eE_nt, eE_an, eE_or, eE_cmp, eE_ch, eE_ite, eE_tup, eE_lst, eE_ix, eE_sl, eE_rv, eE_isi, eE_call, eE_bf, eE_mt, eE_lam, eT_nt, eT_an, eT_or, eT_cmp, eT_ch, eT_v, eT_call, eT_isi, eT_ix, eT_c, eT_bf, eS_asg, eS_par, eS_lcs, eS_ret, eS_ex, eS_iff, eS_rai, eS_retN, eS_pass, eS_brk, ↓bind_ok, ↓bind_ex, ↓bind_no, evEs, evO, ixD, seqOf, seqL, atI, ixN, nox, c_lt, c_le, c_gt, c_ge, c_isN, c_isntN, c_isB, c_isntB, c_eq, c_ne, pureD, pureDs, near, dle, dles, deq, deqs, blD, setT, setTs, bfD, binD, setIx, truD, newL, isiD, ifsD, wipeD, pf0, pf1, pf2, pf3, pf4, pf5, pf6, pf7, pf8, pf9, pf10, pf11, pf12, pf13, pf14, pf15, pf16, pf17, pf18, pf19, pf20, pf21, pf22, pf23, pf24, pf25, pf26, pf27, pf28, pf29, pg0, pg1, pg2, plm0, f25, isHeapD]
theorem need_heap {b : Nat} (hb : 5 ≤ b) {S : Sto} (v : D) (hv : pureD v = true) : fnD (evW P) b f20 [v] S = if isHeapD v then .ok .non S else .ex ⟨1, none⟩ S := by
  obtain ⟨b, rfl⟩ := off hb
  rw [fnD_run rfl]
  cases q : isHeapD v <;> simp [fnR, evSs, evW_e, evW_t, evW_s, eE_c, eE_v, eE_g, eE_bin, eE_neg, eE_nt, eE_an, eE_or, eE_cmp, eE_ch, eE_ite, eE_tup, eE_lst, eE_ix, eE_sl, eE_rv, eE_isi, eE_call, eE_bf, eE_mt, eE_lam, eT_nt, eT_an, eT_or, eT_cmp, eT_ch, eT_v, eT_call, eT_isi, eT_ix, eT_c, eT_bf, eS_asg, eS_par, eS_lcs, eS_ret, eS_ex, eS_iff, eS_rai, eS_retN, eS_pass, eS_brk, ↓bind_ok, ↓bind_ex, ↓bind_no, evEs, evO, ixD, seqOf, seqL, atI, ixN, nox, c_lt, c_le, c_gt, c_ge, c_isN, c_isntN, c_isB, c_isntB, c_eq, c_ne, pureD, pureDs, near, dle, dles, deq, deqs, blD, setT, setTs, bfD, binD, setIx, truD, newL, isiD, ifsD, wipeD, pf0, pf1, pf2, pf3, pf4, pf5, pf6, pf7, pf8, pf9, pf10, pf11, pf12, pf13, pf14, pf15, pf16, pf17, pf18, pf19, pf20, pf21, pf22, pf23, pf24, pf25, pf26, pf27, pf28, pf29, pg0, pg1, pg2, plm0, f20, fits_heap (b := b + 4) (by omega) v hv, q]
theorem need_roots {b : Nat} (hb : 6 ≤ b) {S : Sto} (xs : List D) (v : D) (hx : pureD (.tup xs) = true) (hv : pureD v = true) (hh : isHeapD (.tup xs) = true) : fnD (evW P) b f15 [.tup xs, v] S = if fitsWs xs v then .ok .non S else .ex ⟨0, none⟩ S := by
  obtain ⟨b, rfl⟩ := off hb
  rw [fnD_run rfl]
  cases q : fitsWs xs v <;> simp [fnR, evSs, evW_e, evW_t, evW_s, eE_c, eE_v, eE_g, eE_bin, eE_neg, eE_nt, eE_an, eE_or, eE_cmp, eE_ch, eE_ite, eE_tup, eE_lst, eE_ix, eE_sl, eE_rv, eE_isi, eE_call, eE_bf, eE_mt, eE_lam, eT_nt, eT_an, eT_or, eT_cmp, eT_ch, eT_v, eT_call, eT_isi, eT_ix, eT_c, eT_bf, eS_asg, eS_par, eS_lcs, eS_ret, eS_ex, eS_iff, eS_rai, eS_retN, eS_pass, eS_brk, ↓bind_ok, ↓bind_ex, ↓bind_no, evEs, evO, ixD, seqOf, seqL, atI, ixN, nox, c_lt, c_le, c_gt, c_ge, c_isN, c_isntN, c_isB, c_isntB, c_eq, c_ne, pureD, pureDs, near, dle, dles, deq, deqs, blD, setT, setTs, bfD, binD, setIx, truD, newL, isiD, ifsD, wipeD, pf0, pf1, pf2, pf3, pf4, pf5, pf6, pf7, pf8, pf9, pf10, pf11, pf12, pf13, pf14, pf15, pf16, pf17, pf18, pf19, pf20, pf21, pf22, pf23, pf24, pf25, pf26, pf27, pf28, pf29, pg0, pg1, pg2, plm0, f15, need_heap (b := b + 5) (by omega) (.tup xs) hx, hh, fits_words (b := b + 5) (by omega) xs v hv, q]
/-! ### drawn heaps are heaps -/
theorem encW_pure (w : Wd) : pureD (encW w) = true := by cases w <;> rfl
theorem encWs_pure (ws : List Wd) : pureDs (ws.map encW) = true := pureDs_of fun x hx => by
  obtain ⟨w, _, rfl⟩ := List.mem_map.mp hx
  exact encW_pure w
theorem encC_pure (c : Ce) : pureD (encC c) = true := by
  cases c with
  | none => rfl
  | some p => simp [encC, pureD, pureDs, encWs_pure]
theorem encH_pure (h : List Ce) : pureDs (h.map encC) = true := pureDs_of fun x hx => by
  obtain ⟨w, _, rfl⟩ := List.mem_map.mp hx
  exact encC_pure w
theorem fitsW_enc {h : List Ce} {w : Wd} (hw : WdOk h w) : fitsW (h.map encC) (encW w) = true := by
  cases w with
  | non => rfl
  | num i =>
    obtain ⟨h1, h2⟩ := hw
    simp [encW, fitsW, isNumT, numT, deq, fitsN, h1, h2]
  | adr a =>
    obtain ⟨⟨l, ws⟩, hc⟩ := hw
    obtain ⟨hlt, hg⟩ := List.getElem?_eq_some_iff.mp hc
    simp [encW, fitsW, hlt, hg, encC, isNon]
theorem fitsWs_enc {h : List Ce} {ws : List Wd} (hl : ws.length ≤ 12) (hw : ∀ w ∈ ws, WdOk h w) : fitsWs (h.map encC) (.tup (ws.map encW)) = true := by
  simp only [fitsWs, List.length_map, hl, decide_true, Bool.true_and, List.all_eq_true]
  intro x hx
  obtain ⟨w, hm, rfl⟩ := List.mem_map.mp hx
  exact fitsW_enc (hw w hm)
theorem isHeap_enc {h : List Ce} (o : HpOk h) : isHeapD (.tup (h.map encC)) = true := by
  have := o.len
  have q : h.length ≤ 1000 := by omega
  simp only [isHeapD, List.length_map, q, decide_true, Bool.true_and, List.all_eq_true]
  intro x hx
  obtain ⟨c, hm, rfl⟩ := List.mem_map.mp hx
  cases c with
  | none => rfl
  | some p =>
    obtain ⟨l, ws⟩ := p
    obtain ⟨h1, h2⟩ := o.wds l ws hm
    have := fitsWs_enc (h := h) (ws := ws) (by omega) h2
    simp [fitsC, encC, fitsC0, isNon, this]
/-- drawn roots -/
theorem roots {b : Nat} (hb : 6 ≤ b) (c : Int × Int) (r : Sto) (h : List Ce) (o : HpOk h) : ∃ (rs : List Wd) (c' : Int × Int), fnD (evW P) b f3 [.ref 0, encH h] (cupD c :: r) = .ok (.tup (rs.map encW)) (cupD c' :: r) ∧ RtOk h rs := by
  obtain ⟨b, rfl⟩ := off hb
  have hl := o.len
  have l62 := lim62_small (i := (h.length : Int)) (by omega) (by omega)
  have e1 : stE P (evW P) (b + 6) (.lc false (.v 3) (.nm 3) [3] (.rng1 (.bf .len false [(.v 1)])) (some (.cmp .isntN (.ix (.v 1) (.v 3)) (.c .non)))) [some (.ref 0), some (.tup (h.map encC)), none, none, none] (cupD c :: r) = .ok (.lst (((List.range h.length).filter fun a => (h[a]?.getD none).isSome).map natD)) (cupD c :: r) := by
    rw [eE_lc, it_rng1 (n := h.length) (S1 := cupD c :: r) (by simp [fnR, evSs, evW_e, evW_t, evW_s, eE_c, eE_v, eE_g, eE_bin, eE_neg, eE_nt, eE_an, eE_or, eE_cmp, eE_ch, eE_ite, eE_tup, eE_lst, eE_ix, eE_sl, eE_rv, eE_isi, eE_call, eE_bf, eE_mt, eE_lam, eT_nt, eT_an, eT_or, eT_cmp, eT_ch, eT_v, eT_call, eT_isi, eT_ix, eT_c, eT_bf, eS_asg, eS_par, eS_lcs, eS_ret, eS_ex, eS_iff, eS_rai, eS_retN, eS_pass, eS_brk, ↓bind_ok, ↓bind_ex, ↓bind_no, evEs, evO, ixD, seqOf, seqL, atI, ixN, nox, c_lt, c_le, c_gt, c_ge, c_isN, c_isntN, c_isB, c_isntB, c_eq, c_ne, pureD, pureDs, near, dle, dles, deq, deqs, blD, setT, setTs, bfD, binD, setIx, truD, newL, isiD, ifsD, wipeD, pf0, pf1, pf2, pf3, pf4, pf5, pf6, pf7, pf8, pf9, pf10, pf11, pf12, pf13, pf14, pf15, pf16, pf17, pf18, pf19, pf20, pf21, pf22, pf23, pf24, pf25, pf26, pf27, pf28, pf29, pg0, pg1, pg2, plm0, lenD]) l62]
    simp only [bind_ok]
    rw [lcL_pure (sl := fun d => [some (.ref 0), some (.tup (h.map encC)), none, some d, none]) (p := fun d => match d with | .int i => (h[i.toNat]?.getD none).isSome | _ => false) (f := fun w => w) rfl]
    · simp only [nox, newL, bind_ok, List.map_id', List.nil_append, Int.toNat_natCast, rngI_map, List.filter_map, Int.zero_add]
      rfl
    · intro d hd
      rw [Int.toNat_natCast, rngI_map] at hd
      obtain ⟨i, hi, rfl⟩ := List.mem_map.mp hd
      have hi : i < h.length := List.mem_range.mp hi
      have hi' : (i : Int) < h.length := by omega
      refine ⟨rfl, ?_, fun _ => by simp [fnR, evSs, evW_e, evW_t, evW_s, eE_c, eE_v, eE_g, eE_bin, eE_neg, eE_nt, eE_an, eE_or, eE_cmp, eE_ch, eE_ite, eE_tup, eE_lst, eE_ix, eE_sl, eE_rv, eE_isi, eE_call, eE_bf, eE_mt, eE_lam, eT_nt, eT_an, eT_or, eT_cmp, eT_ch, eT_v, eT_call, eT_isi, eT_ix, eT_c, eT_bf, eS_asg, eS_par, eS_lcs, eS_ret, eS_ex, eS_iff, eS_rai, eS_retN, eS_pass, eS_brk, ↓bind_ok, ↓bind_ex, ↓bind_no, evEs, evO, ixD, seqOf, seqL, atI, ixN, nox, c_lt, c_le, c_gt, c_ge, c_isN, c_isntN, c_isB, c_isntB, c_eq, c_ne, pureD, pureDs, near, dle, dles, deq, deqs, blD, setT, setTs, bfD, binD, setIx, truD, newL, isiD, ifsD, wipeD, pf0, pf1, pf2, pf3, pf4, pf5, pf6, pf7, pf8, pf9, pf10, pf11, pf12, pf13, pf14, pf15, pf16, pf17, pf18, pf19, pf20, pf21, pf22, pf23, pf24, pf25, pf26, pf27, pf28, pf29, pg0, pg1, pg2, plm0]⟩
      cases q : h[i] with
      | none => simp [fnR, evSs, evW_e, evW_t, evW_s, eE_c, eE_v, eE_g, eE_bin, eE_neg, eE_nt, eE_an, eE_or, eE_cmp, eE_ch, eE_ite, eE_tup, eE_lst, eE_ix, eE_sl, eE_rv, eE_isi, eE_call, eE_bf, eE_mt, eE_lam, eT_nt, eT_an, eT_or, eT_cmp, eT_ch, eT_v, eT_call, eT_isi, eT_ix, eT_c, eT_bf, eS_asg, eS_par, eS_lcs, eS_ret, eS_ex, eS_iff, eS_rai, eS_retN, eS_pass, eS_brk, ↓bind_ok, ↓bind_ex, ↓bind_no, evEs, evO, ixD, seqOf, seqL, atI, ixN, nox, c_lt, c_le, c_gt, c_ge, c_isN, c_isntN, c_isB, c_isntB, c_eq, c_ne, pureD, pureDs, near, dle, dles, deq, deqs, blD, setT, setTs, bfD, binD, setIx, truD, newL, isiD, ifsD, wipeD, pf0, pf1, pf2, pf3, pf4, pf5, pf6, pf7, pf8, pf9, pf10, pf11, pf12, pf13, pf14, pf15, pf16, pf17, pf18, pf19, pf20, pf21, pf22, pf23, pf24, pf25, pf26, pf27, pf28, pf29, pg0, pg1, pg2, plm0, hi, hi', Int.zero_add, q, encC, isNon]
      | some p => simp [fnR, evSs, evW_e, evW_t, evW_s, eE_c, eE_v, eE_g, eE_bin, eE_neg, eE_nt, eE_an, eE_or, eE_cmp, eE_ch, eE_ite, eE_tup, eE_lst, eE_ix, eE_sl, eE_rv, eE_isi, eE_call, eE_bf, eE_mt, eE_lam, eT_nt, eT_an, eT_or, eT_cmp, eT_ch, eT_v, eT_call, eT_isi, eT_ix, eT_c, eT_bf, eS_asg, eS_par, eS_lcs, eS_ret, eS_ex, eS_iff, eS_rai, eS_retN, eS_pass, eS_brk, ↓bind_ok, ↓bind_ex, ↓bind_no, evEs, evO, ixD, seqOf, seqL, atI, ixN, nox, c_lt, c_le, c_gt, c_ge, c_isN, c_isntN, c_isB, c_isntB, c_eq, c_ne, pureD, pureDs, near, dle, dles, deq, deqs, blD, setT, setTs, bfD, binD, setIx, truD, newL, isiD, ifsD, wipeD, pf0, pf1, pf2, pf3, pf4, pf5, pf6, pf7, pf8, pf9, pf10, pf11, pf12, pf13, pf14, pf15, pf16, pf17, pf18, pf19, pf20, pf21, pf22, pf23, pf24, pf25, pf26, pf27, pf28, pf29, pg0, pg1, pg2, plm0, hi, hi', Int.zero_add, q, encC, isNon]
    · rw [rngI_map]
      simp [sizeMax]
      omega
  have hz : ((List.range h.length).filter fun a => (h[a]?.getD none).isSome).length < 1000 := Nat.lt_of_le_of_lt (List.length_filter_le ..) (by rw [List.length_range]; omega)
  obtain ⟨ws, c1, e2, h1, h2⟩ := lc_words (b := b + 6) (by omega) c r _ hz [some (.ref 0), some (.tup (h.map encC)), some (.lst (((List.range h.length).filter fun a => (h[a]?.getD none).isSome).map natD)), none, none] 0 2 4 [0, 1, 1, 2, 3] (by simp) (by decide) (by decide) rfl rfl (by omega) (by omega)
  have e2 : stE P (evW P) (b + 6) (.lc false (.call 10 [.v 0, .v 2]) (.nm 4) [4] (.rng1 (.call 11 [.v 0, .lst false [.c (.int 0), .c (.int 1), .c (.int 1), .c (.int 2), .c (.int 3)]])) none) [some (.ref 0), some (.tup (h.map encC)), some (.lst (((List.range h.length).filter fun a => (h[a]?.getD none).isSome).map natD)), none, none] (cupD c :: r) = .ok (.lst (ws.map encW)) (cupD c1 :: r) := e2
  refine ⟨ws, c1, ?_, by omega, fun x hx => ?_⟩
  · rw [fnD_run rfl]
    simp [fnR, evSs, evW_e, evW_t, evW_s, eE_c, eE_v, eE_g, eE_bin, eE_neg, eE_nt, eE_an, eE_or, eE_cmp, eE_ch, eE_ite, eE_tup, eE_lst, eE_ix, eE_sl, eE_rv, eE_isi, eE_call, eE_bf, eE_mt, eE_lam, eT_nt, eT_an, eT_or, eT_cmp, eT_ch, eT_v, eT_call, eT_isi, eT_ix, eT_c, eT_bf, eS_asg, eS_par, eS_lcs, eS_ret, eS_ex, eS_iff, eS_rai, eS_retN, eS_pass, eS_brk, ↓bind_ok, ↓bind_ex, ↓bind_no, evEs, evO, ixD, seqOf, seqL, atI, ixN, nox, c_lt, c_le, c_gt, c_ge, c_isN, c_isntN, c_isB, c_isntB, c_eq, c_ne, pureD, pureDs, near, dle, dles, deq, deqs, blD, setT, setTs, bfD, binD, setIx, truD, newL, isiD, ifsD, wipeD, pf0, pf1, pf2, pf3, pf4, pf5, pf6, pf7, pf8, pf9, pf10, pf11, pf12, pf13, pf14, pf15, pf16, pf17, pf18, pf19, pf20, pf21, pf22, pf23, pf24, pf25, pf26, pf27, pf28, pf29, pg0, pg1, pg2, plm0, f3, encH, e1, e2, tupleD]
  · have := h2 x hx
    cases x with
    | non => trivial
    | num i => exact ⟨by have := this.1; omega, by have := this.2; omega⟩
    | adr a =>
      have := List.mem_filter.mp this
      show ∃ c, h[a]? = some (some c)
      cases q : h[a]? with
      | none => simp [q] at this
      | some p =>
        cases p with
        | none => simp [q] at this
        | some c => exact ⟨c, rfl⟩
/-! ### the addresses among words -/
theorem adrs_filter : ∀ ws : List Wd, (ws.map encW).filter isIntD = (adrs ws).map natD
  | [] => rfl
  | .non :: r => by simp [encW, isIntD, adrs, adrs_filter r]
  | .num i :: r => by simp [encW, isIntD, adrs, adrs_filter r]
  | .adr a :: r => by
    rw [List.map_cons, List.filter_cons_of_pos rfl, adrs_filter r]
    rfl
theorem adrs_lc {b : Nat} (hb : 1 ≤ b) (ws : List Wd) (hl : ws.length ≤ 20) (S : Sto) : lcL none (fun d S => setT ((evW P).e b) 9 (.nm 1) d (wipeD [some (.tup (ws.map encW)), none] [1]) S) (fun sl S => ifsD ((evW P).t b) (some (.call 28 [(.v 1)])) sl S) (fun sl S => (evW P).e b (.v 1) sl S) (ws.map encW) [] S = .ok ((adrs ws).map natD) S := by
  obtain ⟨b, rfl⟩ := off hb
  rw [lcL_pure (sl := fun d => [some (.tup (ws.map encW)), some d]) (p := isIntD) (f := fun w => w) rfl]
  · simp [adrs_filter]
  · intro d hd
    exact ⟨rfl, by simp [fnR, evSs, evW_e, evW_t, evW_s, eE_c, eE_v, eE_g, eE_bin, eE_neg, eE_nt, eE_an, eE_or, eE_cmp, eE_ch, eE_ite, eE_tup, eE_lst, eE_ix, eE_sl, eE_rv, eE_isi, eE_call, eE_bf, eE_mt, eE_lam, eT_nt, eT_an, eT_or, eT_cmp, eT_ch, eT_v, eT_call, eT_isi, eT_ix, eT_c, eT_bf, eS_asg, eS_par, eS_lcs, eS_ret, eS_ex, eS_iff, eS_rai, eS_retN, eS_pass, eS_brk, ↓bind_ok, ↓bind_ex, ↓bind_no, evEs, evO, ixD, seqOf, seqL, atI, ixN, nox, c_lt, c_le, c_gt, c_ge, c_isN, c_isntN, c_isB, c_isntB, c_eq, c_ne, pureD, pureDs, near, dle, dles, deq, deqs, blD, setT, setTs, bfD, binD, setIx, truD, newL, isiD, ifsD, wipeD, pf0, pf1, pf2, pf3, pf4, pf5, pf6, pf7, pf8, pf9, pf10, pf11, pf12, pf13, pf14, pf15, pf16, pf17, pf18, pf19, pf20, pf21, pf22, pf23, pf24, pf25, pf26, pf27, pf28, pf29, pg0, pg1, pg2, plm0, is_integer], fun _ => by simp [fnR, evSs, evW_e, evW_t, evW_s, eE_c, eE_v, eE_g, eE_bin, eE_neg, eE_nt, eE_an, eE_or, eE_cmp, eE_ch, eE_ite, eE_tup, eE_lst, eE_ix, eE_sl, eE_rv, eE_isi, eE_call, eE_bf, eE_mt, eE_lam, eT_nt, eT_an, eT_or, eT_cmp, eT_ch, eT_v, eT_call, eT_isi, eT_ix, eT_c, eT_bf, eS_asg, eS_par, eS_lcs, eS_ret, eS_ex, eS_iff, eS_rai, eS_retN, eS_pass, eS_brk, ↓bind_ok, ↓bind_ex, ↓bind_no, evEs, evO, ixD, seqOf, seqL, atI, ixN, nox, c_lt, c_le, c_gt, c_ge, c_isN, c_isntN, c_isB, c_isntB, c_eq, c_ne, pureD, pureDs, near, dle, dles, deq, deqs, blD, setT, setTs, bfD, binD, setIx, truD, newL, isiD, ifsD, wipeD, pf0, pf1, pf2, pf3, pf4, pf5, pf6, pf7, pf8, pf9, pf10, pf11, pf12, pf13, pf14, pf15, pf16, pf17, pf18, pf19, pf20, pf21, pf22, pf23, pf24, pf25, pf26, pf27, pf28, pf29, pg0, pg1, pg2, plm0]⟩
  · simp [sizeMax]
    omega
theorem addresses_in {b : Nat} (hb : 1 ≤ b) (ws : List Wd) (hl : ws.length ≤ 20) (S : Sto) : fnD (evW P) b f27 [.tup (ws.map encW)] S = .ok (.lst ((adrs ws).map natD)) S := by
  have e : stE P (evW P) b (.lc false (.v 1) (.nm 1) [1] (.seq (.v 0)) (some (.call 28 [(.v 1)]))) [some (.tup (ws.map encW)), none] S = .ok (.lst ((adrs ws).map natD)) S := by
    rw [eE_lc, it_tup (xs := ws.map encW) (S1 := S) (by simp [fnR, evSs, evW_e, evW_t, evW_s, eE_c, eE_v, eE_g, eE_bin, eE_neg, eE_nt, eE_an, eE_or, eE_cmp, eE_ch, eE_ite, eE_tup, eE_lst, eE_ix, eE_sl, eE_rv, eE_isi, eE_call, eE_bf, eE_mt, eE_lam, eT_nt, eT_an, eT_or, eT_cmp, eT_ch, eT_v, eT_call, eT_isi, eT_ix, eT_c, eT_bf, eS_asg, eS_par, eS_lcs, eS_ret, eS_ex, eS_iff, eS_rai, eS_retN, eS_pass, eS_brk, ↓bind_ok, ↓bind_ex, ↓bind_no, evEs, evO, ixD, seqOf, seqL, atI, ixN, nox, c_lt, c_le, c_gt, c_ge, c_isN, c_isntN, c_isB, c_isntB, c_eq, c_ne, pureD, pureDs, near, dle, dles, deq, deqs, blD, setT, setTs, bfD, binD, setIx, truD, newL, isiD, ifsD, wipeD, pf0, pf1, pf2, pf3, pf4, pf5, pf6, pf7, pf8, pf9, pf10, pf11, pf12, pf13, pf14, pf15, pf16, pf17, pf18, pf19, pf20, pf21, pf22, pf23, pf24, pf25, pf26, pf27, pf28, pf29, pg0, pg1, pg2, plm0])]
    simp only [bind_ok]
    rw [adrs_lc hb ws hl S]
    rfl
  rw [fnD_run rfl]
  simp [fnR, evSs, evW_e, evW_t, evW_s, eE_c, eE_v, eE_g, eE_bin, eE_neg, eE_nt, eE_an, eE_or, eE_cmp, eE_ch, eE_ite, eE_tup, eE_lst, eE_ix, eE_sl, eE_rv, eE_isi, eE_call, eE_bf, eE_mt, eE_lam, eT_nt, eT_an, eT_or, eT_cmp, eT_ch, eT_v, eT_call, eT_isi, eT_ix, eT_c, eT_bf, eS_asg, eS_par, eS_lcs, eS_ret, eS_ex, eS_iff, eS_rai, eS_retN, eS_pass, eS_brk, ↓bind_ok, ↓bind_ex, ↓bind_no, evEs, evO, ixD, seqOf, seqL, atI, ixN, nox, c_lt, c_le, c_gt, c_ge, c_isN, c_isntN, c_isB, c_isntB, c_eq, c_ne, pureD, pureDs, near, dle, dles, deq, deqs, blD, setT, setTs, bfD, binD, setIx, truD, newL, isiD, ifsD, wipeD, pf0, pf1, pf2, pf3, pf4, pf5, pf6, pf7, pf8, pf9, pf10, pf11, pf12, pf13, pf14, pf15, pf16, pf17, pf18, pf19, pf20, pf21, pf22, pf23, pf24, pf25, pf26, pf27, pf28, pf29, pg0, pg1, pg2, plm0, f27, e]
theorem addresses_inm {b : Nat} (hb : 1 ≤ b) (ws : List Wd) (hl : ws.length ≤ 20) (S : Sto) : fnD (evW P) b f24 [.tup (ws.map encW)] S = .ok (.ref S.length) (S ++ [(adrs ws).map natD]) := by
  have e : stE P (evW P) b (.lc true (.v 1) (.nm 1) [1] (.seq (.v 0)) (some (.call 28 [(.v 1)]))) [some (.tup (ws.map encW)), none] S = .ok (.ref S.length) (S ++ [(adrs ws).map natD]) := by
    rw [eE_lc, it_tup (xs := ws.map encW) (S1 := S) (by simp [fnR, evSs, evW_e, evW_t, evW_s, eE_c, eE_v, eE_g, eE_bin, eE_neg, eE_nt, eE_an, eE_or, eE_cmp, eE_ch, eE_ite, eE_tup, eE_lst, eE_ix, eE_sl, eE_rv, eE_isi, eE_call, eE_bf, eE_mt, eE_lam, eT_nt, eT_an, eT_or, eT_cmp, eT_ch, eT_v, eT_call, eT_isi, eT_ix, eT_c, eT_bf, eS_asg, eS_par, eS_lcs, eS_ret, eS_ex, eS_iff, eS_rai, eS_retN, eS_pass, eS_brk, ↓bind_ok, ↓bind_ex, ↓bind_no, evEs, evO, ixD, seqOf, seqL, atI, ixN, nox, c_lt, c_le, c_gt, c_ge, c_isN, c_isntN, c_isB, c_isntB, c_eq, c_ne, pureD, pureDs, near, dle, dles, deq, deqs, blD, setT, setTs, bfD, binD, setIx, truD, newL, isiD, ifsD, wipeD, pf0, pf1, pf2, pf3, pf4, pf5, pf6, pf7, pf8, pf9, pf10, pf11, pf12, pf13, pf14, pf15, pf16, pf17, pf18, pf19, pf20, pf21, pf22, pf23, pf24, pf25, pf26, pf27, pf28, pf29, pg0, pg1, pg2, plm0])]
    simp only [bind_ok]
    rw [adrs_lc hb ws hl S]
    rfl
  rw [fnD_run rfl]
  simp [fnR, evSs, evW_e, evW_t, evW_s, eE_c, eE_v, eE_g, eE_bin, eE_neg, eE_nt, eE_an, eE_or, eE_cmp, eE_ch, eE_ite, eE_tup, eE_lst, eE_ix, eE_sl, eE_rv, eE_isi, eE_call, eE_bf, eE_mt, eE_lam, eT_nt, eT_an, eT_or, eT_cmp, eT_ch, eT_v, eT_call, eT_isi, eT_ix, eT_c, eT_bf, eS_asg, eS_par, eS_lcs, eS_ret, eS_ex, eS_iff, eS_rai, eS_retN, eS_pass, eS_brk, ↓bind_ok, ↓bind_ex, ↓bind_no, evEs, evO, ixD, seqOf, seqL, atI, ixN, nox, c_lt, c_le, c_gt, c_ge, c_isN, c_isntN, c_isB, c_isntB, c_eq, c_ne, pureD, pureDs, near, dle, dles, deq, deqs, blD, setT, setTs, bfD, binD, setIx, truD, newL, isiD, ifsD, wipeD, pf0, pf1, pf2, pf3, pf4, pf5, pf6, pf7, pf8, pf9, pf10, pf11, pf12, pf13, pf14, pf15, pf16, pf17, pf18, pf19, pf20, pf21, pf22, pf23, pf24, pf25, pf26, pf27, pf28, pf29, pg0, pg1, pg2, plm0, f24, e]
theorem law_led {b : Nat} (ws : List Wd) (hl : ws.length ≤ 20) (S : Sto) : fnD (evW P) b f19 [.tup (ws.map encW)] S = .ok (.lst ((adrs ws).map natD)) S := by
  have e : stE P (evW P) b (.lc false (.v 1) (.nm 1) [1] (.seq (.v 0)) (some (.isi (.v 1) .int))) [some (.tup (ws.map encW)), none] S = .ok (.lst ((adrs ws).map natD)) S := by
    rw [eE_lc, it_tup (xs := ws.map encW) (S1 := S) (by simp [fnR, evSs, evW_e, evW_t, evW_s, eE_c, eE_v, eE_g, eE_bin, eE_neg, eE_nt, eE_an, eE_or, eE_cmp, eE_ch, eE_ite, eE_tup, eE_lst, eE_ix, eE_sl, eE_rv, eE_isi, eE_call, eE_bf, eE_mt, eE_lam, eT_nt, eT_an, eT_or, eT_cmp, eT_ch, eT_v, eT_call, eT_isi, eT_ix, eT_c, eT_bf, eS_asg, eS_par, eS_lcs, eS_ret, eS_ex, eS_iff, eS_rai, eS_retN, eS_pass, eS_brk, ↓bind_ok, ↓bind_ex, ↓bind_no, evEs, evO, ixD, seqOf, seqL, atI, ixN, nox, c_lt, c_le, c_gt, c_ge, c_isN, c_isntN, c_isB, c_isntB, c_eq, c_ne, pureD, pureDs, near, dle, dles, deq, deqs, blD, setT, setTs, bfD, binD, setIx, truD, newL, isiD, ifsD, wipeD, pf0, pf1, pf2, pf3, pf4, pf5, pf6, pf7, pf8, pf9, pf10, pf11, pf12, pf13, pf14, pf15, pf16, pf17, pf18, pf19, pf20, pf21, pf22, pf23, pf24, pf25, pf26, pf27, pf28, pf29, pg0, pg1, pg2, plm0])]
    simp only [bind_ok]
    rw [lcL_pure (sl := fun d => [some (.tup (ws.map encW)), some d]) (p := isIntD) (f := fun w => w) rfl]
    · simp [adrs_filter, nox, newL, bind_ok]
    · intro d hd
      obtain ⟨w, _, rfl⟩ := List.mem_map.mp hd
      refine ⟨rfl, ?_, fun _ => by simp [fnR, evSs, evW_e, evW_t, evW_s, eE_c, eE_v, eE_g, eE_bin, eE_neg, eE_nt, eE_an, eE_or, eE_cmp, eE_ch, eE_ite, eE_tup, eE_lst, eE_ix, eE_sl, eE_rv, eE_isi, eE_call, eE_bf, eE_mt, eE_lam, eT_nt, eT_an, eT_or, eT_cmp, eT_ch, eT_v, eT_call, eT_isi, eT_ix, eT_c, eT_bf, eS_asg, eS_par, eS_lcs, eS_ret, eS_ex, eS_iff, eS_rai, eS_retN, eS_pass, eS_brk, ↓bind_ok, ↓bind_ex, ↓bind_no, evEs, evO, ixD, seqOf, seqL, atI, ixN, nox, c_lt, c_le, c_gt, c_ge, c_isN, c_isntN, c_isB, c_isntB, c_eq, c_ne, pureD, pureDs, near, dle, dles, deq, deqs, blD, setT, setTs, bfD, binD, setIx, truD, newL, isiD, ifsD, wipeD, pf0, pf1, pf2, pf3, pf4, pf5, pf6, pf7, pf8, pf9, pf10, pf11, pf12, pf13, pf14, pf15, pf16, pf17, pf18, pf19, pf20, pf21, pf22, pf23, pf24, pf25, pf26, pf27, pf28, pf29, pg0, pg1, pg2, plm0]⟩
      cases w <;> simp [fnR, evSs, evW_e, evW_t, evW_s, eE_c, eE_v, eE_g, eE_bin, eE_neg, eE_nt, eE_an, eE_or, eE_cmp, eE_ch, eE_ite, eE_tup, eE_lst, eE_ix, eE_sl, eE_rv, eE_isi, eE_call, eE_bf, eE_mt, eE_lam, eT_nt, eT_an, eT_or, eT_cmp, eT_ch, eT_v, eT_call, eT_isi, eT_ix, eT_c, eT_bf, eS_asg, eS_par, eS_lcs, eS_ret, eS_ex, eS_iff, eS_rai, eS_retN, eS_pass, eS_brk, ↓bind_ok, ↓bind_ex, ↓bind_no, evEs, evO, ixD, seqOf, seqL, atI, ixN, nox, c_lt, c_le, c_gt, c_ge, c_isN, c_isntN, c_isB, c_isntB, c_eq, c_ne, pureD, pureDs, near, dle, dles, deq, deqs, blD, setT, setTs, bfD, binD, setIx, truD, newL, isiD, ifsD, wipeD, pf0, pf1, pf2, pf3, pf4, pf5, pf6, pf7, pf8, pf9, pf10, pf11, pf12, pf13, pf14, pf15, pf16, pf17, pf18, pf19, pf20, pf21, pf22, pf23, pf24, pf25, pf26, pf27, pf28, pf29, pg0, pg1, pg2, plm0, isIntD, encW]
    · simp [sizeMax]
      omega
  rw [fnD_run rfl]
  simp [fnR, evSs, evW_e, evW_t, evW_s, eE_c, eE_v, eE_g, eE_bin, eE_neg, eE_nt, eE_an, eE_or, eE_cmp, eE_ch, eE_ite, eE_tup, eE_lst, eE_ix, eE_sl, eE_rv, eE_isi, eE_call, eE_bf, eE_mt, eE_lam, eT_nt, eT_an, eT_or, eT_cmp, eT_ch, eT_v, eT_call, eT_isi, eT_ix, eT_c, eT_bf, eS_asg, eS_par, eS_lcs, eS_ret, eS_ex, eS_iff, eS_rai, eS_retN, eS_pass, eS_brk, ↓bind_ok, ↓bind_ex, ↓bind_no, evEs, evO, ixD, seqOf, seqL, atI, ixN, nox, c_lt, c_le, c_gt, c_ge, c_isN, c_isntN, c_isB, c_isntB, c_eq, c_ne, pureD, pureDs, near, dle, dles, deq, deqs, blD, setT, setTs, bfD, binD, setIx, truD, newL, isiD, ifsD, wipeD, pf0, pf1, pf2, pf3, pf4, pf5, pf6, pf7, pf8, pf9, pf10, pf11, pf12, pf13, pf14, pf15, pf16, pf17, pf18, pf19, pf20, pf21, pf22, pf23, pf24, pf25, pf26, pf27, pf28, pf29, pg0, pg1, pg2, plm0, f19, e]
/-- where a cell leads -/
def led (h : List Ce) (a : Nat) : List Nat :=
  match h[a]? with
  | some (some (_, ws)) => adrs ws
  | _ => []
def Valid (h : List Ce) (a : Nat) : Prop := ∃ c, h[a]? = some (some c)
theorem adrs_mem {a : Nat} : ∀ {ws : List Wd}, a ∈ adrs ws → .adr a ∈ ws
  | .non :: r, h => List.mem_cons_of_mem _ (adrs_mem (ws := r) h)
  | .num _ :: r, h => List.mem_cons_of_mem _ (adrs_mem (ws := r) h)
  | .adr b :: r, h => by
    rcases List.mem_cons.mp h with rfl | h
    · exact List.mem_cons_self
    · exact List.mem_cons_of_mem _ (adrs_mem h)
theorem adrs_len : ∀ ws : List Wd, (adrs ws).length ≤ ws.length
  | [] => Nat.le_refl _
  | .non :: r => Nat.le_succ_of_le (adrs_len r)
  | .num _ :: r => Nat.le_succ_of_le (adrs_len r)
  | .adr _ :: r => Nat.succ_le_succ (adrs_len r)
theorem led_ok {h : List Ce} (o : HpOk h) {a : Nat} : (led h a).length ≤ 3 ∧ ∀ x ∈ led h a, Valid h x := by
  unfold led
  split
  · rename_i l ws e
    obtain ⟨h1, h2⟩ := o.wds l ws (List.mem_of_getElem? e)
    exact ⟨Nat.le_trans (adrs_len ws) h1, fun x hx => h2 _ (adrs_mem hx)⟩
  · exact ⟨Nat.zero_le _, fun x hx => by cases hx⟩
theorem led_from {b : Nat} (hb : 2 ≤ b) {h : List Ce} (o : HpOk h) {a : Nat} (v : Valid h a) (S : Sto) : fnD (evW P) b f23 [encH h, natD a] S = .ok (.lst ((led h a).map natD)) S := by
  obtain ⟨b, rfl⟩ := off hb
  obtain ⟨⟨l, ws⟩, hc⟩ := v
  obtain ⟨hlt, hg⟩ := List.getElem?_eq_some_iff.mp hc
  have hlt' : (a : Int) < h.length := by omega
  have hw := (o.wds l ws (List.mem_of_getElem? hc)).1
  have e := addresses_in (b := b + 1) (by omega) ws (by omega) S
  rw [fnD_run rfl]
  simp [fnR, evSs, evW_e, evW_t, evW_s, eE_c, eE_v, eE_g, eE_bin, eE_neg, eE_nt, eE_an, eE_or, eE_cmp, eE_ch, eE_ite, eE_tup, eE_lst, eE_ix, eE_sl, eE_rv, eE_isi, eE_call, eE_bf, eE_mt, eE_lam, eT_nt, eT_an, eT_or, eT_cmp, eT_ch, eT_v, eT_call, eT_isi, eT_ix, eT_c, eT_bf, eS_asg, eS_par, eS_lcs, eS_ret, eS_ex, eS_iff, eS_rai, eS_retN, eS_pass, eS_brk, ↓bind_ok, ↓bind_ex, ↓bind_no, evEs, evO, ixD, seqOf, seqL, atI, ixN, nox, c_lt, c_le, c_gt, c_ge, c_isN, c_isntN, c_isB, c_isntB, c_eq, c_ne, pureD, pureDs, near, dle, dles, deq, deqs, blD, setT, setTs, bfD, binD, setIx, truD, newL, isiD, ifsD, wipeD, pf0, pf1, pf2, pf3, pf4, pf5, pf6, pf7, pf8, pf9, pf10, pf11, pf12, pf13, pf14, pf15, pf16, pf17, pf18, pf19, pf20, pf21, pf22, pf23, pf24, pf25, pf26, pf27, pf28, pf29, pg0, pg1, pg2, plm0, f23, encH, natD, hlt, hlt', hg, encC, e, led]

/-! ### what is reached: plain mathematics -/
inductive Reach (ld : Nat → List Nat) (rs : List Nat) : Nat → Prop
  | root {a : Nat} : a ∈ rs → Reach ld rs a
  | step {a c : Nat} : Reach ld rs a → c ∈ ld a → Reach ld rs c
structure Dfs (ld : Nat → List Nat) (rs : List Nat) (n : Nat) (M : List Bool) (L : List Nat) : Prop where
  len : M.length = n
  val : ∀ a ∈ L, a < n
  rl : ∀ a ∈ L, Reach ld rs a
  rm : ∀ a, M[a]? = some true → Reach ld rs a
  ro : ∀ a ∈ rs, M[a]? = some true ∨ a ∈ L
  st : ∀ a, M[a]? = some true → ∀ c ∈ ld a, M[c]? = some true ∨ c ∈ L
theorem Dfs.start {ld : Nat → List Nat} {rs : List Nat} {n : Nat} (h : ∀ a ∈ rs, a < n) : Dfs ld rs n (List.replicate n false) rs :=
  ⟨by simp, h, fun a ha => .root ha, fun a ha => by simp [List.getElem?_replicate] at ha, fun a ha => .inr ha, fun a ha => by simp [List.getElem?_replicate] at ha⟩
theorem Dfs.old {ld : Nat → List Nat} {rs : List Nat} {n : Nat} {M : List Bool} {L : List Nat} {a : Nat} (d : Dfs ld rs n M (L ++ [a])) (h : M[a]? = some true) : Dfs ld rs n M L := by
  refine ⟨d.len, fun x hx => d.val x (by simp [hx]), fun x hx => d.rl x (by simp [hx]), d.rm, fun x hx => ?_, fun x hx c hc => ?_⟩
  · rcases d.ro x hx with z | z
    · exact .inl z
    · rcases List.mem_append.mp z with z | z
      · exact .inr z
      · simp at z
        subst z
        exact .inl h
  · rcases d.st x hx c hc with z | z
    · exact .inl z
    · rcases List.mem_append.mp z with z | z
      · exact .inr z
      · simp at z
        subst z
        exact .inl h
theorem Dfs.new {ld : Nat → List Nat} {rs : List Nat} {n : Nat} {M : List Bool} {L : List Nat} {a : Nat} (hv : ∀ a, ∀ c ∈ ld a, c < n) (d : Dfs ld rs n M (L ++ [a])) (h : M[a]? = some false) : Dfs ld rs n (M.set a true) (L ++ ld a) := by
  have ra : Reach ld rs a := d.rl a (by simp)
  have la : a < M.length := (List.getElem?_eq_some_iff.mp h).1
  have get : ∀ x, (M.set a true)[x]? = some true ↔ x = a ∨ M[x]? = some true := by
    intro x
    by_cases z : a = x
    · subst z
      simp [List.getElem?_set_self la]
    · rw [List.getElem?_set_ne z]
      simp [Ne.symm z]
  refine ⟨by rw [List.length_set]; exact d.len, fun x hx => ?_, fun x hx => ?_, fun x hx => ?_, fun x hx => ?_, fun x hx c hc => ?_⟩
  · rcases List.mem_append.mp hx with z | z
    · exact d.val x (by simp [z])
    · exact hv a x z
  · rcases List.mem_append.mp hx with z | z
    · exact d.rl x (by simp [z])
    · exact .step ra z
  · rcases (get x).mp hx with rfl | z
    · exact ra
    · exact d.rm x z
  · rcases d.ro x hx with z | z
    · exact .inl ((get x).mpr (.inr z))
    · rcases List.mem_append.mp z with z | z
      · exact .inr (by simp [z])
      · simp at z
        exact .inl ((get x).mpr (.inl z))
  · rcases (get x).mp hx with rfl | z
    · exact .inr (by simp [hc])
    · rcases d.st x z c hc with z | z
      · exact .inl ((get c).mpr (.inr z))
      · rcases List.mem_append.mp z with z | z
        · exact .inr (by simp [z])
        · simp at z
          exact .inl ((get c).mpr (.inl z))
theorem Dfs.done {ld : Nat → List Nat} {rs : List Nat} {n : Nat} {M : List Bool} (d : Dfs ld rs n M []) (a : Nat) : M[a]? = some true ↔ Reach ld rs a := by
  refine ⟨d.rm a, fun h => ?_⟩
  induction h with
  | root h => simpa using d.ro _ h
  | step _ hc ih => simpa using d.st _ ih _ hc
theorem count_new {M : List Bool} {a : Nat} (h : M[a]? = some false) : (M.set a true).count false + 1 = M.count false := by
  obtain ⟨hl, hg⟩ := List.getElem?_eq_some_iff.mp h
  rw [List.count_set hl]
  have : 0 < M.count false := List.count_pos_iff.mpr (hg ▸ List.getElem_mem hl)
  simp [hg]
  omega
/-- the law's way -/
def addNew (F : List Nat) (a : Nat) : List Nat := if a ∈ F then F else F ++ [a]
structure Bfs (ld : Nat → List Nat) (rs : List Nat) (n : Nat) (F : List Nat) : Prop where
  nd : F.Nodup
  val : ∀ a ∈ F, a < n
  rl : ∀ a ∈ F, Reach ld rs a
theorem Bfs.add {ld : Nat → List Nat} {rs : List Nat} {n : Nat} : ∀ (as F : List Nat), Bfs ld rs n F → (∀ a ∈ as, a < n) → (∀ a ∈ as, Reach ld rs a) → Bfs ld rs n (as.foldl addNew F) ∧ (∀ a ∈ as, a ∈ as.foldl addNew F) ∧ ∃ G, as.foldl addNew F = F ++ G
  | [], F, d, _, _ => ⟨d, fun a ha => by simp at ha, [], by simp⟩
  | a :: r, F, d, h1, h2 => by
    have d' : Bfs ld rs n (addNew F a) := by
      unfold addNew
      split
      · exact d
      · rename_i hn
        refine ⟨?_, fun x hx => ?_, fun x hx => ?_⟩
        · rw [List.nodup_append]
          exact ⟨d.nd, by simp, fun x hx y hy => by simp at hy; subst hy; exact fun z => hn (z ▸ hx)⟩
        · rcases List.mem_append.mp hx with z | z
          · exact d.val x z
          · simp at z
            exact h1 x (by simp [z])
        · rcases List.mem_append.mp hx with z | z
          · exact d.rl x z
          · simp at z
            exact h2 x (by simp [z])
    obtain ⟨i1, i2, G, i3⟩ := Bfs.add r (addNew F a) d' (fun x hx => h1 x (List.mem_cons_of_mem _ hx)) (fun x hx => h2 x (List.mem_cons_of_mem _ hx))
    have ext : ∃ G, addNew F a = F ++ G := by
      unfold addNew
      split
      · exact ⟨[], by simp⟩
      · exact ⟨[a], rfl⟩
    obtain ⟨G', e'⟩ := ext
    refine ⟨i1, fun x hx => ?_, G' ++ G, by rw [List.foldl_cons, i3, e', List.append_assoc]⟩
    rcases List.mem_cons.mp hx with rfl | hx
    · rw [List.foldl_cons, i3]
      have : x ∈ addNew F x := by
        unfold addNew
        split
        · assumption
        · simp
      simp [this]
    · exact i2 x hx
theorem nodup_le : ∀ (n : Nat) (F : List Nat), F.Nodup → (∀ a ∈ F, a < n) → F.length ≤ n
  | 0, F, _, h => by
    cases F with
    | nil => exact Nat.le_refl _
    | cons a r => exact absurd (h a List.mem_cons_self) (by omega)
  | n + 1, F, nd, h => by
    by_cases hn : n ∈ F
    · have := nodup_le n (F.erase n) (nd.erase n) fun a ha => by
        have h1 := h a (List.mem_of_mem_erase ha)
        have h2 : a ≠ n := fun z => by
          subst z
          exact (List.Nodup.not_mem_erase nd) ha
        omega
      rw [List.length_erase_of_mem hn] at this
      omega
    · have := nodup_le n F nd fun a ha => by
        have h1 := h a ha
        have h2 : a ≠ n := fun z => hn (z ▸ ha)
        omega
      omega
/-- what is reached by the law's way, sorted, is what is marked -/
theorem sortI_perm : ∀ xs : List Int, (sortI xs).Perm xs
  | [] => .nil
  | x :: r => by
    have ins : ∀ ys : List Int, (insI x ys).Perm (x :: ys) := by
      intro ys
      induction ys with
      | nil => exact .refl _
      | cons y t ih =>
        unfold insI
        split
        · exact .refl _
        · exact (List.Perm.cons y ih).trans (.swap ..)
    exact (ins _).trans ((sortI_perm r).cons x)
theorem sortI_sorted : ∀ xs : List Int, (sortI xs).Pairwise (· ≤ ·)
  | [] => .nil
  | x :: r => by
    have ins : ∀ ys : List Int, ys.Pairwise (· ≤ ·) → (insI x ys).Pairwise (· ≤ ·) := by
      intro ys
      induction ys with
      | nil => exact fun _ => by simp [insI]
      | cons y t ih =>
        intro h
        unfold insI
        split
        · rename_i hxy
          refine List.Pairwise.cons (fun z hz => ?_) h
          rcases List.mem_cons.mp hz with rfl | hz
          · exact hxy
          · exact Int.le_trans hxy (List.rel_of_pairwise_cons h hz)
        · rename_i hxy
          refine List.Pairwise.cons (fun z hz => ?_) (ih h.of_cons)
          have : z ∈ x :: t := by
            have ins2 : ∀ ys : List Int, (insI x ys).Perm (x :: ys) := by
              intro ys
              induction ys with
              | nil => exact .refl _
              | cons y t ih =>
                unfold insI
                split
                · exact .refl _
                · exact (List.Perm.cons y ih).trans (.swap ..)
            exact (ins2 t).mem_iff.mp hz
          rcases List.mem_cons.mp this with rfl | hz
          · omega
          · exact List.rel_of_pairwise_cons h hz
    exact ins _ (sortI_sorted r)
theorem sorted_eq : ∀ (xs ys : List Int), xs.Perm ys → xs.Pairwise (· ≤ ·) → ys.Pairwise (· ≤ ·) → xs = ys
  | [], ys, p, _, _ => p.nil_eq
  | x :: r, [], p, _, _ => by simpa using p.length_eq
  | x :: r, y :: t, p, hx, hy => by
    have h1 : y ≤ x := by
      rcases List.mem_cons.mp (p.mem_iff.mp List.mem_cons_self) with z | z
      · omega
      · exact List.rel_of_pairwise_cons hy z
    have h2 : x ≤ y := by
      rcases List.mem_cons.mp (p.mem_iff.mpr List.mem_cons_self) with z | z
      · omega
      · exact List.rel_of_pairwise_cons hx z
    have : x = y := by omega
    subst this
    rw [sorted_eq r t (List.Perm.cons_inv p) hx.of_cons hy.of_cons]
theorem range_sorted (n : Nat) (p : Nat → Bool) : (((List.range n).filter p).map fun (a : Nat) => (a : Int)).Pairwise (· ≤ ·) := by
  rw [List.pairwise_map]
  exact ((List.pairwise_lt_range (n := n)).filter p).imp fun h => by omega
theorem perm_of {F G : List Nat} (h1 : F.Nodup) (h2 : G.Nodup) (h : ∀ a, a ∈ F ↔ a ∈ G) : F.Perm G := (List.perm_ext_iff_of_nodup h1 h2).mpr h
/-- found by both ways: the same -/
theorem both_ways {ld : Nat → List Nat} {rs : List Nat} {n : Nat} {M : List Bool} {F : List Nat} (d : Dfs ld rs n M []) (e : Bfs ld rs n F) (hr : ∀ a ∈ rs, a ∈ F) (hs : ∀ a ∈ F, ∀ c ∈ ld a, c ∈ F) : sortI (F.map fun (a : Nat) => (a : Int)) = ((List.range n).filter fun a => M[a]?.getD false).map fun (a : Nat) => (a : Int) := by
  have all : ∀ a, Reach ld rs a → a ∈ F := by
    intro a h
    induction h with
    | root h => exact hr _ h
    | step _ hc ih => exact hs _ ih _ hc
  refine sorted_eq _ _ ((sortI_perm _).trans (List.Perm.map _ (perm_of e.nd ((List.nodup_range (n := n)).filter _) fun a => ?_))) (sortI_sorted _) (range_sorted n _)
  rw [List.mem_filter, List.mem_range]
  constructor
  · intro h
    exact ⟨e.val a h, by rw [(d.done a).mpr (e.rl a h)]; rfl⟩
  · rintro ⟨_, h⟩
    refine all a ((d.done a).mp ?_)
    cases q : M[a]? with
    | none => rw [q] at h; cases h
    | some k => rw [q] at h; simp at h; rw [h]

/-! ### the program's walk -/
theorem natD_pures (L : List Nat) : pureDs (L.map natD) = true := pures_nat
theorem c_ne_ref {S : Sto} {l : Nat} {L : List Nat} (h : S[l]? = some (L.map natD)) : cmpD .ne (.ref l) (.lst []) S = .ok (.bl (!L.isEmpty)) S := by
  cases L with
  | nil => simp [cmpD, cmpB, now, h, pureDs, pureD, near, dle, dles, deq, deqs]
  | cons a r => simp [cmpD, cmpB, now, h, pureDs, pureD, near, dle, dles, deq, deqs, natD_pures, pure_nat]
abbrev mkBody : List Nv.S := [.asg (.nm 5) (.mt .pop (.v 4) []),
    .iff (.nt (.ix (.v 3) (.v 5))) [.asg (.ix (.v 3) (.v 5)) (.c (.bl true)),
    .iff (.cmp .ne (.v 5) (.v 2)) [.asg (.nm 4) (.bin .add true (.v 4) (.call 23 [(.v 0), (.v 5)]))] []] []]
theorem set_pre {S : Sto} {S0 J : Sto} (h : S = S0 ++ J) {m : Nat} (hm : S0.length ≤ m) (x : List D) : ∃ J', S.set m x = S0 ++ J' := ⟨J.set (m - S0.length) x, by rw [h, List.set_append_right _ _ hm]⟩
/-- one turn of the walk -/
theorem mk_turn {b : Nat} (hb : 3 ≤ b) {h : List Ce} (o : HpOk h) {rd : D} {m l : Nat} {S S0 J : Sto} {M : List Bool} {L : List Nat} {a : Nat} {x5 : Option D} (hS : S = S0 ++ J) (hm0 : S0.length ≤ m) (hl0 : S0.length ≤ l) (hml : m ≠ l) (hm : S[m]? = some (M.map D.bl)) (hl : S[l]? = some ((L ++ [a]).map natD)) (ha : Valid h a) (hM : M.length = h.length) (hz : L.length ≤ 100) :
    ∃ S' J' l', evSs ((evW P).s b) mkBody [some (encH h), some rd, some .non, some (.ref m), some (.ref l), x5] S = .ok (.nx [some (encH h), some rd, some .non, some (.ref m), some (.ref l'), some (natD a)]) S' ∧
      S' = S0 ++ J' ∧ S0.length ≤ l' ∧ m ≠ l' ∧ S'[m]? = some ((if M[a]?.getD false then M else M.set a true).map D.bl) ∧ S'[l']? = some ((if M[a]?.getD false then L else L ++ led h a).map natD) := by
  obtain ⟨b, rfl⟩ := off hb
  have hlt : a < h.length := by
    obtain ⟨c, hc⟩ := ha
    exact (List.getElem?_eq_some_iff.mp hc).1
  have hlM : a < M.length := by omega
  have hlM' : (a : Int) < M.length := by omega
  have lm : m < S.length := (List.getElem?_eq_some_iff.mp hm).1
  have ll : l < S.length := (List.getElem?_eq_some_iff.mp hl).1
  have e1 : popD (.ref l) [] S = .ok (natD a) (S.set l (L.map natD)) := by
    simp [popD, hl]
  have g1 : (S.set l (L.map natD))[m]? = some (M.map D.bl) := by rw [List.getElem?_set_ne (Ne.symm hml)]; exact hm
  have g2 : (S.set l (L.map natD))[l]? = some (L.map natD) := List.getElem?_set_self ll
  obtain ⟨J1, e2⟩ := set_pre hS hl0 (L.map natD)
  cases q : M[a] with
  | true =>
    have q' : M[a]?.getD false = true := by simp [hlM, q]
    refine ⟨S.set l (L.map natD), J1, l, ?_, e2, hl0, hml, by rw [q']; exact g1, by rw [q']; exact g2⟩
    simp [fnR, evSs, evW_e, evW_t, evW_s, eE_c, eE_v, eE_g, eE_bin, eE_neg, eE_nt, eE_an, eE_or, eE_cmp, eE_ch, eE_ite, eE_tup, eE_lst, eE_ix, eE_sl, eE_rv, eE_isi, eE_call, eE_bf, eE_mt, eE_lam, eT_nt, eT_an, eT_or, eT_cmp, eT_ch, eT_v, eT_call, eT_isi, eT_ix, eT_c, eT_bf, eS_asg, eS_par, eS_lcs, eS_ret, eS_ex, eS_iff, eS_rai, eS_retN, eS_pass, eS_brk, ↓bind_ok, ↓bind_ex, ↓bind_no, evEs, evO, ixD, seqOf, seqL, atI, ixN, nox, c_lt, c_le, c_gt, c_ge, c_isN, c_isntN, c_isB, c_isntB, c_eq, c_ne, pureD, pureDs, near, dle, dles, deq, deqs, blD, setT, setTs, bfD, binD, setIx, truD, newL, isiD, ifsD, wipeD, pf0, pf1, pf2, pf3, pf4, pf5, pf6, pf7, pf8, pf9, pf10, pf11, pf12, pf13, pf14, pf15, pf16, pf17, pf18, pf19, pf20, pf21, pf22, pf23, pf24, pf25, pf26, pf27, pf28, pf29, pg0, pg1, pg2, plm0, mtD, isLst, e1, g1, natD, hlM, hlM', q]
  | false =>
    have q' : M[a]?.getD false = false := by simp [hlM, q]
    have g3 : ((S.set l (L.map natD)).set m ((M.map D.bl).set a (.bl true)))[l]? = some (L.map natD) := by rw [List.getElem?_set_ne hml]; exact g2
    have g4 : ((S.set l (L.map natD)).set m ((M.map D.bl).set a (.bl true)))[m]? = some ((M.map D.bl).set a (.bl true)) := List.getElem?_set_self (by simpa using lm)
    obtain ⟨J2, e3⟩ := set_pre e2 hm0 ((M.map D.bl).set a (.bl true))
    have e4 := led_from (b := b + 2) (by omega) o ha ((S.set l (L.map natD)).set m ((M.map D.bl).set a (.bl true)))
    have hld := (led_ok o (a := a)).1
    have hz2 : L.length + (led h a).length ≤ 16777216 := by omega
    refine ⟨(S.set l (L.map natD)).set m ((M.map D.bl).set a (.bl true)) ++ [(L ++ led h a).map natD], J2 ++ [(L ++ led h a).map natD], S.length, ?_, by rw [e3, List.append_assoc], ?_, by omega, ?_, ?_⟩
    · simp only [natD] at e4
      simp [fnR, evSs, evW_e, evW_t, evW_s, eE_c, eE_v, eE_g, eE_bin, eE_neg, eE_nt, eE_an, eE_or, eE_cmp, eE_ch, eE_ite, eE_tup, eE_lst, eE_ix, eE_sl, eE_rv, eE_isi, eE_call, eE_bf, eE_mt, eE_lam, eT_nt, eT_an, eT_or, eT_cmp, eT_ch, eT_v, eT_call, eT_isi, eT_ix, eT_c, eT_bf, eS_asg, eS_par, eS_lcs, eS_ret, eS_ex, eS_iff, eS_rai, eS_retN, eS_pass, eS_brk, ↓bind_ok, ↓bind_ex, ↓bind_no, evEs, evO, ixD, seqOf, seqL, atI, ixN, nox, c_lt, c_le, c_gt, c_ge, c_isN, c_isntN, c_isB, c_isntB, c_eq, c_ne, pureD, pureDs, near, dle, dles, deq, deqs, blD, setT, setTs, bfD, binD, setIx, truD, newL, isiD, ifsD, wipeD, pf0, pf1, pf2, pf3, pf4, pf5, pf6, pf7, pf8, pf9, pf10, pf11, pf12, pf13, pf14, pf15, pf16, pf17, pf18, pf19, pf20, pf21, pf22, pf23, pf24, pf25, pf26, pf27, pf28, pf29, pg0, pg1, pg2, plm0, mtD, isLst, e1, g1, natD, hlM, hlM', q, e4, addD, g3, hz2, sizeMax]
    · rw [hS, List.length_append]
      omega
    · rw [q', List.getElem?_append_left (by simpa using lm), g4]
      simp
    · rw [q', List.getElem?_append_right (by simp)]
      simp
def ldh (h : List Ce) : Nat → List Nat := led h
theorem marks_reached {b : Nat} (hb : 4 ≤ b) {h : List Ce} (o : HpOk h) {rs : List Wd} (ro : RtOk h rs) (S0 : Sto) : ∃ (J : Sto) (M : List Bool), fnD (evW P) b f18 [encH h, .tup (rs.map encW), .non] S0 = .ok (.ref S0.length) (S0 ++ J) ∧ (S0 ++ J)[S0.length]? = some (M.map D.bl) ∧ Dfs (led h) (adrs rs) h.length M [] := by
  obtain ⟨b, rfl⟩ := off hb
  have hl20 := o.len
  have hr3 := ro.len
  have valid_lt : ∀ a, Valid h a → a < h.length := fun a ⟨c, hc⟩ => (List.getElem?_eq_some_iff.mp hc).1
  have e1 := addresses_inm (b := b + 3) (by omega) rs (by omega) (S0 ++ [List.replicate h.length (D.bl false)])
  have hrep : ∀ n, repL [D.bl false] n = List.replicate n (D.bl false) := by
    intro n
    induction n with
    | zero => rfl
    | succ n ih => simp [repL, ih, List.replicate_succ]
  have hz : h.length ≤ 16777216 := by omega
  have hz1 : (-9223372036854775808 : Int) ≤ h.length := by omega
  have hz2 : (h.length : Int) < 9223372036854775808 := by omega
  have s1 : stS P (evW P) (b + 4) (.par [3, 4] [(.bin .mul true (.lst false [(.c (.bl false))]) (.bf .len false [(.v 0)])), (.call 24 [(.v 1)])]) [some (encH h), some (.tup (rs.map encW)), some .non, none, none, none] S0 =
      .ok (.nx [some (encH h), some (.tup (rs.map encW)), some .non, some (.ref S0.length), some (.ref (S0.length + 1)), none]) (S0 ++ [List.replicate h.length (D.bl false), (adrs rs).map natD]) := by
    simp only [List.length_append, List.length_cons, List.length_nil, Nat.zero_add] at e1
    simp [fnR, evSs, evW_e, evW_t, evW_s, eE_c, eE_v, eE_g, eE_bin, eE_neg, eE_nt, eE_an, eE_or, eE_cmp, eE_ch, eE_ite, eE_tup, eE_lst, eE_ix, eE_sl, eE_rv, eE_isi, eE_call, eE_bf, eE_mt, eE_lam, eT_nt, eT_an, eT_or, eT_cmp, eT_ch, eT_v, eT_call, eT_isi, eT_ix, eT_c, eT_bf, eS_asg, eS_par, eS_lcs, eS_ret, eS_ex, eS_iff, eS_rai, eS_retN, eS_pass, eS_brk, ↓bind_ok, ↓bind_ex, ↓bind_no, evEs, evO, ixD, seqOf, seqL, atI, ixN, nox, c_lt, c_le, c_gt, c_ge, c_isN, c_isntN, c_isB, c_isntB, c_eq, c_ne, pureD, pureDs, near, dle, dles, deq, deqs, blD, setT, setTs, bfD, binD, setIx, truD, newL, isiD, ifsD, wipeD, pf0, pf1, pf2, pf3, pf4, pf5, pf6, pf7, pf8, pf9, pf10, pf11, pf12, pf13, pf14, pf15, pf16, pf17, pf18, pf19, pf20, pf21, pf22, pf23, pf24, pf25, pf26, pf27, pf28, pf29, pg0, pg1, pg2, plm0, encH, lenD, mulD, hrep, hz, hz1, hz2, sizeMax, e1]
  have key := whl_inv (b := b + 4) (c := .cmp .ne (.v 4) (.lst false [])) (bd := mkBody)
    (I := fun sl S => ∃ J l M L x5, sl = [some (encH h), some (.tup (rs.map encW)), some .non, some (.ref S0.length), some (.ref l), x5] ∧ S = S0 ++ J ∧ S0.length ≤ l ∧ S0.length ≠ l ∧ S[S0.length]? = some (M.map D.bl) ∧ S[l]? = some (L.map natD) ∧ Dfs (led h) (adrs rs) h.length M L ∧ (∀ a ∈ L, Valid h a) ∧ L.length + 3 * M.count false ≤ 48)
    (Q := fun sl S => ∃ J M y x5, sl = [some (encH h), some (.tup (rs.map encW)), some .non, some (.ref S0.length), y, x5] ∧ S = S0 ++ J ∧ S[S0.length]? = some (M.map D.bl) ∧ Dfs (led h) (adrs rs) h.length M [])
    (μ := fun sl S => match sl with
      | [_, _, _, _, some (.ref l), _] => (S[l]?.getD []).length + 4 * ((S[S0.length]?.getD []).countP fun d => match d with | .bl false => true | _ => false)
      | _ => 0)
    (by
      rintro sl S ⟨J, l, M, L, x5, rfl, hS, hl0, hml, hm, hl, d, hv, hlen⟩
      have cnt : ∀ M : List Bool, ((M.map D.bl).countP fun d => match d with | .bl false => true | _ => false) = M.count false := by
        intro M
        induction M with
        | nil => rfl
        | cons k r ih => cases k <;> simp [ih]
      refine ⟨!L.isEmpty, S, ?_, fun hk => ?_, fun hk => ?_⟩
      · simp [fnR, evSs, evW_e, evW_t, evW_s, eE_c, eE_v, eE_g, eE_bin, eE_neg, eE_nt, eE_an, eE_or, eE_cmp, eE_ch, eE_ite, eE_tup, eE_lst, eE_ix, eE_sl, eE_rv, eE_isi, eE_call, eE_bf, eE_mt, eE_lam, eT_nt, eT_an, eT_or, eT_cmp, eT_ch, eT_v, eT_call, eT_isi, eT_ix, eT_c, eT_bf, eS_asg, eS_par, eS_lcs, eS_ret, eS_ex, eS_iff, eS_rai, eS_retN, eS_pass, eS_brk, ↓bind_ok, ↓bind_ex, ↓bind_no, evEs, evO, ixD, seqOf, seqL, atI, ixN, nox, c_lt, c_le, c_gt, c_ge, c_isN, c_isntN, c_isB, c_isntB, c_eq, c_ne, pureD, pureDs, near, dle, dles, deq, deqs, blD, setT, setTs, bfD, binD, setIx, truD, newL, isiD, ifsD, wipeD, pf0, pf1, pf2, pf3, pf4, pf5, pf6, pf7, pf8, pf9, pf10, pf11, pf12, pf13, pf14, pf15, pf16, pf17, pf18, pf19, pf20, pf21, pf22, pf23, pf24, pf25, pf26, pf27, pf28, pf29, pg0, pg1, pg2, plm0, c_ne_ref hl, sizeMax]
      · have hne : L ≠ [] := by simpa using hk
        obtain ⟨L', a, rfl⟩ : ∃ L' a, L = L' ++ [a] := ⟨L.dropLast, L.getLast hne, (List.dropLast_concat_getLast hne).symm⟩
        have ha : Valid h a := hv a (by simp)
        obtain ⟨S', J', l', e, hS', hl', hml', hm', hl2⟩ := mk_turn (b := b + 4) (by omega) o (rd := .tup (rs.map encW)) (x5 := x5) hS (Nat.le_refl _) hl0 hml hm hl ha d.len (by simp at hlen; omega)
        refine ⟨_, S', e, ⟨J', l', _, _, _, rfl, hS', hl', hml', hm', hl2, ?_⟩, ?_⟩
        · have hlt : a < M.length := by rw [d.len]; exact valid_lt a ha
          cases q : M[a] with
          | true =>
            have q' : M[a]? = some true := by simp [hlt, q]
            simp only [q', Option.getD_some, if_true]
            refine ⟨d.old q', fun x hx => hv x (by simp [hx]), ?_⟩
            simp at hlen
            omega
          | false =>
            have q' : M[a]? = some false := by simp [hlt, q]
            simp only [q', Option.getD_some, Bool.false_eq_true, if_false]
            refine ⟨d.new (fun a c hc => valid_lt c ((led_ok o).2 c hc)) q', fun x hx => ?_, ?_⟩
            · rcases List.mem_append.mp hx with z | z
              · exact hv x (by simp [z])
              · exact (led_ok o).2 x z
            · have := count_new q'
              have := (led_ok o (a := a)).1
              simp at hlen ⊢
              omega
        · simp only [hl, hl2, hm, hm', Option.getD_some, List.length_map, cnt]
          have hlt : a < M.length := by rw [d.len]; exact valid_lt a ha
          cases q : M[a] with
          | true =>
            have q' : M[a]? = some true := by simp [hlt, q]
            simp [q']
          | false =>
            have q' : M[a]? = some false := by simp [hlt, q]
            have := count_new q'
            have := (led_ok o (a := a)).1
            simp [q']
            omega
      · have : L = [] := by simpa using hk
        subst this
        exact ⟨J, M, _, x5, rfl, hS, hm, d⟩)
  have d0 : Dfs (led h) (adrs rs) h.length (List.replicate h.length false) (adrs rs) := Dfs.start fun a ha => valid_lt a (ro.wds _ (adrs_mem ha))
  obtain ⟨sl', S', e2, J, M, y, x5, rfl, rfl, hM, d⟩ := key _ [some (encH h), some (.tup (rs.map encW)), some .non, some (.ref S0.length), some (.ref (S0.length + 1)), none] (S0 ++ [List.replicate h.length (D.bl false), (adrs rs).map natD]) (Nat.le_refl _)
    ⟨[List.replicate h.length (D.bl false), (adrs rs).map natD], S0.length + 1, List.replicate h.length false, adrs rs, none, rfl, by simp, by omega, by omega, by
      rw [List.getElem?_append_right (Nat.le_refl _)]
      simp, by
      rw [List.getElem?_append_right (by simp)]
      simp, d0, fun a ha => ro.wds _ (adrs_mem ha), by
        have := adrs_len rs
        simp
        omega⟩
  refine ⟨J, M, ?_, hM, d⟩
  rw [fnD_run rfl]
  simp [fnR, evSs, evW_e, evW_t, evW_s, eE_c, eE_v, eE_g, eE_bin, eE_neg, eE_nt, eE_an, eE_or, eE_cmp, eE_ch, eE_ite, eE_tup, eE_lst, eE_ix, eE_sl, eE_rv, eE_isi, eE_call, eE_bf, eE_mt, eE_lam, eT_nt, eT_an, eT_or, eT_cmp, eT_ch, eT_v, eT_call, eT_isi, eT_ix, eT_c, eT_bf, eS_asg, eS_par, eS_lcs, eS_ret, eS_ex, eS_iff, eS_rai, eS_retN, eS_pass, eS_brk, ↓bind_ok, ↓bind_ex, ↓bind_no, evEs, evO, ixD, seqOf, seqL, atI, ixN, nox, c_lt, c_le, c_gt, c_ge, c_isN, c_isntN, c_isB, c_isntB, c_eq, c_ne, pureD, pureDs, near, dle, dles, deq, deqs, blD, setT, setTs, bfD, binD, setIx, truD, newL, isiD, ifsD, wipeD, pf0, pf1, pf2, pf3, pf4, pf5, pf6, pf7, pf8, pf9, pf10, pf11, pf12, pf13, pf14, pf15, pf16, pf17, pf18, pf19, pf20, pf21, pf22, pf23, pf24, pf25, pf26, pf27, pf28, pf29, pg0, pg1, pg2, plm0, f18, s1, e2]

theorem enum_map : ∀ (xs : List D) (i : Int), enumD i xs = (List.range xs.length).map fun (k : Nat) => D.tup [.int (i + k), xs.getD k .non]
  | [], i => rfl
  | x :: r, i => by
    rw [List.length_cons, List.range_succ_eq_map, List.map_cons, List.map_map]
    show D.tup [.int i, x] :: enumD (i + 1) r = _
    rw [enum_map r (i + 1)]
    congr 1
    · simp
    · apply List.map_congr_left
      intro k _
      show D.tup [.int (i + 1 + k), r.getD k .non] = D.tup [.int (i + ((k + 1 : Nat) : Int)), (x :: r).getD (k + 1) .non]
      have : i + 1 + (k : Int) = i + ((k + 1 : Nat) : Int) := by omega
      rw [this]
      rfl
mutual
theorem sameD_refl : ∀ d : D, sameD d d = true
  | .non => rfl
  | .bl b => by simp [sameD]
  | .int i => by simp [sameD]
  | .str s => by simp [sameD]
  | .tup xs => by simp [sameD, sameDs_refl xs]
  | .lst xs => by simp [sameD, sameDs_refl xs]
  | .frz xs => by simp [sameD, sameDs_refl xs]
  | .ref n => by simp [sameD]
theorem sameDs_refl : ∀ ds : List D, sameDs ds ds = true
  | [] => rfl
  | d :: r => by simp [sameDs, sameD_refl d, sameDs_refl r]
end
/-! ### the law's walk -/
theorem memD_nat {a : Nat} : ∀ {F : List Nat}, memD (natD a) (F.map natD) = decide (a ∈ F)
  | [] => by simp [memD]
  | f :: r => by
    have : deq (natD f) (natD a) = decide (a = f) := by
      simp only [natD, deq]
      rw [Bool.eq_iff_iff]
      simp
      omega
    simp [memD, memD_nat (F := r), this]
abbrev addBody : List Nv.S := [.asg (.nm 3) (.bin .add false (.v 3) (.bin .mul false (.lst false [(.v 5)]) (.bf .int false [(.cmp .notin (.v 5) (.v 3))])))]
theorem c_notin {a : Nat} {F : List Nat} {S : Sto} : cmpD .notin (natD a) (.lst (F.map natD)) S = .ok (.bl (!decide (a ∈ F))) S := by
  have : inD (natD a) (.lst (F.map natD)) S = some (decide (a ∈ F)) := by
    show (if dle 100 (natD a) && pureD (natD a) then match seqOf S (.lst (F.map natD)) with | some ys => if pureDs ys then some (memD (natD a) ys) else none | none => none else none) = _
    simp [natD, dle, pureD, seqOf]
    rw [show (D.int (a : Int)) = natD a from rfl, memD_nat]
    exact ⟨natD_pures F, rfl⟩
  simp [cmpD, cmpB, this]
theorem add_turn {b : Nat} {v0 v1 v2 v4 : Option D} {S : Sto} (F : List Nat) (a : Nat) (hz : F.length ≤ 1000) : evSs ((evW P).s b) addBody [v0, v1, v2, some (.lst (F.map natD)), v4, some (natD a)] S = .ok (.nx [v0, v1, v2, some (.lst ((addNew F a).map natD)), v4, some (natD a)]) S := by
  have hz2 : F.length + 1 ≤ 16777216 := by omega
  have hz3 : F.length ≤ 16777216 := by omega
  by_cases h : a ∈ F
  · simp [fnR, evSs, evW_e, evW_t, evW_s, eE_c, eE_v, eE_g, eE_bin, eE_neg, eE_nt, eE_an, eE_or, eE_cmp, eE_ch, eE_ite, eE_tup, eE_lst, eE_ix, eE_sl, eE_rv, eE_isi, eE_call, eE_bf, eE_mt, eE_lam, eT_nt, eT_an, eT_or, eT_cmp, eT_ch, eT_v, eT_call, eT_isi, eT_ix, eT_c, eT_bf, eS_asg, eS_par, eS_lcs, eS_ret, eS_ex, eS_iff, eS_rai, eS_retN, eS_pass, eS_brk, ↓bind_ok, ↓bind_ex, ↓bind_no, evEs, evO, ixD, seqOf, seqL, atI, ixN, nox, c_lt, c_le, c_gt, c_ge, c_isN, c_isntN, c_isB, c_isntB, c_eq, c_ne, pureD, pureDs, near, dle, dles, deq, deqs, blD, setT, setTs, bfD, binD, setIx, truD, newL, isiD, ifsD, wipeD, pf0, pf1, pf2, pf3, pf4, pf5, pf6, pf7, pf8, pf9, pf10, pf11, pf12, pf13, pf14, pf15, pf16, pf17, pf18, pf19, pf20, pf21, pf22, pf23, pf24, pf25, pf26, pf27, pf28, pf29, pg0, pg1, pg2, plm0, c_notin, h, intD, mulD, repL, addD, addNew, sizeMax, hz3]
  · simp [fnR, evSs, evW_e, evW_t, evW_s, eE_c, eE_v, eE_g, eE_bin, eE_neg, eE_nt, eE_an, eE_or, eE_cmp, eE_ch, eE_ite, eE_tup, eE_lst, eE_ix, eE_sl, eE_rv, eE_isi, eE_call, eE_bf, eE_mt, eE_lam, eT_nt, eT_an, eT_or, eT_cmp, eT_ch, eT_v, eT_call, eT_isi, eT_ix, eT_c, eT_bf, eS_asg, eS_par, eS_lcs, eS_ret, eS_ex, eS_iff, eS_rai, eS_retN, eS_pass, eS_brk, ↓bind_ok, ↓bind_ex, ↓bind_no, evEs, evO, ixD, seqOf, seqL, atI, ixN, nox, c_lt, c_le, c_gt, c_ge, c_isN, c_isntN, c_isB, c_isntB, c_eq, c_ne, pureD, pureDs, near, dle, dles, deq, deqs, blD, setT, setTs, bfD, binD, setIx, truD, newL, isiD, ifsD, wipeD, pf0, pf1, pf2, pf3, pf4, pf5, pf6, pf7, pf8, pf9, pf10, pf11, pf12, pf13, pf14, pf15, pf16, pf17, pf18, pf19, pf20, pf21, pf22, pf23, pf24, pf25, pf26, pf27, pf28, pf29, pg0, pg1, pg2, plm0, c_notin, h, intD, mulD, repL, addD, addNew, sizeMax, hz2]
theorem addNew_len {F : List Nat} {a : Nat} : (addNew F a).length ≤ F.length + 1 := by
  unfold addNew
  split
  · omega
  · simp
theorem add_for {b : Nat} {v0 v1 v2 v4 o : Option D} {S S1 : Sto} {ex : E} (F as : List Nat) (hz : F.length + as.length ≤ 1000) (e : (evW P).e b ex [v0, v1, v2, some (.lst (F.map natD)), v4, o] S = .ok (.lst (as.map natD)) S1) :
    ∃ o', stS P (evW P) b (.for_ (.nm 5) (.seq ex) addBody) [v0, v1, v2, some (.lst (F.map natD)), v4, o] S = .ok (.nx [v0, v1, v2, some (.lst ((as.foldl addNew F).map natD)), v4, o']) S1 := by
  rw [eS_for, it_lst e, bind_ok]
  have key : ∀ (as F : List Nat) (o : Option D), F.length + as.length ≤ 1000 → ∃ o', forL none (fun d sl S => setT ((evW P).e b) 9 (.nm 5) d sl S) (fun sl S => evSs ((evW P).s b) addBody sl S) (as.map natD) [v0, v1, v2, some (.lst (F.map natD)), v4, o] S1 = .ok (.nx [v0, v1, v2, some (.lst ((as.foldl addNew F).map natD)), v4, o']) S1 := by
    intro as
    induction as with
    | nil => exact fun F o _ => ⟨o, by simp [forL, gdOk]⟩
    | cons a r ih =>
      intro F o hz
      simp only [List.length_cons] at hz
      obtain ⟨o', e'⟩ := ih (addNew F a) (some (natD a)) (by have := addNew_len (F := F) (a := a); omega)
      refine ⟨o', ?_⟩
      rw [List.map_cons]
      unfold forL
      rw [if_pos (show gdOk _ none = true from rfl)]
      rw [show setT ((evW P).e b) 9 (.nm 5) (natD a) [v0, v1, v2, some (.lst (F.map natD)), v4, o] S1 = .ok [v0, v1, v2, some (.lst (F.map natD)), v4, some (natD a)] S1 from rfl]
      simp only [bind_ok]
      rw [add_turn F a (by omega)]
      simp only [bind_ok]
      exact e'
  exact key as F o hz
theorem law_reached {b : Nat} (hb : 1 ≤ b) {h : List Ce} (o : HpOk h) {rs : List Wd} (ro : RtOk h rs) (S : Sto) : ∃ F : List Nat, fnD (evW P) b f13 [encH h, .tup (rs.map encW), .non] S = .ok (.lst (F.map natD)) S ∧ Bfs (led h) (adrs rs) h.length F ∧ (∀ a ∈ adrs rs, a ∈ F) ∧ ∀ a ∈ F, ∀ c ∈ led h a, c ∈ F := by
  obtain ⟨b, rfl⟩ := off hb
  have hl20 := o.len
  have hr3 := ro.len
  have hra := adrs_len rs
  have valid_lt : ∀ a, Valid h a → a < h.length := fun a ⟨c, hc⟩ => (List.getElem?_eq_some_iff.mp hc).1
  have vr : ∀ a ∈ adrs rs, Valid h a := fun a ha => ro.wds _ (adrs_mem ha)
  obtain ⟨d0, m0, G0, x0⟩ := Bfs.add (ld := led h) (rs := adrs rs) (n := h.length) (adrs rs) [] ⟨by simp, by simp, by simp⟩ (fun a ha => valid_lt a (vr a ha)) fun a ha => .root ha
  obtain ⟨o0, e0⟩ := add_for (b := b + 1) (v0 := some (encH h)) (v1 := some (.tup (rs.map encW))) (v2 := some .non) (v4 := some (.int 0)) (o := none) (S := S) (S1 := S) (ex := .call 19 [(.v 1)]) [] (adrs rs) (by simp; omega) (by simp [fnR, evSs, evW_e, evW_t, evW_s, eE_c, eE_v, eE_g, eE_bin, eE_neg, eE_nt, eE_an, eE_or, eE_cmp, eE_ch, eE_ite, eE_tup, eE_lst, eE_ix, eE_sl, eE_rv, eE_isi, eE_call, eE_bf, eE_mt, eE_lam, eT_nt, eT_an, eT_or, eT_cmp, eT_ch, eT_v, eT_call, eT_isi, eT_ix, eT_c, eT_bf, eS_asg, eS_par, eS_lcs, eS_ret, eS_ex, eS_iff, eS_rai, eS_retN, eS_pass, eS_brk, ↓bind_ok, ↓bind_ex, ↓bind_no, evEs, evO, ixD, seqOf, seqL, atI, ixN, nox, c_lt, c_le, c_gt, c_ge, c_isN, c_isntN, c_isB, c_isntB, c_eq, c_ne, pureD, pureDs, near, dle, dles, deq, deqs, blD, setT, setTs, bfD, binD, setIx, truD, newL, isiD, ifsD, wipeD, pf0, pf1, pf2, pf3, pf4, pf5, pf6, pf7, pf8, pf9, pf10, pf11, pf12, pf13, pf14, pf15, pf16, pf17, pf18, pf19, pf20, pf21, pf22, pf23, pf24, pf25, pf26, pf27, pf28, pf29, pg0, pg1, pg2, plm0, law_led (b := b) rs (by omega) S])
  have key := whl_inv (b := b + 1) (c := .cmp .lt (.v 4) (.bf .len false [(.v 3)])) (bd := [.for_ (.nm 5) (.seq (.ite (.cmp .ne (.ix (.v 3) (.v 4)) (.v 2)) (.call 19 [(.ix (.ix (.v 0) (.ix (.v 3) (.v 4))) (.c (.int 1)))]) (.lst false []))) addBody, .asg (.nm 4) (.bin .add false (.v 4) (.c (.int 1)))])
    (I := fun sl S' => S' = S ∧ ∃ (F : List Nat) (k : Nat) (o : Option D), sl = [some (encH h), some (.tup (rs.map encW)), some .non, some (.lst (F.map natD)), some (.int k), o] ∧ Bfs (led h) (adrs rs) h.length F ∧ (∀ a ∈ adrs rs, a ∈ F) ∧ (∀ a ∈ F, Valid h a) ∧ k ≤ F.length ∧ ∀ i, i < k → ∀ a, F[i]? = some a → ∀ c ∈ led h a, c ∈ F)
    (Q := fun sl S' => S' = S ∧ ∃ (F : List Nat) (k : Nat) (o : Option D), sl = [some (encH h), some (.tup (rs.map encW)), some .non, some (.lst (F.map natD)), some (.int k), o] ∧ Bfs (led h) (adrs rs) h.length F ∧ (∀ a ∈ adrs rs, a ∈ F) ∧ ∀ a ∈ F, ∀ c ∈ led h a, c ∈ F)
    (μ := fun sl S' => match sl with
      | [_, _, _, _, some (.int k), _] => 20 - k.toNat
      | _ => 0)
    (by
      rintro sl S' ⟨rfl, F, k, o', rfl, d, hro, hv, hk, hst⟩
      have hF : F.length ≤ 20 := Nat.le_trans (nodup_le h.length F d.nd d.val) (by omega)
      refine ⟨decide ((k : Int) < F.length), S', ?_, fun hlt => ?_, fun hnl => ?_⟩
      · simp [fnR, evSs, evW_e, evW_t, evW_s, eE_c, eE_v, eE_g, eE_bin, eE_neg, eE_nt, eE_an, eE_or, eE_cmp, eE_ch, eE_ite, eE_tup, eE_lst, eE_ix, eE_sl, eE_rv, eE_isi, eE_call, eE_bf, eE_mt, eE_lam, eT_nt, eT_an, eT_or, eT_cmp, eT_ch, eT_v, eT_call, eT_isi, eT_ix, eT_c, eT_bf, eS_asg, eS_par, eS_lcs, eS_ret, eS_ex, eS_iff, eS_rai, eS_retN, eS_pass, eS_brk, ↓bind_ok, ↓bind_ex, ↓bind_no, evEs, evO, ixD, seqOf, seqL, atI, ixN, nox, c_lt, c_le, c_gt, c_ge, c_isN, c_isntN, c_isB, c_isntB, c_eq, c_ne, pureD, pureDs, near, dle, dles, deq, deqs, blD, setT, setTs, bfD, binD, setIx, truD, newL, isiD, ifsD, wipeD, pf0, pf1, pf2, pf3, pf4, pf5, pf6, pf7, pf8, pf9, pf10, pf11, pf12, pf13, pf14, pf15, pf16, pf17, pf18, pf19, pf20, pf21, pf22, pf23, pf24, pf25, pf26, pf27, pf28, pf29, pg0, pg1, pg2, plm0, lenD]
      · have hlt : k < F.length := by simpa using hlt
        have hlt' : (k : Int) < F.length := by omega
        have va : Valid h F[k] := hv _ (List.getElem_mem hlt)
        have hla := led_ok o (a := F[k])
        have hal := valid_lt _ va
        have hal' : (F[k] : Int) < h.length := by omega
        obtain ⟨⟨l, ws⟩, hc⟩ := va
        obtain ⟨_, hg⟩ := List.getElem?_eq_some_iff.mp hc
        have hws := (o.wds l ws (List.mem_of_getElem? hc)).1
        have eled : led h F[k] = adrs ws := by simp [led, hc]
        obtain ⟨o2, e2⟩ := add_for (b := b + 1) (v0 := some (encH h)) (v1 := some (.tup (rs.map encW))) (v2 := some .non) (v4 := some (.int k)) (o := o') (S := S') (S1 := S') (ex := .ite (.cmp .ne (.ix (.v 3) (.v 4)) (.v 2)) (.call 19 [(.ix (.ix (.v 0) (.ix (.v 3) (.v 4))) (.c (.int 1)))]) (.lst false [])) F (led h F[k]) (by omega) (by
          rw [eled]
          simp [fnR, evSs, evW_e, evW_t, evW_s, eE_c, eE_v, eE_g, eE_bin, eE_neg, eE_nt, eE_an, eE_or, eE_cmp, eE_ch, eE_ite, eE_tup, eE_lst, eE_ix, eE_sl, eE_rv, eE_isi, eE_call, eE_bf, eE_mt, eE_lam, eT_nt, eT_an, eT_or, eT_cmp, eT_ch, eT_v, eT_call, eT_isi, eT_ix, eT_c, eT_bf, eS_asg, eS_par, eS_lcs, eS_ret, eS_ex, eS_iff, eS_rai, eS_retN, eS_pass, eS_brk, ↓bind_ok, ↓bind_ex, ↓bind_no, evEs, evO, ixD, seqOf, seqL, atI, ixN, nox, c_lt, c_le, c_gt, c_ge, c_isN, c_isntN, c_isB, c_isntB, c_eq, c_ne, pureD, pureDs, near, dle, dles, deq, deqs, blD, setT, setTs, bfD, binD, setIx, truD, newL, isiD, ifsD, wipeD, pf0, pf1, pf2, pf3, pf4, pf5, pf6, pf7, pf8, pf9, pf10, pf11, pf12, pf13, pf14, pf15, pf16, pf17, pf18, pf19, pf20, pf21, pf22, pf23, pf24, pf25, pf26, pf27, pf28, pf29, pg0, pg1, pg2, plm0, hlt, hlt', natD, encH, hal, hal', hg, encC, law_led (b := b) ws (by omega) S'])
        obtain ⟨d2, m2, G2, x2⟩ := Bfs.add (led h F[k]) F d (fun a ha => valid_lt a (hla.2 a ha)) fun a ha => .step (d.rl _ (List.getElem_mem hlt)) ha
        refine ⟨[some (encH h), some (.tup (rs.map encW)), some .non, some (.lst (((led h F[k]).foldl addNew F).map natD)), some (.int ((k + 1 : Nat) : Int)), o2], S', ?_, ⟨rfl, _, k + 1, o2, rfl, d2, fun a ha => ?_, fun a ha => ?_, ?_, fun i hi a ha c hc => ?_⟩, ?_⟩
        · simp [fnR, evSs, evW_e, evW_t, evW_s, eE_c, eE_v, eE_g, eE_bin, eE_neg, eE_nt, eE_an, eE_or, eE_cmp, eE_ch, eE_ite, eE_tup, eE_lst, eE_ix, eE_sl, eE_rv, eE_isi, eE_call, eE_bf, eE_mt, eE_lam, eT_nt, eT_an, eT_or, eT_cmp, eT_ch, eT_v, eT_call, eT_isi, eT_ix, eT_c, eT_bf, eS_asg, eS_par, eS_lcs, eS_ret, eS_ex, eS_iff, eS_rai, eS_retN, eS_pass, eS_brk, ↓bind_ok, ↓bind_ex, ↓bind_no, evEs, evO, ixD, seqOf, seqL, atI, ixN, nox, c_lt, c_le, c_gt, c_ge, c_isN, c_isntN, c_isB, c_isntB, c_eq, c_ne, pureD, pureDs, near, dle, dles, deq, deqs, blD, setT, setTs, bfD, binD, setIx, truD, newL, isiD, ifsD, wipeD, pf0, pf1, pf2, pf3, pf4, pf5, pf6, pf7, pf8, pf9, pf10, pf11, pf12, pf13, pf14, pf15, pf16, pf17, pf18, pf19, pf20, pf21, pf22, pf23, pf24, pf25, pf26, pf27, pf28, pf29, pg0, pg1, pg2, plm0, e2, addD]
        · rw [x2]
          exact List.mem_append_left _ (hro a ha)
        · have : ∀ (as F : List Nat), (∀ a ∈ F, Valid h a) → (∀ a ∈ as, Valid h a) → ∀ a ∈ as.foldl addNew F, Valid h a := by
            intro as
            induction as with
            | nil => exact fun F h1 _ => h1
            | cons x r ih =>
              intro F h1 h2
              refine ih (addNew F x) (fun y hy => ?_) fun y hy => h2 y (List.mem_cons_of_mem _ hy)
              unfold addNew at hy
              split at hy
              · exact h1 y hy
              · rcases List.mem_append.mp hy with z | z
                · exact h1 y z
                · simp at z
                  exact h2 y (by simp [z])
          exact this (led h F[k]) F hv hla.2 a ha
        · rw [x2, List.length_append]
          omega
        · rw [x2] at ha ⊢
          rw [List.getElem?_append_left (by omega)] at ha
          by_cases z : i < k
          · exact List.mem_append_left _ (hst i z a ha c hc)
          · have : i = k := by omega
            subst this
            rw [List.getElem?_eq_getElem hlt] at ha
            cases ha
            rw [← x2]
            exact m2 c hc
        · show 20 - ((k + 1 : Nat) : Int).toNat < 20 - (k : Int).toNat
          omega
      · have hnl : ¬ k < F.length := by simpa using hnl
        refine ⟨rfl, F, k, o', rfl, d, hro, fun a ha c hc => ?_⟩
        obtain ⟨i, hi, rfl⟩ := List.mem_iff_getElem.mp ha
        exact hst i (by omega) _ (List.getElem?_eq_getElem hi) c hc)
  have vF : ∀ (as F : List Nat), (∀ a ∈ F, Valid h a) → (∀ a ∈ as, Valid h a) → ∀ a ∈ as.foldl addNew F, Valid h a := by
    intro as
    induction as with
    | nil => exact fun F h1 _ => h1
    | cons x r ih =>
      intro F h1 h2
      refine ih (addNew F x) (fun y hy => ?_) fun y hy => h2 y (List.mem_cons_of_mem _ hy)
      unfold addNew at hy
      split at hy
      · exact h1 y hy
      · rcases List.mem_append.mp hy with z | z
        · exact h1 y z
        · simp at z
          exact h2 y (by simp [z])
  obtain ⟨sl', S', e1, rfl, F, k, o1, rfl, d, hro, hst⟩ := key 20 [some (encH h), some (.tup (rs.map encW)), some .non, some (.lst (((adrs rs).foldl addNew []).map natD)), some (.int (0 : Nat)), o0] S (by simp) ⟨rfl, _, 0, o0, rfl, d0, m0, vF (adrs rs) [] (by simp) vr, Nat.zero_le _, fun i hi => absurd hi (by omega)⟩
  refine ⟨F, ?_, d, hro, hst⟩
  simp only [List.map_nil] at e0
  rw [fnD_run rfl]
  simp [fnR, evSs, evW_e, evW_t, evW_s, eE_c, eE_v, eE_g, eE_bin, eE_neg, eE_nt, eE_an, eE_or, eE_cmp, eE_ch, eE_ite, eE_tup, eE_lst, eE_ix, eE_sl, eE_rv, eE_isi, eE_call, eE_bf, eE_mt, eE_lam, eT_nt, eT_an, eT_or, eT_cmp, eT_ch, eT_v, eT_call, eT_isi, eT_ix, eT_c, eT_bf, eS_asg, eS_par, eS_lcs, eS_ret, eS_ex, eS_iff, eS_rai, eS_retN, eS_pass, eS_brk, ↓bind_ok, ↓bind_ex, ↓bind_no, evEs, evO, ixD, seqOf, seqL, atI, ixN, nox, c_lt, c_le, c_gt, c_ge, c_isN, c_isntN, c_isB, c_isntB, c_eq, c_ne, pureD, pureDs, near, dle, dles, deq, deqs, blD, setT, setTs, bfD, binD, setIx, truD, newL, isiD, ifsD, wipeD, pf0, pf1, pf2, pf3, pf4, pf5, pf6, pf7, pf8, pf9, pf10, pf11, pf12, pf13, pf14, pf15, pf16, pf17, pf18, pf19, pf20, pf21, pf22, pf23, pf24, pf25, pf26, pf27, pf28, pf29, pg0, pg1, pg2, plm0, f13, sizeMax, e0]
  simp only [Int.ofNat_zero] at e1
  simp [fnR, evSs, evW_e, evW_t, evW_s, eE_c, eE_v, eE_g, eE_bin, eE_neg, eE_nt, eE_an, eE_or, eE_cmp, eE_ch, eE_ite, eE_tup, eE_lst, eE_ix, eE_sl, eE_rv, eE_isi, eE_call, eE_bf, eE_mt, eE_lam, eT_nt, eT_an, eT_or, eT_cmp, eT_ch, eT_v, eT_call, eT_isi, eT_ix, eT_c, eT_bf, eS_asg, eS_par, eS_lcs, eS_ret, eS_ex, eS_iff, eS_rai, eS_retN, eS_pass, eS_brk, ↓bind_ok, ↓bind_ex, ↓bind_no, evEs, evO, ixD, seqOf, seqL, atI, ixN, nox, c_lt, c_le, c_gt, c_ge, c_isN, c_isntN, c_isB, c_isntB, c_eq, c_ne, pureD, pureDs, near, dle, dles, deq, deqs, blD, setT, setTs, bfD, binD, setIx, truD, newL, isiD, ifsD, wipeD, pf0, pf1, pf2, pf3, pf4, pf5, pf6, pf7, pf8, pf9, pf10, pf11, pf12, pf13, pf14, pf15, pf16, pf17, pf18, pf19, pf20, pf21, pf22, pf23, pf24, pf25, pf26, pf27, pf28, pf29, pg0, pg1, pg2, plm0, e1]

/-! ### counts -/
def cellAdr : Ce → List Nat
  | none => []
  | some (_, ws) => adrs ws
def cntD (n : Nat) (xs : List Nat) : List D := (List.range n).map fun i => D.int (xs.count i : Nat)
theorem cntD_len {n : Nat} {xs : List Nat} : (cntD n xs).length = n := by simp [cntD]
theorem cntD_at {n a : Nat} {xs : List Nat} (h : a < n) : (cntD n xs)[a]? = some (.int (xs.count a : Nat)) := by simp [cntD, h]
theorem cntD_get {n a : Nat} {xs : List Nat} (h : a < (cntD n xs).length) : (cntD n xs)[a] = .int (xs.count a : Nat) := by simp [cntD]
theorem cntD_set {n a : Nat} {xs : List Nat} (h : a < n) : (cntD n xs).set a (.int ((xs.count a : Nat) + 1)) = cntD n (xs ++ [a]) := by
  apply List.ext_getElem?
  intro i
  by_cases hi : i < n
  · by_cases z : a = i
    · subst z
      rw [List.getElem?_set_self (by rw [cntD_len]; exact h), cntD_at h]
      simp [List.count_append]
    · rw [List.getElem?_set_ne z, cntD_at hi, cntD_at hi]
      simp [List.count_append, List.count_cons, z]
  · rw [List.getElem?_eq_none (by rw [List.length_set, cntD_len]; omega), List.getElem?_eq_none (by rw [cntD_len]; omega)]
theorem cnt_for {b : Nat} {v0 v1 v4 : Option D} {m n : Nat} : ∀ (as xs : List Nat) (o : Option D) (S : Sto), (∀ a ∈ as, a < n) → S[m]? = some (cntD n xs) →
    ∃ o', forL none (fun d sl S => setT ((evW P).e b) 9 (.nm 3) d sl S) (fun sl S => evSs ((evW P).s b) [.asg (.ix (.v 2) (.v 3)) (.bin .add false (.ix (.v 2) (.v 3)) (.c (.int 1)))] sl S) (as.map natD) [v0, v1, some (.ref m), o, v4] S = .ok (.nx [v0, v1, some (.ref m), o', v4]) (S.set m (cntD n (xs ++ as)))
  | [], xs, o, S, _, hS => ⟨o, by
      obtain ⟨hlt, hg⟩ := List.getElem?_eq_some_iff.mp hS
      have : S.set m (cntD n xs) = S := by
        rw [← hg]
        exact List.set_getElem_self hlt
      simp [forL, gdOk, this]⟩
  | a :: r, xs, o, S, hv, hS => by
    have ha : a < n := hv a List.mem_cons_self
    have ha' : (a : Int) < n := by omega
    have hlt := (List.getElem?_eq_some_iff.mp hS).1
    have hS' : (S.set m (cntD n (xs ++ [a])))[m]? = some (cntD n (xs ++ [a])) := List.getElem?_set_self hlt
    obtain ⟨o', e⟩ := cnt_for r (xs ++ [a]) (some (natD a)) (S.set m (cntD n (xs ++ [a]))) (fun x hx => hv x (List.mem_cons_of_mem _ hx)) hS'
    refine ⟨o', ?_⟩
    rw [List.map_cons]
    unfold forL
    rw [if_pos (show gdOk _ none = true from rfl)]
    rw [show setT ((evW P).e b) 9 (.nm 3) (natD a) [v0, v1, some (.ref m), o, v4] S = .ok [v0, v1, some (.ref m), some (natD a), v4] S from rfl]
    simp only [bind_ok]
    have t : evSs ((evW P).s b) [.asg (.ix (.v 2) (.v 3)) (.bin .add false (.ix (.v 2) (.v 3)) (.c (.int 1)))] [v0, v1, some (.ref m), some (natD a), v4] S = .ok (.nx [v0, v1, some (.ref m), some (natD a), v4]) (S.set m (cntD n (xs ++ [a]))) := by
      simp [fnR, evSs, evW_e, evW_t, evW_s, eE_c, eE_v, eE_g, eE_bin, eE_neg, eE_nt, eE_an, eE_or, eE_cmp, eE_ch, eE_ite, eE_tup, eE_lst, eE_ix, eE_sl, eE_rv, eE_isi, eE_call, eE_bf, eE_mt, eE_lam, eT_nt, eT_an, eT_or, eT_cmp, eT_ch, eT_v, eT_call, eT_isi, eT_ix, eT_c, eT_bf, eS_asg, eS_par, eS_lcs, eS_ret, eS_ex, eS_iff, eS_rai, eS_retN, eS_pass, eS_brk, ↓bind_ok, ↓bind_ex, ↓bind_no, evEs, evO, ixD, seqOf, seqL, atI, ixN, nox, c_lt, c_le, c_gt, c_ge, c_isN, c_isntN, c_isB, c_isntB, c_eq, c_ne, pureD, pureDs, near, dle, dles, deq, deqs, blD, setT, setTs, bfD, binD, setIx, truD, newL, isiD, ifsD, wipeD, pf0, pf1, pf2, pf3, pf4, pf5, pf6, pf7, pf8, pf9, pf10, pf11, pf12, pf13, pf14, pf15, pf16, pf17, pf18, pf19, pf20, pf21, pf22, pf23, pf24, pf25, pf26, pf27, pf28, pf29, pg0, pg1, pg2, plm0, natD, hS, cntD_len, ha', ha, cntD_at ha, addD, cntD_set ha, cntD_get]
    rw [t]
    simp only [bind_ok]
    rw [e, List.set_set, List.append_assoc, List.singleton_append]
abbrev cellBody : List Nv.S := [.iff (.cmp .isntN (.v 4) (.c .non)) [.for_ (.nm 3) (.seq (.call 27 [(.ix (.v 4) (.c (.int 1)))])) [.asg (.ix (.v 2) (.v 3)) (.bin .add false (.ix (.v 2) (.v 3)) (.c (.int 1)))]] []]
theorem cells_for {b : Nat} (hb : 2 ≤ b) {v0 v1 : Option D} {m n : Nat} : ∀ (cs : List Ce) (xs : List Nat) (o o4 : Option D) (S : Sto), (∀ l ws, some (l, ws) ∈ cs → ws.length ≤ 3 ∧ ∀ a ∈ adrs ws, a < n) → S[m]? = some (cntD n xs) →
    ∃ o' o4', forL none (fun d sl S => setT ((evW P).e b) 9 (.nm 4) d sl S) (fun sl S => evSs ((evW P).s b) cellBody sl S) (cs.map encC) [v0, v1, some (.ref m), o, o4] S = .ok (.nx [v0, v1, some (.ref m), o', o4']) (S.set m (cntD n (xs ++ cs.flatMap cellAdr)))
  | [], xs, o, o4, S, _, hS => ⟨o, o4, by
      obtain ⟨hlt, hg⟩ := List.getElem?_eq_some_iff.mp hS
      have : S.set m (cntD n xs) = S := by
        rw [← hg]
        exact List.set_getElem_self hlt
      simp [forL, gdOk, this]⟩
  | c :: r, xs, o, o4, S, hv, hS => by
    have hlt := (List.getElem?_eq_some_iff.mp hS).1
    have hS' : (S.set m (cntD n (xs ++ cellAdr c)))[m]? = some (cntD n (xs ++ cellAdr c)) := List.getElem?_set_self hlt
    have t : ∃ o2, evSs ((evW P).s b) cellBody [v0, v1, some (.ref m), o, some (encC c)] S = .ok (.nx [v0, v1, some (.ref m), o2, some (encC c)]) (S.set m (cntD n (xs ++ cellAdr c))) := by
      obtain ⟨b, rfl⟩ := off hb
      cases c with
      | none =>
        obtain ⟨hlt, hg⟩ := List.getElem?_eq_some_iff.mp hS
        have : S.set m (cntD n xs) = S := by
          rw [← hg]
          exact List.set_getElem_self hlt
        refine ⟨o, ?_⟩
        simp [fnR, evSs, evW_e, evW_t, evW_s, eE_c, eE_v, eE_g, eE_bin, eE_neg, eE_nt, eE_an, eE_or, eE_cmp, eE_ch, eE_ite, eE_tup, eE_lst, eE_ix, eE_sl, eE_rv, eE_isi, eE_call, eE_bf, eE_mt, eE_lam, eT_nt, eT_an, eT_or, eT_cmp, eT_ch, eT_v, eT_call, eT_isi, eT_ix, eT_c, eT_bf, eS_asg, eS_par, eS_lcs, eS_ret, eS_ex, eS_iff, eS_rai, eS_retN, eS_pass, eS_brk, ↓bind_ok, ↓bind_ex, ↓bind_no, evEs, evO, ixD, seqOf, seqL, atI, ixN, nox, c_lt, c_le, c_gt, c_ge, c_isN, c_isntN, c_isB, c_isntB, c_eq, c_ne, pureD, pureDs, near, dle, dles, deq, deqs, blD, setT, setTs, bfD, binD, setIx, truD, newL, isiD, ifsD, wipeD, pf0, pf1, pf2, pf3, pf4, pf5, pf6, pf7, pf8, pf9, pf10, pf11, pf12, pf13, pf14, pf15, pf16, pf17, pf18, pf19, pf20, pf21, pf22, pf23, pf24, pf25, pf26, pf27, pf28, pf29, pg0, pg1, pg2, plm0, encC, isNon, cellAdr, this]
      | some p =>
        obtain ⟨l, ws⟩ := p
        obtain ⟨h1, h2⟩ := hv l ws List.mem_cons_self
        obtain ⟨o2, e2⟩ := cnt_for (b := b + 2) (v0 := v0) (v1 := v1) (v4 := some (encC (some (l, ws)))) (adrs ws) xs o S h2 hS
        have e3 : stS P (evW P) (b + 2) (.for_ (.nm 3) (.seq (.call 27 [(.ix (.v 4) (.c (.int 1)))])) [.asg (.ix (.v 2) (.v 3)) (.bin .add false (.ix (.v 2) (.v 3)) (.c (.int 1)))]) [v0, v1, some (.ref m), o, some (encC (some (l, ws)))] S = .ok (.nx [v0, v1, some (.ref m), o2, some (encC (some (l, ws)))]) (S.set m (cntD n (xs ++ adrs ws))) := by
          rw [eS_for, it_lst (xs := (adrs ws).map natD) (S1 := S) (by simp [fnR, evSs, evW_e, evW_t, evW_s, eE_c, eE_v, eE_g, eE_bin, eE_neg, eE_nt, eE_an, eE_or, eE_cmp, eE_ch, eE_ite, eE_tup, eE_lst, eE_ix, eE_sl, eE_rv, eE_isi, eE_call, eE_bf, eE_mt, eE_lam, eT_nt, eT_an, eT_or, eT_cmp, eT_ch, eT_v, eT_call, eT_isi, eT_ix, eT_c, eT_bf, eS_asg, eS_par, eS_lcs, eS_ret, eS_ex, eS_iff, eS_rai, eS_retN, eS_pass, eS_brk, ↓bind_ok, ↓bind_ex, ↓bind_no, evEs, evO, ixD, seqOf, seqL, atI, ixN, nox, c_lt, c_le, c_gt, c_ge, c_isN, c_isntN, c_isB, c_isntB, c_eq, c_ne, pureD, pureDs, near, dle, dles, deq, deqs, blD, setT, setTs, bfD, binD, setIx, truD, newL, isiD, ifsD, wipeD, pf0, pf1, pf2, pf3, pf4, pf5, pf6, pf7, pf8, pf9, pf10, pf11, pf12, pf13, pf14, pf15, pf16, pf17, pf18, pf19, pf20, pf21, pf22, pf23, pf24, pf25, pf26, pf27, pf28, pf29, pg0, pg1, pg2, plm0, encC, addresses_in (b := b + 1) (by omega) ws (by omega) S]), bind_ok]
          exact e2
        simp only [encC] at e3
        refine ⟨o2, ?_⟩
        simp [fnR, evSs, evW_e, evW_t, evW_s, eE_c, eE_v, eE_g, eE_bin, eE_neg, eE_nt, eE_an, eE_or, eE_cmp, eE_ch, eE_ite, eE_tup, eE_lst, eE_ix, eE_sl, eE_rv, eE_isi, eE_call, eE_bf, eE_mt, eE_lam, eT_nt, eT_an, eT_or, eT_cmp, eT_ch, eT_v, eT_call, eT_isi, eT_ix, eT_c, eT_bf, eS_asg, eS_par, eS_lcs, eS_ret, eS_ex, eS_iff, eS_rai, eS_retN, eS_pass, eS_brk, ↓bind_ok, ↓bind_ex, ↓bind_no, evEs, evO, ixD, seqOf, seqL, atI, ixN, nox, c_lt, c_le, c_gt, c_ge, c_isN, c_isntN, c_isB, c_isntB, c_eq, c_ne, pureD, pureDs, near, dle, dles, deq, deqs, blD, setT, setTs, bfD, binD, setIx, truD, newL, isiD, ifsD, wipeD, pf0, pf1, pf2, pf3, pf4, pf5, pf6, pf7, pf8, pf9, pf10, pf11, pf12, pf13, pf14, pf15, pf16, pf17, pf18, pf19, pf20, pf21, pf22, pf23, pf24, pf25, pf26, pf27, pf28, pf29, pg0, pg1, pg2, plm0, encC, isNon, e3, cellAdr]
    obtain ⟨o2, t⟩ := t
    obtain ⟨o', o4', e⟩ := cells_for hb r (xs ++ cellAdr c) o2 (some (encC c)) (S.set m (cntD n (xs ++ cellAdr c))) (fun l ws hm => hv l ws (List.mem_cons_of_mem _ hm)) hS'
    refine ⟨o', o4', ?_⟩
    rw [List.map_cons]
    unfold forL
    rw [if_pos (show gdOk _ none = true from rfl)]
    rw [show setT ((evW P).e b) 9 (.nm 4) (encC c) [v0, v1, some (.ref m), o, o4] S = .ok [v0, v1, some (.ref m), o, some (encC c)] S from rfl]
    simp only [bind_ok]
    rw [t]
    simp only [bind_ok]
    rw [e, List.set_set, List.append_assoc, List.flatMap_cons]
def allAdr (h : List Ce) (rs : List Wd) : List Nat := adrs rs ++ h.flatMap cellAdr
theorem counts_of_cells {b : Nat} (hb : 2 ≤ b) {h : List Ce} (o : HpOk h) {rs : List Wd} (ro : RtOk h rs) (S0 : Sto) : fnD (evW P) b f22 [encH h, .tup (rs.map encW)] S0 = .ok (.ref S0.length) (S0 ++ [cntD h.length (allAdr h rs)]) := by
  obtain ⟨b, rfl⟩ := off hb
  have hl20 := o.len
  have hr3 := ro.len
  have valid_lt : ∀ a, Valid h a → a < h.length := fun a ⟨c, hc⟩ => (List.getElem?_eq_some_iff.mp hc).1
  have hrep : ∀ n, repL [D.int 0] n = cntD n [] := by
    intro n
    have : ∀ n, repL [D.int 0] n = List.replicate n (D.int 0) := by
      intro n
      induction n with
      | zero => rfl
      | succ n ih => simp [repL, ih, List.replicate_succ]
    rw [this]
    apply List.ext_getElem?
    intro i
    by_cases hi : i < n
    · rw [cntD_at hi]
      simp [List.getElem?_replicate, hi]
    · rw [List.getElem?_eq_none (by simp; omega), List.getElem?_eq_none (by rw [cntD_len]; omega)]
  have hz : h.length ≤ 16777216 := by omega
  have hz1 : (-9223372036854775808 : Int) ≤ h.length := by omega
  have hz2 : (h.length : Int) < 9223372036854775808 := by omega
  obtain ⟨o1, e1⟩ := cnt_for (b := b + 2) (v0 := some (.tup (h.map encC))) (v1 := some (.tup (rs.map encW))) (v4 := none) (m := S0.length) (n := h.length) (adrs rs) [] none (S0 ++ [cntD h.length []]) (fun a ha => valid_lt a (ro.wds _ (adrs_mem ha))) (by simp)
  have e1' : stS P (evW P) (b + 2) (.for_ (.nm 3) (.seq (.call 27 [(.v 1)])) [.asg (.ix (.v 2) (.v 3)) (.bin .add false (.ix (.v 2) (.v 3)) (.c (.int 1)))]) [some (.tup (h.map encC)), some (.tup (rs.map encW)), some (.ref S0.length), none, none] (S0 ++ [cntD h.length []]) = .ok (.nx [some (.tup (h.map encC)), some (.tup (rs.map encW)), some (.ref S0.length), o1, none]) (S0 ++ [cntD h.length (adrs rs)]) := by
    rw [eS_for, it_lst (xs := (adrs rs).map natD) (S1 := S0 ++ [cntD h.length []]) (by simp [fnR, evSs, evW_e, evW_t, evW_s, eE_c, eE_v, eE_g, eE_bin, eE_neg, eE_nt, eE_an, eE_or, eE_cmp, eE_ch, eE_ite, eE_tup, eE_lst, eE_ix, eE_sl, eE_rv, eE_isi, eE_call, eE_bf, eE_mt, eE_lam, eT_nt, eT_an, eT_or, eT_cmp, eT_ch, eT_v, eT_call, eT_isi, eT_ix, eT_c, eT_bf, eS_asg, eS_par, eS_lcs, eS_ret, eS_ex, eS_iff, eS_rai, eS_retN, eS_pass, eS_brk, ↓bind_ok, ↓bind_ex, ↓bind_no, evEs, evO, ixD, seqOf, seqL, atI, ixN, nox, c_lt, c_le, c_gt, c_ge, c_isN, c_isntN, c_isB, c_isntB, c_eq, c_ne, pureD, pureDs, near, dle, dles, deq, deqs, blD, setT, setTs, bfD, binD, setIx, truD, newL, isiD, ifsD, wipeD, pf0, pf1, pf2, pf3, pf4, pf5, pf6, pf7, pf8, pf9, pf10, pf11, pf12, pf13, pf14, pf15, pf16, pf17, pf18, pf19, pf20, pf21, pf22, pf23, pf24, pf25, pf26, pf27, pf28, pf29, pg0, pg1, pg2, plm0, addresses_in (b := b + 1) (by omega) rs (by omega)]), bind_ok]
    rw [e1]
    simp
  obtain ⟨o2, o3, e2⟩ := cells_for (b := b + 2) (by omega) (v0 := some (.tup (h.map encC))) (v1 := some (.tup (rs.map encW))) (m := S0.length) (n := h.length) h (adrs rs) o1 none (S0 ++ [cntD h.length (adrs rs)]) (fun l ws hm => ⟨(o.wds l ws hm).1, fun a ha => valid_lt a ((o.wds l ws hm).2 _ (adrs_mem ha))⟩) (by simp)
  have e2' : stS P (evW P) (b + 2) (.for_ (.nm 4) (.seq (.v 0)) cellBody) [some (.tup (h.map encC)), some (.tup (rs.map encW)), some (.ref S0.length), o1, none] (S0 ++ [cntD h.length (adrs rs)]) = .ok (.nx [some (.tup (h.map encC)), some (.tup (rs.map encW)), some (.ref S0.length), o2, o3]) (S0 ++ [cntD h.length (allAdr h rs)]) := by
    rw [eS_for, it_tup (xs := h.map encC) (S1 := S0 ++ [cntD h.length (adrs rs)]) (by simp [fnR, evSs, evW_e, evW_t, evW_s, eE_c, eE_v, eE_g, eE_bin, eE_neg, eE_nt, eE_an, eE_or, eE_cmp, eE_ch, eE_ite, eE_tup, eE_lst, eE_ix, eE_sl, eE_rv, eE_isi, eE_call, eE_bf, eE_mt, eE_lam, eT_nt, eT_an, eT_or, eT_cmp, eT_ch, eT_v, eT_call, eT_isi, eT_ix, eT_c, eT_bf, eS_asg, eS_par, eS_lcs, eS_ret, eS_ex, eS_iff, eS_rai, eS_retN, eS_pass, eS_brk, ↓bind_ok, ↓bind_ex, ↓bind_no, evEs, evO, ixD, seqOf, seqL, atI, ixN, nox, c_lt, c_le, c_gt, c_ge, c_isN, c_isntN, c_isB, c_isntB, c_eq, c_ne, pureD, pureDs, near, dle, dles, deq, deqs, blD, setT, setTs, bfD, binD, setIx, truD, newL, isiD, ifsD, wipeD, pf0, pf1, pf2, pf3, pf4, pf5, pf6, pf7, pf8, pf9, pf10, pf11, pf12, pf13, pf14, pf15, pf16, pf17, pf18, pf19, pf20, pf21, pf22, pf23, pf24, pf25, pf26, pf27, pf28, pf29, pg0, pg1, pg2, plm0]), bind_ok]
    rw [e2]
    simp [allAdr]
  rw [fnD_run rfl]
  simp [fnR, evSs, evW_e, evW_t, evW_s, eE_c, eE_v, eE_g, eE_bin, eE_neg, eE_nt, eE_an, eE_or, eE_cmp, eE_ch, eE_ite, eE_tup, eE_lst, eE_ix, eE_sl, eE_rv, eE_isi, eE_call, eE_bf, eE_mt, eE_lam, eT_nt, eT_an, eT_or, eT_cmp, eT_ch, eT_v, eT_call, eT_isi, eT_ix, eT_c, eT_bf, eS_asg, eS_par, eS_lcs, eS_ret, eS_ex, eS_iff, eS_rai, eS_retN, eS_pass, eS_brk, ↓bind_ok, ↓bind_ex, ↓bind_no, evEs, evO, ixD, seqOf, seqL, atI, ixN, nox, c_lt, c_le, c_gt, c_ge, c_isN, c_isntN, c_isB, c_isntB, c_eq, c_ne, pureD, pureDs, near, dle, dles, deq, deqs, blD, setT, setTs, bfD, binD, setIx, truD, newL, isiD, ifsD, wipeD, pf0, pf1, pf2, pf3, pf4, pf5, pf6, pf7, pf8, pf9, pf10, pf11, pf12, pf13, pf14, pf15, pf16, pf17, pf18, pf19, pf20, pf21, pf22, pf23, pf24, pf25, pf26, pf27, pf28, pf29, pg0, pg1, pg2, plm0, f22, encH, lenD, mulD, hrep, hz, hz1, hz2, sizeMax, e1', e2']
/-- what the counts are -/
def dueD (h : List Ce) (rs : List Wd) : List D := (List.range h.length).map fun i => match h[i]?.getD none with
  | none => .non
  | some _ => .int ((allAdr h rs).count i : Nat)
/-! ### letting go: plain mathematics -/
/-- all addresses that roots and cells hold -/
def refs (R : List Nat) (L : List Ce) : List Nat := R ++ L.flatMap cellAdr
def Alive (L : List Ce) (a : Nat) : Prop := ∃ c, L[a]? = some (some c)
def Free (R : List Nat) (L : List Ce) (a : Nat) : Prop := Alive L a ∧ a ∉ refs R L
def Stable (R : List Nat) (L : List Ce) : Prop := ∀ a, ¬ Free R L a
inductive Lets (R : List Nat) : List Ce → List Ce → Prop
  | nil {L : List Ce} : Lets R L L
  | cons {L M : List Ce} {a : Nat} : Lets R L M → Free R M a → Lets R L (M.set a none)
/-- fewer cells -/
structure Fewer (L M : List Ce) : Prop where
  len : L.length = M.length
  at_ : ∀ (i : Nat) (c : List Nat × List Wd), L[i]? = some (some c) → M[i]? = some (some c)
theorem Fewer.refl (L : List Ce) : Fewer L L := ⟨rfl, fun _ _ h => h⟩
theorem mem_flat {L : List Ce} {a : Nat} : a ∈ L.flatMap cellAdr ↔ ∃ (i : Nat) (l : List Nat) (ws : List Wd), L[i]? = some (some (l, ws)) ∧ a ∈ adrs ws := by
  rw [List.mem_flatMap]
  constructor
  · rintro ⟨c, hc, ha⟩
    obtain ⟨i, hi, rfl⟩ := List.mem_iff_getElem.mp hc
    cases q : L[i] with
    | none => rw [q] at ha; cases ha
    | some p =>
      rw [q] at ha
      exact ⟨i, p.1, p.2, by rw [List.getElem?_eq_getElem hi, q], ha⟩
  · rintro ⟨i, l, ws, h, ha⟩
    exact ⟨some (l, ws), List.mem_of_getElem? h, ha⟩
theorem sub_refs {R : List Nat} {L M : List Ce} (s : Fewer L M) {a : Nat} (h : a ∈ refs R L) : a ∈ refs R M := by
  rcases List.mem_append.mp h with h | h
  · exact List.mem_append_left _ h
  · obtain ⟨i, l, ws, h1, h2⟩ := mem_flat.mp h
    exact List.mem_append_right _ (mem_flat.mpr ⟨i, l, ws, s.at_ i _ h1, h2⟩)
theorem set_at {M : List Ce} {a i : Nat} {c : List Nat × List Wd} : (M.set a none)[i]? = some (some c) ↔ i ≠ a ∧ M[i]? = some (some c) := by
  by_cases z : a = i
  · subst z
    constructor
    · intro h
      by_cases hl : a < M.length
      · rw [List.getElem?_set_self hl] at h; cases h
      · rw [List.getElem?_eq_none (by rw [List.length_set]; omega)] at h; cases h
    · exact fun h => absurd rfl h.1
  · rw [List.getElem?_set_ne z]
    exact ⟨fun h => ⟨Ne.symm z, h⟩, fun h => h.2⟩
theorem Lets.sub {R : List Nat} {L M : List Ce} (h : Lets R L M) : Fewer M L := by
  induction h with
  | nil => exact Fewer.refl _
  | cons _ _ ih => exact ⟨by rw [List.length_set]; exact ih.len, fun i c hc => ih.at_ i c (set_at.mp hc).2⟩
theorem Lets.keep {R : List Nat} {L M N : List Ce} (h : Lets R L M) (s : Fewer N L) (st : Stable R N) : Fewer N M := by
  induction h with
  | nil => exact s
  | @cons M a _ f ih =>
    refine ⟨by rw [List.length_set]; exact ih.len, fun i c hc => set_at.mpr ⟨fun z => ?_, ih.at_ i c hc⟩⟩
    subst z
    exact st i ⟨⟨c, hc⟩, fun hr => f.2 (sub_refs ih hr)⟩
theorem sub_eq {L M : List Ce} (h1 : Fewer L M) (h2 : Fewer M L) : L = M := by
  apply List.ext_getElem?
  intro i
  by_cases hi : i < L.length
  · have hi' : i < M.length := by rw [← h1.len]; exact hi
    cases q : L[i] with
    | some c =>
      have e : L[i]? = some (some c) := by rw [List.getElem?_eq_getElem hi, q]
      rw [e, h1.at_ i c e]
    | none =>
      cases q' : M[i] with
      | some c =>
        have e : M[i]? = some (some c) := by rw [List.getElem?_eq_getElem hi', q']
        have := h2.at_ i c e
        rw [List.getElem?_eq_getElem hi, q] at this
        cases this
      | none => rw [List.getElem?_eq_getElem hi, List.getElem?_eq_getElem hi', q, q']
  · rw [List.getElem?_eq_none (by omega), List.getElem?_eq_none (by rw [← h1.len]; omega)]
/-- in whatever order: the same -/
theorem Lets.same {R : List Nat} {h L M : List Ce} (h1 : Lets R h L) (h2 : Lets R h M) (s1 : Stable R L) (s2 : Stable R M) : L = M :=
  sub_eq (h2.keep h1.sub s1) (h1.keep h2.sub s2)
/-- what is reached stays -/
theorem Lets.reach {R : List Nat} {h M : List Ce} (l : Lets R h M) (hv : ∀ a ∈ R, Alive h a) (hl : ∀ a, ∀ c ∈ led h a, Alive h c) : ∀ a, Reach (led h) R a → Alive M a := by
  induction l with
  | nil =>
    intro a ha
    cases ha with
    | root z => exact hv a z
    | step _ z => exact hl _ a z
  | @cons M a l f ih =>
    intro x hx
    obtain ⟨c, hc⟩ := ih x hx
    refine ⟨c, set_at.mpr ⟨fun z => ?_, hc⟩⟩
    subst z
    cases hx with
    | root z => exact f.2 (List.mem_append_left _ z)
    | @step y _ hy z =>
      obtain ⟨⟨l', ws⟩, hd⟩ := ih y hy
      have e := l.sub.at_ y _ hd
      refine f.2 (List.mem_append_right _ (mem_flat.mpr ⟨y, l', ws, hd, ?_⟩))
      simpa [led, e] using z
/-- what is left is a heap -/
theorem Lets.ok {R : List Nat} {h M : List Ce} (l : Lets R h M) (o : HpOk h) : HpOk M := by
  induction l with
  | nil => exact o
  | @cons M a l f ih =>
    refine ⟨by rw [List.length_set]; exact ih.len, fun l' ws hm => ?_⟩
    obtain ⟨i, hi, hq⟩ := List.mem_iff_getElem.mp hm
    have hq' : (M.set a none)[i]? = some (some (l', ws)) := by rw [List.getElem?_eq_getElem hi, hq]
    obtain ⟨hia, hq2⟩ := set_at.mp hq'
    obtain ⟨h1, h2⟩ := ih.wds l' ws (List.mem_of_getElem? hq2)
    refine ⟨h1, fun x hx => ?_⟩
    have := h2 x hx
    cases x with
    | non => trivial
    | num i => exact this
    | adr b =>
      obtain ⟨c, hc⟩ := this
      refine ⟨c, set_at.mpr ⟨fun z => ?_, hc⟩⟩
      subst z
      have mem : ∀ ws : List Wd, .adr b ∈ ws → b ∈ adrs ws := by
        intro ws
        induction ws with
        | nil => exact fun h => by cases h
        | cons w r ih =>
          intro h
          rcases List.mem_cons.mp h with z | z
          · subst z
            exact List.mem_cons_self
          · cases w with
            | non => exact ih z
            | num i => exact ih z
            | adr c => exact List.mem_cons_of_mem _ (ih z)
      exact f.2 (List.mem_append_right _ (mem_flat.mpr ⟨i, l', ws, hq2, mem ws hx⟩))
/-- of a stable heap: each cell that is not reached has one before it -/
theorem Stable.before {R : List Nat} {h M : List Ce} (l : Lets R h M) (st : Stable R M) {a : Nat} (ha : Alive M a) (hn : ¬ Reach (led h) R a) : ∃ x, Alive M x ∧ ¬ Reach (led h) R x ∧ a ∈ led h x := by
  have : a ∈ refs R M := Classical.byContradiction fun z => st a ⟨ha, z⟩
  rcases List.mem_append.mp this with z | z
  · exact absurd (Reach.root z) hn
  · obtain ⟨i, l', ws, h1, h2⟩ := mem_flat.mp z
    have e := l.sub.at_ i _ h1
    have hm : a ∈ led h i := by simpa [led, e] using h2
    exact ⟨i, ⟨_, h1⟩, fun q => hn (.step q hm), hm⟩
/-- going back and back one comes round -/
theorem ring_of {ld : Nat → List Nat} {n : Nat} {T : Nat → Prop} (hT : ∀ a, T a → a < n) (hp : ∀ a, T a → ∃ x, T x ∧ a ∈ ld x) {a : Nat} (ha : T a) : ∃ r, T r ∧ Reach ld (ld r) r ∧ (r = a ∨ Reach ld (ld r) a) := by
  have hp' : ∀ a, ∃ x, T a → T x ∧ a ∈ ld x := fun a => by
    by_cases z : T a
    · obtain ⟨x, hx⟩ := hp a z
      exact ⟨x, fun _ => hx⟩
    · exact ⟨0, fun q => absurd q z⟩
  obtain ⟨p, hp⟩ := Classical.axiomOfChoice hp'
  let sq : Nat → Nat := fun k => Nat.rec a (fun _ x => p x) k
  have hs : ∀ k, T (sq k) := by
    intro k
    induction k with
    | zero => exact ha
    | succ k ih => exact (hp _ ih).1
  have hst : ∀ k, sq k ∈ ld (sq (k + 1)) := fun k => (hp _ (hs k)).2
  have way : ∀ d i, Reach ld (ld (sq (i + d + 1))) (sq i) := by
    intro d i
    induction d with
    | zero => exact .root (hst i)
    | succ d ih =>
      have up : ∀ y, Reach ld (ld (sq (i + d + 1))) y → Reach ld (ld (sq (i + (d + 1) + 1))) y := by
        intro y hy
        induction hy with
        | root h => exact .step (.root (hst (i + d + 1))) h
        | step _ hc ih => exact .step ih hc
      exact up _ ih
  have : ∃ i j, i < j ∧ sq i = sq j := by
    refine Classical.byContradiction fun z => ?_
    have nd : ((List.range (n + 1)).map sq).Nodup := by
      rw [List.Nodup, List.pairwise_map]
      exact (List.pairwise_lt_range (n := n + 1)).imp fun {x y} hxy e => z ⟨x, y, hxy, e⟩
    have := nodup_le n _ nd fun x hx => by
      obtain ⟨k, _, rfl⟩ := List.mem_map.mp hx
      exact hT _ (hs k)
    simp at this
    omega
  obtain ⟨i, j, hij, e⟩ := this
  obtain ⟨d, rfl⟩ : ∃ d, j = i + d + 1 := ⟨j - i - 1, by omega⟩
  refine ⟨sq i, hs i, ?_, ?_⟩
  · have := way d i
    rw [← e] at this
    exact this
  · cases i with
    | zero => exact .inl rfl
    | succ i =>
      have := way i 0
      rw [Nat.zero_add] at this
      exact .inr this
/-- where all lead down, all that stays is reached -/
theorem down_reach {R : List Nat} {h M : List Ce} (l : Lets R h M) (st : Stable R M) (dn : ∀ x, ∀ c ∈ led h x, c < x) : ∀ a, Alive M a → Reach (led h) R a := by
  have key : ∀ k a, M.length ≤ a + k → Alive M a → Reach (led h) R a := by
    intro k
    induction k with
    | zero =>
      intro a hk ⟨c, hc⟩
      have := (List.getElem?_eq_some_iff.mp hc).1
      omega
    | succ k ih =>
      intro a hk ha
      refine Classical.byContradiction fun hn => ?_
      obtain ⟨x, hx, hr, hm⟩ := st.before l ha hn
      have := dn x a hm
      exact hr (ih x (by omega) hx)
  exact fun a ha => key M.length a (by omega) ha

/-! ### letting go: the program's walk -/
def cntF (n : Nat) (cf : Nat → Nat) : List D := (List.range n).map fun i => D.int (cf i : Nat)
theorem cntF_len {n : Nat} {cf : Nat → Nat} : (cntF n cf).length = n := by simp [cntF]
theorem cntF_at {n a : Nat} {cf : Nat → Nat} (h : a < n) : (cntF n cf)[a]? = some (.int (cf a : Nat)) := by simp [cntF, h]
theorem cntF_get {n a : Nat} {cf : Nat → Nat} (h : a < (cntF n cf).length) : (cntF n cf)[a] = .int (cf a : Nat) := by simp [cntF]
def decF (cf : Nat → Nat) (a : Nat) : Nat → Nat := fun i => if i = a then cf i - 1 else cf i
theorem cntF_set {n a : Nat} {cf : Nat → Nat} (h : a < n) (h1 : 1 ≤ cf a) : (cntF n cf).set a (.int ((cf a : Nat) - 1)) = cntF n (decF cf a) := by
  apply List.ext_getElem?
  intro i
  by_cases hi : i < n
  · by_cases z : a = i
    · subst z
      rw [List.getElem?_set_self (by rw [cntF_len]; exact h), cntF_at h]
      simp [decF]
      omega
    · rw [List.getElem?_set_ne z, cntF_at hi, cntF_at hi]
      simp [decF, Ne.symm z]
  · rw [List.getElem?_eq_none (by rw [List.length_set, cntF_len]; omega), List.getElem?_eq_none (by rw [cntF_len]; omega)]
theorem cntD_F {n : Nat} {xs : List Nat} : cntD n xs = cntF n fun i => xs.count i := rfl
theorem st0 {S0 : Sto} {A B C : List D} : (S0 ++ [A, B, C])[S0.length]? = some A := by simp
theorem st1 {S0 : Sto} {A B C : List D} : (S0 ++ [A, B, C])[S0.length + 1]? = some B := by simp
theorem st2 {S0 : Sto} {A B C : List D} : (S0 ++ [A, B, C])[S0.length + 2]? = some C := by simp
theorem ss0 {S0 : Sto} {A B C X : List D} : (S0 ++ [A, B, C]).set S0.length X = S0 ++ [X, B, C] := by simp
theorem ss1 {S0 : Sto} {A B C X : List D} : (S0 ++ [A, B, C]).set (S0.length + 1) X = S0 ++ [A, X, C] := by simp
theorem ss2 {S0 : Sto} {A B C X : List D} : (S0 ++ [A, B, C]).set (S0.length + 2) X = S0 ++ [A, B, X] := by simp
abbrev decBody : List Nv.S := [.asg (.ix (.v 2) (.v 6)) (.bin .sub false (.ix (.v 2) (.v 6)) (.c (.int 1))),
    .iff (.cmp .eq (.ix (.v 2) (.v 6)) (.c (.int 0))) [.ex (.mt .append (.v 4) [(.v 6)])] []]
theorem dec_turn {b : Nat} {S0 : Sto} {B : List D} {n : Nat} {v0 v1 v5 v7 : Option D} (cf : Nat → Nat) (W : List Nat) (o : Nat) (hn : o < n) (h1 : 1 ≤ cf o) (hz : W.length ≤ 1000) :
    evSs ((evW P).s b) decBody [v0, v1, some (.ref S0.length), some (.ref (S0.length + 1)), some (.ref (S0.length + 2)), v5, some (natD o), v7] (S0 ++ [cntF n cf, B, W.map natD]) =
      .ok (.nx [v0, v1, some (.ref S0.length), some (.ref (S0.length + 1)), some (.ref (S0.length + 2)), v5, some (natD o), v7]) (S0 ++ [cntF n (decF cf o), B, (if cf o = 1 then W ++ [o] else W).map natD]) := by
  have hn' : (o : Int) < n := by omega
  have e1 := cntF_set (n := n) hn h1
  have d1 : decF cf o o = cf o - 1 := by simp [decF]
  have hz2 : W.length < 16777216 := by omega
  by_cases h : cf o = 1
  · have h0 : cf o - 1 = 0 := by omega
    have e2 : (cntF n cf).set o (D.int 0) = cntF n (decF cf o) := by simpa [h] using e1
    simp [fnR, evSs, evW_e, evW_t, evW_s, eE_c, eE_v, eE_g, eE_bin, eE_neg, eE_nt, eE_an, eE_or, eE_cmp, eE_ch, eE_ite, eE_tup, eE_lst, eE_ix, eE_sl, eE_rv, eE_isi, eE_call, eE_bf, eE_mt, eE_lam, eT_nt, eT_an, eT_or, eT_cmp, eT_ch, eT_v, eT_call, eT_isi, eT_ix, eT_c, eT_bf, eS_asg, eS_par, eS_lcs, eS_ret, eS_ex, eS_iff, eS_rai, eS_retN, eS_pass, eS_brk, ↓bind_ok, ↓bind_ex, ↓bind_no, evEs, evO, ixD, seqOf, seqL, atI, ixN, nox, c_lt, c_le, c_gt, c_ge, c_isN, c_isntN, c_isB, c_isntB, c_eq, c_ne, pureD, pureDs, near, dle, dles, deq, deqs, blD, setT, setTs, bfD, binD, setIx, truD, newL, isiD, ifsD, wipeD, pf0, pf1, pf2, pf3, pf4, pf5, pf6, pf7, pf8, pf9, pf10, pf11, pf12, pf13, pf14, pf15, pf16, pf17, pf18, pf19, pf20, pf21, pf22, pf23, pf24, pf25, pf26, pf27, pf28, pf29, pg0, pg1, pg2, plm0, natD, st0, cntF_len, hn, hn', cntF_get, e1, e2, ss0, d1, h0, mtD, isLst, appendD, st2, ss2, sizeMax, hz2, h]
  · have h0 : (((cf o - 1 : Nat) : Int) == 0) = false := by rw [beq_eq_false_iff_ne]; omega
    simp [fnR, evSs, evW_e, evW_t, evW_s, eE_c, eE_v, eE_g, eE_bin, eE_neg, eE_nt, eE_an, eE_or, eE_cmp, eE_ch, eE_ite, eE_tup, eE_lst, eE_ix, eE_sl, eE_rv, eE_isi, eE_call, eE_bf, eE_mt, eE_lam, eT_nt, eT_an, eT_or, eT_cmp, eT_ch, eT_v, eT_call, eT_isi, eT_ix, eT_c, eT_bf, eS_asg, eS_par, eS_lcs, eS_ret, eS_ex, eS_iff, eS_rai, eS_retN, eS_pass, eS_brk, ↓bind_ok, ↓bind_ex, ↓bind_no, evEs, evO, ixD, seqOf, seqL, atI, ixN, nox, c_lt, c_le, c_gt, c_ge, c_isN, c_isntN, c_isB, c_isntB, c_eq, c_ne, pureD, pureDs, near, dle, dles, deq, deqs, blD, setT, setTs, bfD, binD, setIx, truD, newL, isiD, ifsD, wipeD, pf0, pf1, pf2, pf3, pf4, pf5, pf6, pf7, pf8, pf9, pf10, pf11, pf12, pf13, pf14, pf15, pf16, pf17, pf18, pf19, pf20, pf21, pf22, pf23, pf24, pf25, pf26, pf27, pf28, pf29, pg0, pg1, pg2, plm0, natD, st0, cntF_len, hn, hn', cntF_get, e1, ss0, d1, h0, h]
theorem dec_for {b : Nat} {S0 : Sto} {B : List D} {n : Nat} {v0 v1 v5 v7 : Option D} : ∀ (os : List Nat) (cf : Nat → Nat) (W : List Nat) (o6 : Option D), (∀ o ∈ os, o < n) → (∀ i, os.count i ≤ cf i) → W.length + os.length ≤ 1000 →
    ∃ o6' Z, forL none (fun d sl S => setT ((evW P).e b) 9 (.nm 6) d sl S) (fun sl S => evSs ((evW P).s b) decBody sl S) (os.map natD) [v0, v1, some (.ref S0.length), some (.ref (S0.length + 1)), some (.ref (S0.length + 2)), v5, o6, v7] (S0 ++ [cntF n cf, B, W.map natD]) =
      .ok (.nx [v0, v1, some (.ref S0.length), some (.ref (S0.length + 1)), some (.ref (S0.length + 2)), v5, o6', v7]) (S0 ++ [cntF n (fun i => cf i - os.count i), B, (W ++ Z).map natD]) ∧ Z.Nodup ∧ (∀ z, z ∈ Z ↔ z ∈ os ∧ cf z = os.count z) ∧ Z.length ≤ os.length
  | [], cf, W, o6, _, _, _ => ⟨o6, [], by simp [forL, gdOk], by simp, by simp, by simp⟩
  | o :: r, cf, W, o6, hn, hc, hz => by
    simp only [List.length_cons] at hz
    have h1 : 1 ≤ cf o := by
      have := hc o
      rw [List.count_cons_self] at this
      omega
    have t := dec_turn (b := b) (S0 := S0) (B := B) (v0 := v0) (v1 := v1) (v5 := v5) (v7 := v7) cf W o (hn o List.mem_cons_self) h1 (by omega)
    have hc' : ∀ i, r.count i ≤ decF cf o i := by
      intro i
      have := hc i
      rw [List.count_cons] at this
      unfold decF
      by_cases z : i = o
      · subst z
        simp at this ⊢
        omega
      · have : ¬ o = i := fun q => z q.symm
        simp [z, this] at *
        omega
    have lw : (if cf o = 1 then W ++ [o] else W).length + r.length ≤ 1000 := by
      split
      · simp; omega
      · omega
    obtain ⟨o6', Z, e, nd, hZ, lz⟩ := dec_for (b := b) (S0 := S0) (B := B) (n := n) (v0 := v0) (v1 := v1) (v5 := v5) (v7 := v7) r (decF cf o) (if cf o = 1 then W ++ [o] else W) (some (natD o)) (fun x hx => hn x (List.mem_cons_of_mem _ hx)) hc' lw
    have same : (fun i => decF cf o i - r.count i) = fun i => cf i - (o :: r).count i := by
      funext i
      rw [List.count_cons]
      unfold decF
      by_cases z : i = o
      · subst z
        simp
        omega
      · have : ¬ o = i := fun q => z q.symm
        simp [z, this]
    rw [same] at e
    have run : forL none (fun d sl S => setT ((evW P).e b) 9 (.nm 6) d sl S) (fun sl S => evSs ((evW P).s b) decBody sl S) ((o :: r).map natD) [v0, v1, some (.ref S0.length), some (.ref (S0.length + 1)), some (.ref (S0.length + 2)), v5, o6, v7] (S0 ++ [cntF n cf, B, W.map natD]) = forL none (fun d sl S => setT ((evW P).e b) 9 (.nm 6) d sl S) (fun sl S => evSs ((evW P).s b) decBody sl S) (r.map natD) [v0, v1, some (.ref S0.length), some (.ref (S0.length + 1)), some (.ref (S0.length + 2)), v5, some (natD o), v7] (S0 ++ [cntF n (decF cf o), B, (if cf o = 1 then W ++ [o] else W).map natD]) := by
      rw [List.map_cons]
      conv => lhs; unfold forL
      rw [if_pos (show gdOk _ none = true from rfl)]
      rw [show setT ((evW P).e b) 9 (.nm 6) (natD o) [v0, v1, some (.ref S0.length), some (.ref (S0.length + 1)), some (.ref (S0.length + 2)), v5, o6, v7] (S0 ++ [cntF n cf, B, W.map natD]) = .ok [v0, v1, some (.ref S0.length), some (.ref (S0.length + 1)), some (.ref (S0.length + 2)), v5, some (natD o), v7] (S0 ++ [cntF n cf, B, W.map natD]) from rfl]
      simp only [bind_ok]
      rw [t]
      simp only [bind_ok]
    rw [run, e]
    by_cases h : cf o = 1
    · have hr : o ∉ r := by
        intro hm
        have := hc o
        rw [List.count_cons_self, h] at this
        have := List.count_pos_iff.mpr hm
        omega
      have r0 : r.count o = 0 := List.count_eq_zero.mpr hr
      refine ⟨o6', o :: Z, by simp [h], List.nodup_cons.mpr ⟨fun hm => hr ((hZ o).mp hm).1, nd⟩, fun z => ?_, by simp; omega⟩
      rw [List.mem_cons, hZ z, List.mem_cons, List.count_cons]
      by_cases q : z = o
      · subst q
        simp [h, r0]
      · have q' : ¬ o = z := fun w => q w.symm
        simp [q, q', decF]
    · refine ⟨o6', Z, by simp [h], nd, fun z => ?_, by simp; omega⟩
      rw [hZ z, List.mem_cons, List.count_cons]
      by_cases q : z = o
      · subst q
        simp only [decF, if_true, beq_self_eq_true, true_or, true_and]
        constructor
        · rintro ⟨_, w⟩
          omega
        · intro w
          have : 0 < r.count z := by omega
          exact ⟨List.count_pos_iff.mp this, by omega⟩
      · have q' : ¬ o = z := fun w => q w.symm
        simp [q, q', decF]
/-- what a cell that goes takes with it -/
theorem count_set_none {i : Nat} : ∀ (L : List Ce) (a : Nat), (L.flatMap cellAdr).count i = ((L.set a none).flatMap cellAdr).count i + (cellAdr (L[a]?.getD none)).count i
  | [], a => by simp [cellAdr]
  | c :: r, 0 => by simp [cellAdr, List.count_append]; omega
  | c :: r, a + 1 => by
    have := count_set_none (i := i) r a
    simp [List.count_append] at this ⊢
    omega
/-- what holds between two turns -/
structure LetInv (R : List Nat) (h L : List Ce) (cf : Nat → Nat) (W : List Nat) : Prop where
  lets : Lets R h L
  cnt : ∀ i, cf i = (refs R L).count i
  nd : W.Nodup
  mem : ∀ a, a ∈ W ↔ Alive L a ∧ cf a = 0
theorem LetInv.stable {R : List Nat} {h L : List Ce} {cf : Nat → Nat} (v : LetInv R h L cf []) : Stable R L := by
  rintro a ⟨h1, h2⟩
  have := (v.mem a).mpr ⟨h1, by rw [v.cnt, List.count_eq_zero]; exact h2⟩
  cases this
theorem LetInv.turn {R : List Nat} {h L : List Ce} {cf : Nat → Nat} {W Z : List Nat} {a : Nat} (o : HpOk h) (v : LetInv R h L cf (W ++ [a])) (nd : Z.Nodup) (hZ : ∀ z, z ∈ Z ↔ z ∈ led h a ∧ cf z = (led h a).count z) :
    LetInv R h (L.set a none) (fun i => cf i - (led h a).count i) (W ++ Z) ∧ (∀ i, (led h a).count i ≤ cf i) := by
  obtain ⟨⟨c, hc⟩, c0⟩ := (v.mem a).mp (by simp)
  have hh := v.lets.sub.at_ a c hc
  have el : cellAdr (L[a]?.getD none) = led h a := by
    obtain ⟨l, ws⟩ := c
    simp [hc, cellAdr, led, hh]
  have cs : ∀ i, cf i = (refs R (L.set a none)).count i + (led h a).count i := by
    intro i
    rw [v.cnt, refs, refs, List.count_append, List.count_append, count_set_none L a, el]
    omega
  have fr : Free R L a := ⟨⟨c, hc⟩, by rw [← List.count_eq_zero, ← v.cnt]; exact c0⟩
  have ok := v.lets.ok o
  have al : ∀ x ∈ led h a, Alive L x := by
    intro x hx
    have : led L a = led h a := by
      obtain ⟨l, ws⟩ := c
      simp [led, hc, hh]
    exact (led_ok ok (a := a)).2 x (this ▸ hx)
  have ndW := List.nodup_append.mp v.nd
  refine ⟨⟨v.lets.cons fr, fun i => by have := cs i; omega, ?_, fun x => ?_⟩, fun i => by have := cs i; omega⟩
  · rw [List.nodup_append]
    refine ⟨ndW.1, nd, fun x hx y hy e => ?_⟩
    subst e
    have h1 := ((v.mem x).mp (by simp [hx])).2
    obtain ⟨h2, h3⟩ := (hZ x).mp hy
    have := List.count_pos_iff.mpr h2
    omega
  · rw [List.mem_append]
    constructor
    · rintro (hx | hx)
      · obtain ⟨⟨d, hd⟩, h2⟩ := (v.mem x).mp (by simp [hx])
        refine ⟨⟨d, set_at.mpr ⟨fun e => ?_, hd⟩⟩, by omega⟩
        exact ndW.2.2 x hx a (by simp) e
      · obtain ⟨h2, h3⟩ := (hZ x).mp hx
        obtain ⟨d, hd⟩ := al x h2
        refine ⟨⟨d, set_at.mpr ⟨fun e => ?_, hd⟩⟩, by omega⟩
        subst e
        have := List.count_pos_iff.mpr h2
        omega
    · rintro ⟨⟨d, hd⟩, h2⟩
      obtain ⟨hxa, hd⟩ := set_at.mp hd
      by_cases q : x ∈ led h a
      · refine .inr ((hZ x).mpr ⟨q, ?_⟩)
        have := cs x
        omega
      · have q0 := List.count_eq_zero.mpr q
        have := (v.mem x).mpr ⟨⟨d, hd⟩, by omega⟩
        rcases List.mem_append.mp this with z | z
        · exact .inl z
        · simp at z
          exact absurd z hxa

abbrev letBody : List Nv.S := [.asg (.nm 5) (.mt .pop (.v 4) []),
    .asg (.ix (.v 3) (.v 5)) (.c .non),
    .for_ (.nm 6) (.seq (.call 23 [(.v 0), (.v 5)])) decBody]
theorem let_turn {b : Nat} (hb : 3 ≤ b) {S0 : Sto} {h L : List Ce} (o : HpOk h) {R : List Nat} {v1 x5 x6 x7 : Option D} (cf : Nat → Nat) (W : List Nat) (a : Nat) (v : LetInv R h L cf (W ++ [a])) (hz : W.length ≤ 500) : ∃ x6' Z, evSs ((evW P).s b) letBody [some (encH h), v1, some (.ref S0.length), some (.ref (S0.length + 1)), some (.ref (S0.length + 2)), x5, x6, x7] (S0 ++ [cntF h.length cf, L.map encC, (W ++ [a]).map natD]) =
    .ok (.nx [some (encH h), v1, some (.ref S0.length), some (.ref (S0.length + 1)), some (.ref (S0.length + 2)), some (natD a), x6', x7]) (S0 ++ [cntF h.length (fun i => cf i - (led h a).count i), (L.set a none).map encC, (W ++ Z).map natD]) ∧ LetInv R h (L.set a none) (fun i => cf i - (led h a).count i) (W ++ Z) ∧ Z.length ≤ 3 := by
  obtain ⟨b, rfl⟩ := off hb
  obtain ⟨⟨c, hc⟩, c0⟩ := (v.mem a).mp (by simp)
  have hh := v.lets.sub.at_ a c hc
  have vl : Valid h a := ⟨c, hh⟩
  have hlt : a < L.length := (List.getElem?_eq_some_iff.mp hc).1
  have hlt' : (a : Int) < L.length := by omega
  have lo := led_ok o (a := a)
  have hn : ∀ x ∈ led h a, x < h.length := fun x hx => by
    obtain ⟨d, hd⟩ := lo.2 x hx
    exact (List.getElem?_eq_some_iff.mp hd).1
  have t := fun (Z : List Nat) (nd : Z.Nodup) hZ => v.turn (Z := Z) o nd hZ
  have hcnt : ∀ i, (led h a).count i ≤ cf i := by
    have el : cellAdr (L[a]?.getD none) = led h a := by
      obtain ⟨l, ws⟩ := c
      simp [hc, cellAdr, led, hh]
    intro i
    rw [v.cnt, refs, List.count_append, count_set_none L a, el]
    omega
  obtain ⟨B, hB⟩ : ∃ B, B = (L.set a none).map encC := ⟨_, rfl⟩
  obtain ⟨x6', Z, e, nd, hZ, lz⟩ := dec_for (b := b + 3) (S0 := S0) (B := B) (n := h.length) (v0 := some (encH h)) (v1 := v1) (v5 := some (natD a)) (v7 := x7) (led h a) cf W x6 hn hcnt (by omega)
  obtain ⟨v', _⟩ := t Z nd hZ
  refine ⟨x6', Z, ?_, v', by omega⟩
  have e1 : popD (.ref (S0.length + 2)) [] (S0 ++ [cntF h.length cf, L.map encC, (W ++ [a]).map natD]) = .ok (natD a) (S0 ++ [cntF h.length cf, L.map encC, W.map natD]) := by
    simp [popD, st2, ss2]
  have e2 : (L.map encC).set a .non = B := by
    rw [hB, List.map_set]
    rfl
  rw [← hB]
  have e3 := led_from (b := b + 2) (by omega) o vl (S0 ++ [cntF h.length cf, B, W.map natD])
  have s3 : stS P (evW P) (b + 3) (.for_ (.nm 6) (.seq (.call 23 [(.v 0), (.v 5)])) decBody) [some (encH h), v1, some (.ref S0.length), some (.ref (S0.length + 1)), some (.ref (S0.length + 2)), some (natD a), x6, x7] (S0 ++ [cntF h.length cf, B, W.map natD]) = .ok (.nx [some (encH h), v1, some (.ref S0.length), some (.ref (S0.length + 1)), some (.ref (S0.length + 2)), some (natD a), x6', x7]) (S0 ++ [cntF h.length (fun i => cf i - (led h a).count i), B, (W ++ Z).map natD]) := by
    rw [eS_for, it_lst (xs := (led h a).map natD) (S1 := S0 ++ [cntF h.length cf, B, W.map natD]) (by simp [fnR, evSs, evW_e, evW_t, evW_s, eE_c, eE_v, eE_g, eE_bin, eE_neg, eE_nt, eE_an, eE_or, eE_cmp, eE_ch, eE_ite, eE_tup, eE_lst, eE_ix, eE_sl, eE_rv, eE_isi, eE_call, eE_bf, eE_mt, eE_lam, eT_nt, eT_an, eT_or, eT_cmp, eT_ch, eT_v, eT_call, eT_isi, eT_ix, eT_c, eT_bf, eS_asg, eS_par, eS_lcs, eS_ret, eS_ex, eS_iff, eS_rai, eS_retN, eS_pass, eS_brk, ↓bind_ok, ↓bind_ex, ↓bind_no, evEs, evO, ixD, seqOf, seqL, atI, ixN, nox, c_lt, c_le, c_gt, c_ge, c_isN, c_isntN, c_isB, c_isntB, c_eq, c_ne, pureD, pureDs, near, dle, dles, deq, deqs, blD, setT, setTs, bfD, binD, setIx, truD, newL, isiD, ifsD, wipeD, pf0, pf1, pf2, pf3, pf4, pf5, pf6, pf7, pf8, pf9, pf10, pf11, pf12, pf13, pf14, pf15, pf16, pf17, pf18, pf19, pf20, pf21, pf22, pf23, pf24, pf25, pf26, pf27, pf28, pf29, pg0, pg1, pg2, plm0, e3]), bind_ok]
    exact e
  have s2 : stS P (evW P) (b + 3) (.asg (.ix (.v 3) (.v 5)) (.c .non)) [some (encH h), v1, some (.ref S0.length), some (.ref (S0.length + 1)), some (.ref (S0.length + 2)), some (natD a), x6, x7] (S0 ++ [cntF h.length cf, L.map encC, W.map natD]) = .ok (.nx [some (encH h), v1, some (.ref S0.length), some (.ref (S0.length + 1)), some (.ref (S0.length + 2)), some (natD a), x6, x7]) (S0 ++ [cntF h.length cf, B, W.map natD]) := by
    simp [fnR, evSs, evW_e, evW_t, evW_s, eE_c, eE_v, eE_g, eE_bin, eE_neg, eE_nt, eE_an, eE_or, eE_cmp, eE_ch, eE_ite, eE_tup, eE_lst, eE_ix, eE_sl, eE_rv, eE_isi, eE_call, eE_bf, eE_mt, eE_lam, eT_nt, eT_an, eT_or, eT_cmp, eT_ch, eT_v, eT_call, eT_isi, eT_ix, eT_c, eT_bf, eS_asg, eS_par, eS_lcs, eS_ret, eS_ex, eS_iff, eS_rai, eS_retN, eS_pass, eS_brk, ↓bind_ok, ↓bind_ex, ↓bind_no, evEs, evO, ixD, seqOf, seqL, atI, ixN, nox, c_lt, c_le, c_gt, c_ge, c_isN, c_isntN, c_isB, c_isntB, c_eq, c_ne, pureD, pureDs, near, dle, dles, deq, deqs, blD, setT, setTs, bfD, binD, setIx, truD, newL, isiD, ifsD, wipeD, pf0, pf1, pf2, pf3, pf4, pf5, pf6, pf7, pf8, pf9, pf10, pf11, pf12, pf13, pf14, pf15, pf16, pf17, pf18, pf19, pf20, pf21, pf22, pf23, pf24, pf25, pf26, pf27, pf28, pf29, pg0, pg1, pg2, plm0, natD, st1, hlt, hlt', ss1, e2]
  have s1 : stS P (evW P) (b + 3) (.asg (.nm 5) (.mt .pop (.v 4) [])) [some (encH h), v1, some (.ref S0.length), some (.ref (S0.length + 1)), some (.ref (S0.length + 2)), x5, x6, x7] (S0 ++ [cntF h.length cf, L.map encC, (W ++ [a]).map natD]) = .ok (.nx [some (encH h), v1, some (.ref S0.length), some (.ref (S0.length + 1)), some (.ref (S0.length + 2)), some (natD a), x6, x7]) (S0 ++ [cntF h.length cf, L.map encC, W.map natD]) := by
    simp only [eS_asg, evW_e, eE_mt, eE_v, List.getElem?_cons_succ, List.getElem?_cons_zero, bind_ok, isLst, if_true, evEs, mtD, e1, nox, setT, List.set_cons_succ, List.set_cons_zero]
  simp only [letBody, evSs, evW_s, s1, s2, s3, bind_ok]
theorem alive_count {L : List Ce} {a : Nat} (h : Alive L a) : ((L.set a none).map encC).countP (fun d => !isNon d) < (L.map encC).countP (fun d => !isNon d) := by
  obtain ⟨c, hc⟩ := h
  induction L generalizing a with
  | nil => simp at hc
  | cons x r ih =>
    cases a with
    | zero =>
      simp at hc
      subst hc
      simp [encC, isNon]
    | succ a =>
      have := ih (a := a) (by simpa using hc)
      simp only [List.set_cons_succ, List.map_cons, List.countP_cons]
      omega
theorem by_counting {b : Nat} (hb : 4 ≤ b) {h : List Ce} (o : HpOk h) {rs : List Wd} (ro : RtOk h rs) (S0 : Sto) : ∃ (J : Sto) (L : List Ce), fnD (evW P) b f16 [encH h, .tup (rs.map encW)] S0 = .ok (encH L) (S0 ++ J) ∧ Lets (adrs rs) h L ∧ Stable (adrs rs) L := by
  obtain ⟨b, rfl⟩ := off hb
  have hl12 := o.len
  have e0 := counts_of_cells (b := b + 3) (by omega) o ro S0
  let cf0 : Nat → Nat := fun i => (refs (adrs rs) h).count i
  have ecf : cntD h.length (allAdr h rs) = cntF h.length cf0 := rfl
  rw [ecf] at e0
  let W0 : List Nat := (List.range h.length).filter fun a => (h[a]?.getD none).isSome && decide (cf0 a = 0)
  have s0 : stS P (evW P) (b + 4) (f16.body.getD 0 .pass) [some (encH h), some (.tup (rs.map encW)), none, none, none, none, none, none] S0 = .ok (.nx [some (encH h), some (.tup (rs.map encW)), some (.ref S0.length), some (.ref (S0.length + 1)), none, none, none, none]) (S0 ++ [cntF h.length cf0, h.map encC]) := by
    simp only [encH] at e0
    simp [fnR, evSs, evW_e, evW_t, evW_s, eE_c, eE_v, eE_g, eE_bin, eE_neg, eE_nt, eE_an, eE_or, eE_cmp, eE_ch, eE_ite, eE_tup, eE_lst, eE_ix, eE_sl, eE_rv, eE_isi, eE_call, eE_bf, eE_mt, eE_lam, eT_nt, eT_an, eT_or, eT_cmp, eT_ch, eT_v, eT_call, eT_isi, eT_ix, eT_c, eT_bf, eS_asg, eS_par, eS_lcs, eS_ret, eS_ex, eS_iff, eS_rai, eS_retN, eS_pass, eS_brk, ↓bind_ok, ↓bind_ex, ↓bind_no, evEs, evO, ixD, seqOf, seqL, atI, ixN, nox, c_lt, c_le, c_gt, c_ge, c_isN, c_isntN, c_isB, c_isntB, c_eq, c_ne, pureD, pureDs, near, dle, dles, deq, deqs, blD, setT, setTs, bfD, binD, setIx, truD, newL, isiD, ifsD, wipeD, pf0, pf1, pf2, pf3, pf4, pf5, pf6, pf7, pf8, pf9, pf10, pf11, pf12, pf13, pf14, pf15, pf16, pf17, pf18, pf19, pf20, pf21, pf22, pf23, pf24, pf25, pf26, pf27, pf28, pf29, pg0, pg1, pg2, plm0, f16, encH, e0, listD, seqF, sizeMax]
  have g0 : (S0 ++ [cntF h.length cf0, h.map encC])[S0.length]? = some (cntF h.length cf0) := by simp
  have e1 : stE P (evW P) (b + 4) (.lc true (.v 5) (.tp [(.nm 5), (.nm 7)]) [5, 7] (.enum (.v 0)) (some (.an (.cmp .isntN (.v 7) (.c .non)) (.cmp .eq (.ix (.v 2) (.v 5)) (.c (.int 0)))))) [some (encH h), some (.tup (rs.map encW)), some (.ref S0.length), some (.ref (S0.length + 1)), none, none, none, none] (S0 ++ [cntF h.length cf0, h.map encC]) = .ok (.ref (S0.length + 2)) (S0 ++ [cntF h.length cf0, h.map encC, W0.map natD]) := by
    rw [eE_lc, it_etup (xs := h.map encC) (S1 := S0 ++ [cntF h.length cf0, h.map encC]) (by simp [fnR, evSs, evW_e, evW_t, evW_s, eE_c, eE_v, eE_g, eE_bin, eE_neg, eE_nt, eE_an, eE_or, eE_cmp, eE_ch, eE_ite, eE_tup, eE_lst, eE_ix, eE_sl, eE_rv, eE_isi, eE_call, eE_bf, eE_mt, eE_lam, eT_nt, eT_an, eT_or, eT_cmp, eT_ch, eT_v, eT_call, eT_isi, eT_ix, eT_c, eT_bf, eS_asg, eS_par, eS_lcs, eS_ret, eS_ex, eS_iff, eS_rai, eS_retN, eS_pass, eS_brk, ↓bind_ok, ↓bind_ex, ↓bind_no, evEs, evO, ixD, seqOf, seqL, atI, ixN, nox, c_lt, c_le, c_gt, c_ge, c_isN, c_isntN, c_isB, c_isntB, c_eq, c_ne, pureD, pureDs, near, dle, dles, deq, deqs, blD, setT, setTs, bfD, binD, setIx, truD, newL, isiD, ifsD, wipeD, pf0, pf1, pf2, pf3, pf4, pf5, pf6, pf7, pf8, pf9, pf10, pf11, pf12, pf13, pf14, pf15, pf16, pf17, pf18, pf19, pf20, pf21, pf22, pf23, pf24, pf25, pf26, pf27, pf28, pf29, pg0, pg1, pg2, plm0, encH])]
    simp only [bind_ok]
    rw [lcL_pure (sl := fun d => match d with | .tup [x, y] => [some (encH h), some (.tup (rs.map encW)), some (.ref S0.length), some (.ref (S0.length + 1)), none, some x, none, some y] | _ => []) (p := fun d => match d with | .tup [.int i, y] => !isNon y && decide (cf0 i.toNat = 0) | _ => false) (f := fun d => match d with | .tup [x, _] => x | _ => .non) rfl]
    · simp only [nox, newL, bind_ok, List.nil_append, enum_map, List.length_map, List.filter_map, List.map_map, Int.zero_add, List.length_append, List.append_assoc, List.cons_append, List.length_cons, List.length_nil]
      have : ((List.range h.length).filter ((fun d => match d with | D.tup [.int i, y] => !isNon y && decide (cf0 i.toNat = 0) | _ => false) ∘ fun (k : Nat) => D.tup [.int (k : Int), (h.map encC).getD k .non])) = W0 := by
        apply List.filter_congr
        intro k hk
        have hk : k < h.length := List.mem_range.mp hk
        simp only [Function.comp_apply, Int.toNat_natCast, List.getD_eq_getElem?_getD, List.getElem?_map, List.getElem?_eq_getElem hk, Option.map_some, Option.getD_some]
        cases h[k] <;> simp [encC, isNon]
      rw [this]
      rfl
    · intro x hx
      rw [enum_map] at hx
      obtain ⟨k, hk, rfl⟩ := List.mem_map.mp hx
      rw [List.length_map] at hk
      have hk : k < h.length := List.mem_range.mp hk
      have hk' : (k : Int) < h.length := by omega
      refine ⟨?_, ?_, fun _ => ?_⟩
      · simp [fnR, evSs, evW_e, evW_t, evW_s, eE_c, eE_v, eE_g, eE_bin, eE_neg, eE_nt, eE_an, eE_or, eE_cmp, eE_ch, eE_ite, eE_tup, eE_lst, eE_ix, eE_sl, eE_rv, eE_isi, eE_call, eE_bf, eE_mt, eE_lam, eT_nt, eT_an, eT_or, eT_cmp, eT_ch, eT_v, eT_call, eT_isi, eT_ix, eT_c, eT_bf, eS_asg, eS_par, eS_lcs, eS_ret, eS_ex, eS_iff, eS_rai, eS_retN, eS_pass, eS_brk, ↓bind_ok, ↓bind_ex, ↓bind_no, evEs, evO, ixD, seqOf, seqL, atI, ixN, nox, c_lt, c_le, c_gt, c_ge, c_isN, c_isntN, c_isB, c_isntB, c_eq, c_ne, pureD, pureDs, near, dle, dles, deq, deqs, blD, setT, setTs, bfD, binD, setIx, truD, newL, isiD, ifsD, wipeD, pf0, pf1, pf2, pf3, pf4, pf5, pf6, pf7, pf8, pf9, pf10, pf11, pf12, pf13, pf14, pf15, pf16, pf17, pf18, pf19, pf20, pf21, pf22, pf23, pf24, pf25, pf26, pf27, pf28, pf29, pg0, pg1, pg2, plm0]
      · cases q : h[k] with
        | none => simp [fnR, evSs, evW_e, evW_t, evW_s, eE_c, eE_v, eE_g, eE_bin, eE_neg, eE_nt, eE_an, eE_or, eE_cmp, eE_ch, eE_ite, eE_tup, eE_lst, eE_ix, eE_sl, eE_rv, eE_isi, eE_call, eE_bf, eE_mt, eE_lam, eT_nt, eT_an, eT_or, eT_cmp, eT_ch, eT_v, eT_call, eT_isi, eT_ix, eT_c, eT_bf, eS_asg, eS_par, eS_lcs, eS_ret, eS_ex, eS_iff, eS_rai, eS_retN, eS_pass, eS_brk, ↓bind_ok, ↓bind_ex, ↓bind_no, evEs, evO, ixD, seqOf, seqL, atI, ixN, nox, c_lt, c_le, c_gt, c_ge, c_isN, c_isntN, c_isB, c_isntB, c_eq, c_ne, pureD, pureDs, near, dle, dles, deq, deqs, blD, setT, setTs, bfD, binD, setIx, truD, newL, isiD, ifsD, wipeD, pf0, pf1, pf2, pf3, pf4, pf5, pf6, pf7, pf8, pf9, pf10, pf11, pf12, pf13, pf14, pf15, pf16, pf17, pf18, pf19, pf20, pf21, pf22, pf23, pf24, pf25, pf26, pf27, pf28, pf29, pg0, pg1, pg2, plm0, hk, q, encC, isNon]
        | some p =>
          simp [fnR, evSs, evW_e, evW_t, evW_s, eE_c, eE_v, eE_g, eE_bin, eE_neg, eE_nt, eE_an, eE_or, eE_cmp, eE_ch, eE_ite, eE_tup, eE_lst, eE_ix, eE_sl, eE_rv, eE_isi, eE_call, eE_bf, eE_mt, eE_lam, eT_nt, eT_an, eT_or, eT_cmp, eT_ch, eT_v, eT_call, eT_isi, eT_ix, eT_c, eT_bf, eS_asg, eS_par, eS_lcs, eS_ret, eS_ex, eS_iff, eS_rai, eS_retN, eS_pass, eS_brk, ↓bind_ok, ↓bind_ex, ↓bind_no, evEs, evO, ixD, seqOf, seqL, atI, ixN, nox, c_lt, c_le, c_gt, c_ge, c_isN, c_isntN, c_isB, c_isntB, c_eq, c_ne, pureD, pureDs, near, dle, dles, deq, deqs, blD, setT, setTs, bfD, binD, setIx, truD, newL, isiD, ifsD, wipeD, pf0, pf1, pf2, pf3, pf4, pf5, pf6, pf7, pf8, pf9, pf10, pf11, pf12, pf13, pf14, pf15, pf16, pf17, pf18, pf19, pf20, pf21, pf22, pf23, pf24, pf25, pf26, pf27, pf28, pf29, pg0, pg1, pg2, plm0, hk, hk', q, encC, isNon, g0, cntF_len, cntF_get]
          rw [Bool.eq_iff_iff]
          simp
      · simp [fnR, evSs, evW_e, evW_t, evW_s, eE_c, eE_v, eE_g, eE_bin, eE_neg, eE_nt, eE_an, eE_or, eE_cmp, eE_ch, eE_ite, eE_tup, eE_lst, eE_ix, eE_sl, eE_rv, eE_isi, eE_call, eE_bf, eE_mt, eE_lam, eT_nt, eT_an, eT_or, eT_cmp, eT_ch, eT_v, eT_call, eT_isi, eT_ix, eT_c, eT_bf, eS_asg, eS_par, eS_lcs, eS_ret, eS_ex, eS_iff, eS_rai, eS_retN, eS_pass, eS_brk, ↓bind_ok, ↓bind_ex, ↓bind_no, evEs, evO, ixD, seqOf, seqL, atI, ixN, nox, c_lt, c_le, c_gt, c_ge, c_isN, c_isntN, c_isB, c_isntB, c_eq, c_ne, pureD, pureDs, near, dle, dles, deq, deqs, blD, setT, setTs, bfD, binD, setIx, truD, newL, isiD, ifsD, wipeD, pf0, pf1, pf2, pf3, pf4, pf5, pf6, pf7, pf8, pf9, pf10, pf11, pf12, pf13, pf14, pf15, pf16, pf17, pf18, pf19, pf20, pf21, pf22, pf23, pf24, pf25, pf26, pf27, pf28, pf29, pg0, pg1, pg2, plm0]
    · rw [enum_map, List.length_map, List.length_range, List.length_map]
      simp [sizeMax]
      omega
  have s1 : stS P (evW P) (b + 4) (f16.body.getD 1 .pass) [some (encH h), some (.tup (rs.map encW)), some (.ref S0.length), some (.ref (S0.length + 1)), none, none, none, none] (S0 ++ [cntF h.length cf0, h.map encC]) = .ok (.nx [some (encH h), some (.tup (rs.map encW)), some (.ref S0.length), some (.ref (S0.length + 1)), some (.ref (S0.length + 2)), none, none, none]) (S0 ++ [cntF h.length cf0, h.map encC, W0.map natD]) := by
    simp [fnR, evSs, evW_e, evW_t, evW_s, eE_c, eE_v, eE_g, eE_bin, eE_neg, eE_nt, eE_an, eE_or, eE_cmp, eE_ch, eE_ite, eE_tup, eE_lst, eE_ix, eE_sl, eE_rv, eE_isi, eE_call, eE_bf, eE_mt, eE_lam, eT_nt, eT_an, eT_or, eT_cmp, eT_ch, eT_v, eT_call, eT_isi, eT_ix, eT_c, eT_bf, eS_asg, eS_par, eS_lcs, eS_ret, eS_ex, eS_iff, eS_rai, eS_retN, eS_pass, eS_brk, ↓bind_ok, ↓bind_ex, ↓bind_no, evEs, evO, ixD, seqOf, seqL, atI, ixN, nox, c_lt, c_le, c_gt, c_ge, c_isN, c_isntN, c_isB, c_isntB, c_eq, c_ne, pureD, pureDs, near, dle, dles, deq, deqs, blD, setT, setTs, bfD, binD, setIx, truD, newL, isiD, ifsD, wipeD, pf0, pf1, pf2, pf3, pf4, pf5, pf6, pf7, pf8, pf9, pf10, pf11, pf12, pf13, pf14, pf15, pf16, pf17, pf18, pf19, pf20, pf21, pf22, pf23, pf24, pf25, pf26, pf27, pf28, pf29, pg0, pg1, pg2, plm0, f16, e1]
  have v0 : LetInv (adrs rs) h h cf0 W0 := by
    refine ⟨.nil, fun _ => rfl, (List.nodup_range (n := h.length)).filter _, fun a => ?_⟩
    rw [List.mem_filter, List.mem_range]
    constructor
    · rintro ⟨h1, h2⟩
      simp at h2
      refine ⟨?_, h2.2⟩
      cases q : h[a] with
      | none => simp [h1, q] at h2
      | some c => exact ⟨c, by rw [List.getElem?_eq_getElem h1, q]⟩
    · rintro ⟨⟨c, hc⟩, h2⟩
      exact ⟨(List.getElem?_eq_some_iff.mp hc).1, by simp [hc, h2]⟩
  have key := whl_inv (b := b + 4) (c := .cmp .ne (.v 4) (.lst false [])) (bd := letBody)
    (I := fun sl S => ∃ (L : List Ce) (cf : Nat → Nat) (W : List Nat) (x5 x6 x7 : Option D), sl = [some (encH h), some (.tup (rs.map encW)), some (.ref S0.length), some (.ref (S0.length + 1)), some (.ref (S0.length + 2)), x5, x6, x7] ∧ S = S0 ++ [cntF h.length cf, L.map encC, W.map natD] ∧ LetInv (adrs rs) h L cf W)
    (Q := fun sl S => ∃ (L : List Ce) (cf : Nat → Nat) (x5 x6 x7 : Option D), sl = [some (encH h), some (.tup (rs.map encW)), some (.ref S0.length), some (.ref (S0.length + 1)), some (.ref (S0.length + 2)), x5, x6, x7] ∧ S = S0 ++ [cntF h.length cf, L.map encC, []] ∧ LetInv (adrs rs) h L cf [])
    (μ := fun sl S => (S[S0.length + 1]?.getD []).countP fun d => !isNon d)
    (by
      rintro sl S ⟨L, cf, W, x5, x6, x7, rfl, rfl, v⟩
      refine ⟨!W.isEmpty, S0 ++ [cntF h.length cf, L.map encC, W.map natD], ?_, fun hk => ?_, fun hk => ?_⟩
      · simp [fnR, evSs, evW_e, evW_t, evW_s, eE_c, eE_v, eE_g, eE_bin, eE_neg, eE_nt, eE_an, eE_or, eE_cmp, eE_ch, eE_ite, eE_tup, eE_lst, eE_ix, eE_sl, eE_rv, eE_isi, eE_call, eE_bf, eE_mt, eE_lam, eT_nt, eT_an, eT_or, eT_cmp, eT_ch, eT_v, eT_call, eT_isi, eT_ix, eT_c, eT_bf, eS_asg, eS_par, eS_lcs, eS_ret, eS_ex, eS_iff, eS_rai, eS_retN, eS_pass, eS_brk, ↓bind_ok, ↓bind_ex, ↓bind_no, evEs, evO, ixD, seqOf, seqL, atI, ixN, nox, c_lt, c_le, c_gt, c_ge, c_isN, c_isntN, c_isB, c_isntB, c_eq, c_ne, pureD, pureDs, near, dle, dles, deq, deqs, blD, setT, setTs, bfD, binD, setIx, truD, newL, isiD, ifsD, wipeD, pf0, pf1, pf2, pf3, pf4, pf5, pf6, pf7, pf8, pf9, pf10, pf11, pf12, pf13, pf14, pf15, pf16, pf17, pf18, pf19, pf20, pf21, pf22, pf23, pf24, pf25, pf26, pf27, pf28, pf29, pg0, pg1, pg2, plm0, c_ne_ref st2, sizeMax]
      · have hne : W ≠ [] := by simpa using hk
        obtain ⟨W', a, rfl⟩ : ∃ W' a, W = W' ++ [a] := ⟨W.dropLast, W.getLast hne, (List.dropLast_concat_getLast hne).symm⟩
        have lw := nodup_le L.length (W' ++ [a]) v.nd fun x hx => by
          obtain ⟨⟨c, hc⟩, _⟩ := (v.mem x).mp hx
          exact (List.getElem?_eq_some_iff.mp hc).1
        have ll := v.lets.sub.len
        rw [List.length_append] at lw
        simp only [List.length_cons, List.length_nil] at lw
        obtain ⟨x6', Z, e, v', _⟩ := let_turn (b := b + 4) (by omega) (S0 := S0) o (v1 := some (.tup (rs.map encW))) (x5 := x5) (x6 := x6) (x7 := x7) cf W' a v (by omega)
        refine ⟨_, _, e, ⟨_, _, _, _, _, _, rfl, rfl, v'⟩, ?_⟩
        simp only [st1, Option.getD_some]
        exact alive_count ((v.mem a).mp (by simp)).1
      · have : W = [] := by simpa using hk
        subst this
        exact ⟨L, cf, x5, x6, x7, rfl, rfl, v⟩)
  obtain ⟨sl', S', e2, L, cf, x5, x6, x7, rfl, rfl, v⟩ := key _ [some (encH h), some (.tup (rs.map encW)), some (.ref S0.length), some (.ref (S0.length + 1)), some (.ref (S0.length + 2)), none, none, none] (S0 ++ [cntF h.length cf0, h.map encC, W0.map natD]) (Nat.le_refl _) ⟨h, cf0, W0, none, none, none, rfl, rfl, v0⟩
  refine ⟨[cntF h.length cf, L.map encC, []], L, ?_, v.lets, v.stable⟩
  rw [fnD_run rfl]
  show fnR (evSs ((evW P).s (b + 4)) [f16.body.getD 0 .pass, f16.body.getD 1 .pass, .whl (.cmp .ne (.v 4) (.lst false [])) letBody, .ret (.bf .tuple false [(.v 3)])] [some (encH h), some (.tup (rs.map encW)), none, none, none, none, none, none] S0) = _
  simp only [evSs, evW_s, s0, s1, e2, bind_ok]
  simp [fnR, evSs, evW_e, evW_t, evW_s, eE_c, eE_v, eE_g, eE_bin, eE_neg, eE_nt, eE_an, eE_or, eE_cmp, eE_ch, eE_ite, eE_tup, eE_lst, eE_ix, eE_sl, eE_rv, eE_isi, eE_call, eE_bf, eE_mt, eE_lam, eT_nt, eT_an, eT_or, eT_cmp, eT_ch, eT_v, eT_call, eT_isi, eT_ix, eT_c, eT_bf, eS_asg, eS_par, eS_lcs, eS_ret, eS_ex, eS_iff, eS_rai, eS_retN, eS_pass, eS_brk, ↓bind_ok, ↓bind_ex, ↓bind_no, evEs, evO, ixD, seqOf, seqL, atI, ixN, nox, c_lt, c_le, c_gt, c_ge, c_isN, c_isntN, c_isB, c_isntB, c_eq, c_ne, pureD, pureDs, near, dle, dles, deq, deqs, blD, setT, setTs, bfD, binD, setIx, truD, newL, isiD, ifsD, wipeD, pf0, pf1, pf2, pf3, pf4, pf5, pf6, pf7, pf8, pf9, pf10, pf11, pf12, pf13, pf14, pf15, pf16, pf17, pf18, pf19, pf20, pf21, pf22, pf23, pf24, pf25, pf26, pf27, pf28, pf29, pg0, pg1, pg2, plm0, tupleD, st1, encH]

theorem let_go {b : Nat} (hb : 7 ≤ b) {h : List Ce} (o : HpOk h) {rs : List Wd} (ro : RtOk h rs) (S0 : Sto) : ∃ (J : Sto) (L : List Ce), fnD (evW P) b f6 [encH h, .tup (rs.map encW)] S0 = .ok (encH L) (S0 ++ J) ∧ Lets (adrs rs) h L ∧ Stable (adrs rs) L := by
  obtain ⟨b, rfl⟩ := off hb
  obtain ⟨J, L, e, l1, l2⟩ := by_counting (b := b + 6) (by omega) o ro S0
  refine ⟨J, L, ?_, l1, l2⟩
  have hr := ro.len
  have e0 := need_roots (b := b + 6) (by omega) (S := S0) (h.map encC) (.tup (rs.map encW)) (encH_pure h) (encWs_pure rs) (isHeap_enc o)
  rw [fitsWs_enc (by omega) ro.wds, if_pos rfl] at e0
  rw [fnD_run rfl]
  simp only [encH] at e
  simp [fnR, evSs, evW_e, evW_t, evW_s, eE_c, eE_v, eE_g, eE_bin, eE_neg, eE_nt, eE_an, eE_or, eE_cmp, eE_ch, eE_ite, eE_tup, eE_lst, eE_ix, eE_sl, eE_rv, eE_isi, eE_call, eE_bf, eE_mt, eE_lam, eT_nt, eT_an, eT_or, eT_cmp, eT_ch, eT_v, eT_call, eT_isi, eT_ix, eT_c, eT_bf, eS_asg, eS_par, eS_lcs, eS_ret, eS_ex, eS_iff, eS_rai, eS_retN, eS_pass, eS_brk, ↓bind_ok, ↓bind_ex, ↓bind_no, evEs, evO, ixD, seqOf, seqL, atI, ixN, nox, c_lt, c_le, c_gt, c_ge, c_isN, c_isntN, c_isB, c_isntB, c_eq, c_ne, pureD, pureDs, near, dle, dles, deq, deqs, blD, setT, setTs, bfD, binD, setIx, truD, newL, isiD, ifsD, wipeD, pf0, pf1, pf2, pf3, pf4, pf5, pf6, pf7, pf8, pf9, pf10, pf11, pf12, pf13, pf14, pf15, pf16, pf17, pf18, pf19, pf20, pf21, pf22, pf23, pf24, pf25, pf26, pf27, pf28, pf29, pg0, pg1, pg2, plm0, f6, encH, e0, e]
/-- swept by marks -/
def sweep (h : List Ce) (M : List Bool) : List Ce := (List.range h.length).map fun i => if M[i]?.getD false then h[i]?.getD none else none
theorem swept_heap {b : Nat} (hb : 7 ≤ b) {h : List Ce} (o : HpOk h) {rs : List Wd} (ro : RtOk h rs) (S0 : Sto) : ∃ (J : Sto) (M : List Bool), fnD (evW P) b f7 [encH h, .tup (rs.map encW)] S0 = .ok (encH (sweep h M)) (S0 ++ J) ∧ Dfs (led h) (adrs rs) h.length M [] := by
  obtain ⟨b, rfl⟩ := off hb
  obtain ⟨J, M, e, hM, d⟩ := marks_reached (b := b + 5) (by omega) o ro S0
  refine ⟨J, M, ?_, d⟩
  have hl12 := o.len
  have hd := d.len
  have hr := ro.len
  have e0 := need_roots (b := b + 6) (by omega) (S := S0) (h.map encC) (.tup (rs.map encW)) (encH_pure h) (encWs_pure rs) (isHeap_enc o)
  rw [fitsWs_enc (by omega) ro.wds, if_pos rfl] at e0
  have e1 : stE P (evW P) (b + 6) (.lc false (.ite (.ix (.v 2) (.v 3)) (.v 4) (.c .non)) (.tp [(.nm 3), (.nm 4)]) [3, 4] (.enum (.v 0)) none) [some (encH h), some (.tup (rs.map encW)), some (.ref S0.length), none, none] (S0 ++ J) = .ok (.lst ((sweep h M).map encC)) (S0 ++ J) := by
    rw [eE_lc, it_etup (xs := h.map encC) (S1 := S0 ++ J) (by simp [fnR, evSs, evW_e, evW_t, evW_s, eE_c, eE_v, eE_g, eE_bin, eE_neg, eE_nt, eE_an, eE_or, eE_cmp, eE_ch, eE_ite, eE_tup, eE_lst, eE_ix, eE_sl, eE_rv, eE_isi, eE_call, eE_bf, eE_mt, eE_lam, eT_nt, eT_an, eT_or, eT_cmp, eT_ch, eT_v, eT_call, eT_isi, eT_ix, eT_c, eT_bf, eS_asg, eS_par, eS_lcs, eS_ret, eS_ex, eS_iff, eS_rai, eS_retN, eS_pass, eS_brk, ↓bind_ok, ↓bind_ex, ↓bind_no, evEs, evO, ixD, seqOf, seqL, atI, ixN, nox, c_lt, c_le, c_gt, c_ge, c_isN, c_isntN, c_isB, c_isntB, c_eq, c_ne, pureD, pureDs, near, dle, dles, deq, deqs, blD, setT, setTs, bfD, binD, setIx, truD, newL, isiD, ifsD, wipeD, pf0, pf1, pf2, pf3, pf4, pf5, pf6, pf7, pf8, pf9, pf10, pf11, pf12, pf13, pf14, pf15, pf16, pf17, pf18, pf19, pf20, pf21, pf22, pf23, pf24, pf25, pf26, pf27, pf28, pf29, pg0, pg1, pg2, plm0, encH])]
    simp only [bind_ok]
    rw [lcL_pure (sl := fun d => match d with | .tup [x, y] => [some (encH h), some (.tup (rs.map encW)), some (.ref S0.length), some x, some y] | _ => []) (p := fun _ => true) (f := fun d => match d with | .tup [.int i, y] => if M[i.toNat]?.getD false then y else .non | _ => .non) rfl]
    · simp only [nox, newL, bind_ok, List.nil_append, enum_map, filter_tt, List.map_map, Int.zero_add, List.length_map, sweep]
      congr 2
      apply List.map_congr_left
      intro k hk
      have hk : k < h.length := List.mem_range.mp hk
      simp only [Function.comp_apply, Int.toNat_natCast, List.getD_eq_getElem?_getD, List.getElem?_map, List.getElem?_eq_getElem hk, Option.map_some, Option.getD_some]
      cases M[k]?.getD false <;> rfl
    · intro x hx
      rw [enum_map] at hx
      obtain ⟨k, hk, rfl⟩ := List.mem_map.mp hx
      rw [List.length_map] at hk
      have hk : k < h.length := List.mem_range.mp hk
      have hkM : k < M.length := by omega
      have hkM' : (k : Int) < M.length := by omega
      refine ⟨?_, rfl, fun _ => ?_⟩
      · simp [fnR, evSs, evW_e, evW_t, evW_s, eE_c, eE_v, eE_g, eE_bin, eE_neg, eE_nt, eE_an, eE_or, eE_cmp, eE_ch, eE_ite, eE_tup, eE_lst, eE_ix, eE_sl, eE_rv, eE_isi, eE_call, eE_bf, eE_mt, eE_lam, eT_nt, eT_an, eT_or, eT_cmp, eT_ch, eT_v, eT_call, eT_isi, eT_ix, eT_c, eT_bf, eS_asg, eS_par, eS_lcs, eS_ret, eS_ex, eS_iff, eS_rai, eS_retN, eS_pass, eS_brk, ↓bind_ok, ↓bind_ex, ↓bind_no, evEs, evO, ixD, seqOf, seqL, atI, ixN, nox, c_lt, c_le, c_gt, c_ge, c_isN, c_isntN, c_isB, c_isntB, c_eq, c_ne, pureD, pureDs, near, dle, dles, deq, deqs, blD, setT, setTs, bfD, binD, setIx, truD, newL, isiD, ifsD, wipeD, pf0, pf1, pf2, pf3, pf4, pf5, pf6, pf7, pf8, pf9, pf10, pf11, pf12, pf13, pf14, pf15, pf16, pf17, pf18, pf19, pf20, pf21, pf22, pf23, pf24, pf25, pf26, pf27, pf28, pf29, pg0, pg1, pg2, plm0]
      · cases q : M[k] <;> simp [fnR, evSs, evW_e, evW_t, evW_s, eE_c, eE_v, eE_g, eE_bin, eE_neg, eE_nt, eE_an, eE_or, eE_cmp, eE_ch, eE_ite, eE_tup, eE_lst, eE_ix, eE_sl, eE_rv, eE_isi, eE_call, eE_bf, eE_mt, eE_lam, eT_nt, eT_an, eT_or, eT_cmp, eT_ch, eT_v, eT_call, eT_isi, eT_ix, eT_c, eT_bf, eS_asg, eS_par, eS_lcs, eS_ret, eS_ex, eS_iff, eS_rai, eS_retN, eS_pass, eS_brk, ↓bind_ok, ↓bind_ex, ↓bind_no, evEs, evO, ixD, seqOf, seqL, atI, ixN, nox, c_lt, c_le, c_gt, c_ge, c_isN, c_isntN, c_isB, c_isntB, c_eq, c_ne, pureD, pureDs, near, dle, dles, deq, deqs, blD, setT, setTs, bfD, binD, setIx, truD, newL, isiD, ifsD, wipeD, pf0, pf1, pf2, pf3, pf4, pf5, pf6, pf7, pf8, pf9, pf10, pf11, pf12, pf13, pf14, pf15, pf16, pf17, pf18, pf19, pf20, pf21, pf22, pf23, pf24, pf25, pf26, pf27, pf28, pf29, pg0, pg1, pg2, plm0, hM, hk, hkM, hkM', q]
    · rw [enum_map, List.length_map, List.length_range, List.length_map]
      simp [sizeMax]
      omega
  have e2 : fnD (evW P) (b + 6) f17 [encH h, .tup (rs.map encW)] S0 = .ok (encH (sweep h M)) (S0 ++ J) := by
    rw [fnD_run rfl]
    simp only [encH] at e e1
    simp [fnR, evSs, evW_e, evW_t, evW_s, eE_c, eE_v, eE_g, eE_bin, eE_neg, eE_nt, eE_an, eE_or, eE_cmp, eE_ch, eE_ite, eE_tup, eE_lst, eE_ix, eE_sl, eE_rv, eE_isi, eE_call, eE_bf, eE_mt, eE_lam, eT_nt, eT_an, eT_or, eT_cmp, eT_ch, eT_v, eT_call, eT_isi, eT_ix, eT_c, eT_bf, eS_asg, eS_par, eS_lcs, eS_ret, eS_ex, eS_iff, eS_rai, eS_retN, eS_pass, eS_brk, ↓bind_ok, ↓bind_ex, ↓bind_no, evEs, evO, ixD, seqOf, seqL, atI, ixN, nox, c_lt, c_le, c_gt, c_ge, c_isN, c_isntN, c_isB, c_isntB, c_eq, c_ne, pureD, pureDs, near, dle, dles, deq, deqs, blD, setT, setTs, bfD, binD, setIx, truD, newL, isiD, ifsD, wipeD, pf0, pf1, pf2, pf3, pf4, pf5, pf6, pf7, pf8, pf9, pf10, pf11, pf12, pf13, pf14, pf15, pf16, pf17, pf18, pf19, pf20, pf21, pf22, pf23, pf24, pf25, pf26, pf27, pf28, pf29, pg0, pg1, pg2, plm0, f17, e, e1, tupleD, encH]
  rw [fnD_run rfl]
  simp only [encH] at e2
  simp [fnR, evSs, evW_e, evW_t, evW_s, eE_c, eE_v, eE_g, eE_bin, eE_neg, eE_nt, eE_an, eE_or, eE_cmp, eE_ch, eE_ite, eE_tup, eE_lst, eE_ix, eE_sl, eE_rv, eE_isi, eE_call, eE_bf, eE_mt, eE_lam, eT_nt, eT_an, eT_or, eT_cmp, eT_ch, eT_v, eT_call, eT_isi, eT_ix, eT_c, eT_bf, eS_asg, eS_par, eS_lcs, eS_ret, eS_ex, eS_iff, eS_rai, eS_retN, eS_pass, eS_brk, ↓bind_ok, ↓bind_ex, ↓bind_no, evEs, evO, ixD, seqOf, seqL, atI, ixN, nox, c_lt, c_le, c_gt, c_ge, c_isN, c_isntN, c_isB, c_isntB, c_eq, c_ne, pureD, pureDs, near, dle, dles, deq, deqs, blD, setT, setTs, bfD, binD, setIx, truD, newL, isiD, ifsD, wipeD, pf0, pf1, pf2, pf3, pf4, pf5, pf6, pf7, pf8, pf9, pf10, pf11, pf12, pf13, pf14, pf15, pf16, pf17, pf18, pf19, pf20, pf21, pf22, pf23, pf24, pf25, pf26, pf27, pf28, pf29, pg0, pg1, pg2, plm0, f7, encH, e0, e2]
/-- what stays, by marks -/
def stays (L : List Ce) (p : Nat → Bool) : List Nat := (List.range L.length).filter fun a => (L[a]?.getD none).isSome && !p a
theorem rings_held {b : Nat} (hb : 7 ≤ b) {h : List Ce} (o : HpOk h) {rs : List Wd} (ro : RtOk h rs) (S0 : Sto) : ∃ (J : Sto) (L : List Ce) (M : List Bool), fnD (evW P) b f8 [encH h, .tup (rs.map encW)] S0 = .ok (.lst ((stays L fun a => M[a]?.getD false).map natD)) (S0 ++ J) ∧ Lets (adrs rs) h L ∧ Stable (adrs rs) L ∧ Dfs (led h) (adrs rs) h.length M [] := by
  obtain ⟨b, rfl⟩ := off hb
  obtain ⟨J, M, e, hM, d⟩ := marks_reached (b := b + 6) (by omega) o ro S0
  obtain ⟨J2, L, e2, l1, l2⟩ := by_counting (b := b + 6) (by omega) o ro (S0 ++ J)
  refine ⟨J ++ J2, L, M, ?_, l1, l2, d⟩
  have hl12 := o.len
  have hd := d.len
  have hr := ro.len
  have hL := l1.sub.len
  have hM2 : (S0 ++ (J ++ J2))[S0.length]? = some (M.map D.bl) := by
    have lt := (List.getElem?_eq_some_iff.mp hM).1
    rw [← List.append_assoc, List.getElem?_append_left lt]
    exact hM
  have e0 := need_roots (b := b + 6) (by omega) (S := S0) (h.map encC) (.tup (rs.map encW)) (encH_pure h) (encWs_pure rs) (isHeap_enc o)
  rw [fitsWs_enc (by omega) ro.wds, if_pos rfl] at e0
  have e1 : stE P (evW P) (b + 7) (.lc false (.v 4) (.tp [(.nm 4), (.nm 5)]) [4, 5] (.enum (.v 3)) (some (.an (.cmp .isntN (.v 5) (.c .non)) (.nt (.ix (.v 2) (.v 4)))))) [some (.tup (h.map encC)), some (.tup (rs.map encW)), some (.ref S0.length), some (.tup (L.map encC)), none, none] (S0 ++ (J ++ J2)) = .ok (.lst ((stays L fun a => M[a]?.getD false).map natD)) (S0 ++ (J ++ J2)) := by
    rw [eE_lc, it_etup (xs := L.map encC) (S1 := S0 ++ (J ++ J2)) (by simp [fnR, evSs, evW_e, evW_t, evW_s, eE_c, eE_v, eE_g, eE_bin, eE_neg, eE_nt, eE_an, eE_or, eE_cmp, eE_ch, eE_ite, eE_tup, eE_lst, eE_ix, eE_sl, eE_rv, eE_isi, eE_call, eE_bf, eE_mt, eE_lam, eT_nt, eT_an, eT_or, eT_cmp, eT_ch, eT_v, eT_call, eT_isi, eT_ix, eT_c, eT_bf, eS_asg, eS_par, eS_lcs, eS_ret, eS_ex, eS_iff, eS_rai, eS_retN, eS_pass, eS_brk, ↓bind_ok, ↓bind_ex, ↓bind_no, evEs, evO, ixD, seqOf, seqL, atI, ixN, nox, c_lt, c_le, c_gt, c_ge, c_isN, c_isntN, c_isB, c_isntB, c_eq, c_ne, pureD, pureDs, near, dle, dles, deq, deqs, blD, setT, setTs, bfD, binD, setIx, truD, newL, isiD, ifsD, wipeD, pf0, pf1, pf2, pf3, pf4, pf5, pf6, pf7, pf8, pf9, pf10, pf11, pf12, pf13, pf14, pf15, pf16, pf17, pf18, pf19, pf20, pf21, pf22, pf23, pf24, pf25, pf26, pf27, pf28, pf29, pg0, pg1, pg2, plm0])]
    simp only [bind_ok]
    rw [lcL_pure (sl := fun d => match d with | .tup [x, y] => [some (.tup (h.map encC)), some (.tup (rs.map encW)), some (.ref S0.length), some (.tup (L.map encC)), some x, some y] | _ => []) (p := fun d => match d with | .tup [.int i, y] => !isNon y && !(M[i.toNat]?.getD false) | _ => false) (f := fun d => match d with | .tup [x, _] => x | _ => .non) rfl]
    · simp only [nox, newL, bind_ok, List.nil_append, enum_map, List.length_map, List.filter_map, List.map_map, Int.zero_add]
      have : ((List.range L.length).filter ((fun d => match d with | D.tup [.int i, y] => !isNon y && !(M[i.toNat]?.getD false) | _ => false) ∘ fun (k : Nat) => D.tup [.int (k : Int), (L.map encC).getD k .non])) = stays L fun a => M[a]?.getD false := by
        apply List.filter_congr
        intro k hk
        have hk : k < L.length := List.mem_range.mp hk
        simp only [Function.comp_apply, Int.toNat_natCast, List.getD_eq_getElem?_getD, List.getElem?_map, List.getElem?_eq_getElem hk, Option.map_some, Option.getD_some]
        cases L[k] <;> simp [encC, isNon]
      rw [this]
      rfl
    · intro x hx
      rw [enum_map] at hx
      obtain ⟨k, hk, rfl⟩ := List.mem_map.mp hx
      rw [List.length_map] at hk
      have hk : k < L.length := List.mem_range.mp hk
      have hkM : k < M.length := by omega
      have hkM' : (k : Int) < M.length := by omega
      refine ⟨?_, ?_, fun _ => ?_⟩
      · simp [fnR, evSs, evW_e, evW_t, evW_s, eE_c, eE_v, eE_g, eE_bin, eE_neg, eE_nt, eE_an, eE_or, eE_cmp, eE_ch, eE_ite, eE_tup, eE_lst, eE_ix, eE_sl, eE_rv, eE_isi, eE_call, eE_bf, eE_mt, eE_lam, eT_nt, eT_an, eT_or, eT_cmp, eT_ch, eT_v, eT_call, eT_isi, eT_ix, eT_c, eT_bf, eS_asg, eS_par, eS_lcs, eS_ret, eS_ex, eS_iff, eS_rai, eS_retN, eS_pass, eS_brk, ↓bind_ok, ↓bind_ex, ↓bind_no, evEs, evO, ixD, seqOf, seqL, atI, ixN, nox, c_lt, c_le, c_gt, c_ge, c_isN, c_isntN, c_isB, c_isntB, c_eq, c_ne, pureD, pureDs, near, dle, dles, deq, deqs, blD, setT, setTs, bfD, binD, setIx, truD, newL, isiD, ifsD, wipeD, pf0, pf1, pf2, pf3, pf4, pf5, pf6, pf7, pf8, pf9, pf10, pf11, pf12, pf13, pf14, pf15, pf16, pf17, pf18, pf19, pf20, pf21, pf22, pf23, pf24, pf25, pf26, pf27, pf28, pf29, pg0, pg1, pg2, plm0]
      · cases q : L[k] with
        | none => simp [fnR, evSs, evW_e, evW_t, evW_s, eE_c, eE_v, eE_g, eE_bin, eE_neg, eE_nt, eE_an, eE_or, eE_cmp, eE_ch, eE_ite, eE_tup, eE_lst, eE_ix, eE_sl, eE_rv, eE_isi, eE_call, eE_bf, eE_mt, eE_lam, eT_nt, eT_an, eT_or, eT_cmp, eT_ch, eT_v, eT_call, eT_isi, eT_ix, eT_c, eT_bf, eS_asg, eS_par, eS_lcs, eS_ret, eS_ex, eS_iff, eS_rai, eS_retN, eS_pass, eS_brk, ↓bind_ok, ↓bind_ex, ↓bind_no, evEs, evO, ixD, seqOf, seqL, atI, ixN, nox, c_lt, c_le, c_gt, c_ge, c_isN, c_isntN, c_isB, c_isntB, c_eq, c_ne, pureD, pureDs, near, dle, dles, deq, deqs, blD, setT, setTs, bfD, binD, setIx, truD, newL, isiD, ifsD, wipeD, pf0, pf1, pf2, pf3, pf4, pf5, pf6, pf7, pf8, pf9, pf10, pf11, pf12, pf13, pf14, pf15, pf16, pf17, pf18, pf19, pf20, pf21, pf22, pf23, pf24, pf25, pf26, pf27, pf28, pf29, pg0, pg1, pg2, plm0, hk, q, encC, isNon]
        | some p => simp [fnR, evSs, evW_e, evW_t, evW_s, eE_c, eE_v, eE_g, eE_bin, eE_neg, eE_nt, eE_an, eE_or, eE_cmp, eE_ch, eE_ite, eE_tup, eE_lst, eE_ix, eE_sl, eE_rv, eE_isi, eE_call, eE_bf, eE_mt, eE_lam, eT_nt, eT_an, eT_or, eT_cmp, eT_ch, eT_v, eT_call, eT_isi, eT_ix, eT_c, eT_bf, eS_asg, eS_par, eS_lcs, eS_ret, eS_ex, eS_iff, eS_rai, eS_retN, eS_pass, eS_brk, ↓bind_ok, ↓bind_ex, ↓bind_no, evEs, evO, ixD, seqOf, seqL, atI, ixN, nox, c_lt, c_le, c_gt, c_ge, c_isN, c_isntN, c_isB, c_isntB, c_eq, c_ne, pureD, pureDs, near, dle, dles, deq, deqs, blD, setT, setTs, bfD, binD, setIx, truD, newL, isiD, ifsD, wipeD, pf0, pf1, pf2, pf3, pf4, pf5, pf6, pf7, pf8, pf9, pf10, pf11, pf12, pf13, pf14, pf15, pf16, pf17, pf18, pf19, pf20, pf21, pf22, pf23, pf24, pf25, pf26, pf27, pf28, pf29, pg0, pg1, pg2, plm0, hk, hkM, hkM', q, encC, isNon, hM2]
      · simp [fnR, evSs, evW_e, evW_t, evW_s, eE_c, eE_v, eE_g, eE_bin, eE_neg, eE_nt, eE_an, eE_or, eE_cmp, eE_ch, eE_ite, eE_tup, eE_lst, eE_ix, eE_sl, eE_rv, eE_isi, eE_call, eE_bf, eE_mt, eE_lam, eT_nt, eT_an, eT_or, eT_cmp, eT_ch, eT_v, eT_call, eT_isi, eT_ix, eT_c, eT_bf, eS_asg, eS_par, eS_lcs, eS_ret, eS_ex, eS_iff, eS_rai, eS_retN, eS_pass, eS_brk, ↓bind_ok, ↓bind_ex, ↓bind_no, evEs, evO, ixD, seqOf, seqL, atI, ixN, nox, c_lt, c_le, c_gt, c_ge, c_isN, c_isntN, c_isB, c_isntB, c_eq, c_ne, pureD, pureDs, near, dle, dles, deq, deqs, blD, setT, setTs, bfD, binD, setIx, truD, newL, isiD, ifsD, wipeD, pf0, pf1, pf2, pf3, pf4, pf5, pf6, pf7, pf8, pf9, pf10, pf11, pf12, pf13, pf14, pf15, pf16, pf17, pf18, pf19, pf20, pf21, pf22, pf23, pf24, pf25, pf26, pf27, pf28, pf29, pg0, pg1, pg2, plm0]
    · rw [enum_map, List.length_map, List.length_range, List.length_map]
      simp [sizeMax]
      omega
  rw [fnD_run rfl]
  simp only [encH] at e e2
  rw [List.append_assoc] at e2
  simp [fnR, evSs, evW_e, evW_t, evW_s, eE_c, eE_v, eE_g, eE_bin, eE_neg, eE_nt, eE_an, eE_or, eE_cmp, eE_ch, eE_ite, eE_tup, eE_lst, eE_ix, eE_sl, eE_rv, eE_isi, eE_call, eE_bf, eE_mt, eE_lam, eT_nt, eT_an, eT_or, eT_cmp, eT_ch, eT_v, eT_call, eT_isi, eT_ix, eT_c, eT_bf, eS_asg, eS_par, eS_lcs, eS_ret, eS_ex, eS_iff, eS_rai, eS_retN, eS_pass, eS_brk, ↓bind_ok, ↓bind_ex, ↓bind_no, evEs, evO, ixD, seqOf, seqL, atI, ixN, nox, c_lt, c_le, c_gt, c_ge, c_isN, c_isntN, c_isB, c_isntB, c_eq, c_ne, pureD, pureDs, near, dle, dles, deq, deqs, blD, setT, setTs, bfD, binD, setIx, truD, newL, isiD, ifsD, wipeD, pf0, pf1, pf2, pf3, pf4, pf5, pf6, pf7, pf8, pf9, pf10, pf11, pf12, pf13, pf14, pf15, pf16, pf17, pf18, pf19, pf20, pf21, pf22, pf23, pf24, pf25, pf26, pf27, pf28, pf29, pg0, pg1, pg2, plm0, f8, encH, e0, e, e2, e1, sizeMax]
/-! ### the law's own letting go -/
theorem left_every {b : Nat} (hb : 1 ≤ b) {g : Option (Nat × List D)} {v0 v1 v2 v3 v4 v7 v8 : Option D} {S : Sto} (hg : gdOk S g = true) : ∀ (cs : List Ce) (xs : List Nat) (o : Option D), (∀ l ws, some (l, ws) ∈ cs → ws.length ≤ 3) → xs.length + 3 * cs.length ≤ 1000 →
    ∃ o', forL g (fun d sl S => setT ((evW P).e b) 9 (.nm 6) d sl S) (fun sl S => evSs ((evW P).s b) [.asg (.nm 5) (.bin .add false (.v 5) (.call 19 [(.ite (.cmp .isntN (.v 6) (.c .non)) (.ix (.v 6) (.c (.int 1))) (.tup []))]))] sl S) (cs.map encC) [v0, v1, v2, v3, v4, some (.lst (xs.map natD)), o, v7, v8] S = .ok (.nx [v0, v1, v2, v3, v4, some (.lst ((xs ++ cs.flatMap cellAdr).map natD)), o', v7, v8]) S
  | [], xs, o, _, _ => ⟨o, by simp [forL, hg]⟩
  | c :: r, xs, o, hv, hz => by
    obtain ⟨b, rfl⟩ := off hb
    simp only [List.length_cons] at hz
    have t : evSs ((evW P).s (b + 1)) [.asg (.nm 5) (.bin .add false (.v 5) (.call 19 [(.ite (.cmp .isntN (.v 6) (.c .non)) (.ix (.v 6) (.c (.int 1))) (.tup []))]))] [v0, v1, v2, v3, v4, some (.lst (xs.map natD)), some (encC c), v7, v8] S = .ok (.nx [v0, v1, v2, v3, v4, some (.lst ((xs ++ cellAdr c).map natD)), some (encC c), v7, v8]) S ∧ (cellAdr c).length ≤ 3 := by
      cases c with
      | none =>
        have e := law_led (b := b) [] (by simp) S
        have z1 : xs.length ≤ 16777216 := by omega
        simp only [List.map_nil, adrs] at e
        refine ⟨?_, by simp [cellAdr]⟩
        simp [fnR, evSs, evW_e, evW_t, evW_s, eE_c, eE_v, eE_g, eE_bin, eE_neg, eE_nt, eE_an, eE_or, eE_cmp, eE_ch, eE_ite, eE_tup, eE_lst, eE_ix, eE_sl, eE_rv, eE_isi, eE_call, eE_bf, eE_mt, eE_lam, eT_nt, eT_an, eT_or, eT_cmp, eT_ch, eT_v, eT_call, eT_isi, eT_ix, eT_c, eT_bf, eS_asg, eS_par, eS_lcs, eS_ret, eS_ex, eS_iff, eS_rai, eS_retN, eS_pass, eS_brk, ↓bind_ok, ↓bind_ex, ↓bind_no, evEs, evO, ixD, seqOf, seqL, atI, ixN, nox, c_lt, c_le, c_gt, c_ge, c_isN, c_isntN, c_isB, c_isntB, c_eq, c_ne, pureD, pureDs, near, dle, dles, deq, deqs, blD, setT, setTs, bfD, binD, setIx, truD, newL, isiD, ifsD, wipeD, pf0, pf1, pf2, pf3, pf4, pf5, pf6, pf7, pf8, pf9, pf10, pf11, pf12, pf13, pf14, pf15, pf16, pf17, pf18, pf19, pf20, pf21, pf22, pf23, pf24, pf25, pf26, pf27, pf28, pf29, pg0, pg1, pg2, plm0, encC, isNon, e, addD, sizeMax, z1, cellAdr]
      | some p =>
        obtain ⟨l, ws⟩ := p
        have hw := hv l ws List.mem_cons_self
        have ha := adrs_len ws
        have e := law_led (b := b) ws (by omega) S
        have z1 : xs.length + (adrs ws).length ≤ 16777216 := by omega
        refine ⟨?_, by simp only [cellAdr]; omega⟩
        simp [fnR, evSs, evW_e, evW_t, evW_s, eE_c, eE_v, eE_g, eE_bin, eE_neg, eE_nt, eE_an, eE_or, eE_cmp, eE_ch, eE_ite, eE_tup, eE_lst, eE_ix, eE_sl, eE_rv, eE_isi, eE_call, eE_bf, eE_mt, eE_lam, eT_nt, eT_an, eT_or, eT_cmp, eT_ch, eT_v, eT_call, eT_isi, eT_ix, eT_c, eT_bf, eS_asg, eS_par, eS_lcs, eS_ret, eS_ex, eS_iff, eS_rai, eS_retN, eS_pass, eS_brk, ↓bind_ok, ↓bind_ex, ↓bind_no, evEs, evO, ixD, seqOf, seqL, atI, ixN, nox, c_lt, c_le, c_gt, c_ge, c_isN, c_isntN, c_isB, c_isntB, c_eq, c_ne, pureD, pureDs, near, dle, dles, deq, deqs, blD, setT, setTs, bfD, binD, setIx, truD, newL, isiD, ifsD, wipeD, pf0, pf1, pf2, pf3, pf4, pf5, pf6, pf7, pf8, pf9, pf10, pf11, pf12, pf13, pf14, pf15, pf16, pf17, pf18, pf19, pf20, pf21, pf22, pf23, pf24, pf25, pf26, pf27, pf28, pf29, pg0, pg1, pg2, plm0, encC, isNon, e, addD, sizeMax, z1, cellAdr]
    obtain ⟨o', e⟩ := left_every (b := b + 1) (by omega) (g := g) (v0 := v0) (v1 := v1) (v2 := v2) (v3 := v3) (v4 := v4) (v7 := v7) (v8 := v8) (S := S) hg r (xs ++ cellAdr c) (some (encC c)) (fun l ws hm => hv l ws (List.mem_cons_of_mem _ hm)) (by rw [List.length_append]; omega)
    refine ⟨o', ?_⟩
    rw [List.map_cons]
    unfold forL
    rw [if_pos hg]
    rw [show setT ((evW P).e (b + 1)) 9 (.nm 6) (encC c) [v0, v1, v2, v3, v4, some (.lst (xs.map natD)), o, v7, v8] S = .ok [v0, v1, v2, v3, v4, some (.lst (xs.map natD)), some (encC c), v7, v8] S from rfl]
    simp only [bind_ok]
    rw [t.1]
    simp only [bind_ok]
    rw [e, List.append_assoc, List.flatMap_cons]
theorem it_ref {b : Nat} {sl : Sl} {S S1 : Sto} {a : E} {n : Nat} {xs : List D} (e : (evW P).e b a sl S = .ok (.ref n) S1) (h : S1[n]? = some xs) : itD (fun e S => (evW P).e b e sl S) (.seq a) S = .ok ⟨xs, some (n, xs)⟩ S1 := by
  show ((evW P).e b a sl S).bind _ = _
  rw [e, bind_ok]
  show (match walkD S1 (.ref n) with | some w => R.ok w S1 | none => .no) = _
  simp only [walkD, h]
abbrev leftBody : List Nv.S := [.asg (.nm 5) (.call 19 [(.v 2)]),
    .for_ (.nm 6) (.seq (.v 3)) [.asg (.nm 5) (.bin .add false (.v 5) (.call 19 [(.ite (.cmp .isntN (.v 6) (.c .non)) (.ix (.v 6) (.c (.int 1))) (.tup []))]))],
    .lcs 7 (.lc false (.v 8) (.tp [(.nm 8), (.nm 6)]) [8, 6] (.enum (.v 3)) (some (.an (.cmp .isntN (.v 6) (.c .non)) (.cmp .notin (.v 8) (.v 5))))),
    .iff (.cmp .ne (.v 7) (.lst false [])) [.asg (.ix (.v 3) (.call 11 [(.v 0), (.v 7)])) (.c .non)] []]
theorem left_turn {b : Nat} (hb : 3 ≤ b) (c : Int × Int) (r : Sto) {h L : List Ce} (o : HpOk L) {rs : List Wd} (hr3 : rs.length ≤ 12) {v1 v4 x5 x6 x7 x8 : Option D} :
    ∃ c' L' y5 y6 y7 y8, evSs ((evW P).s b) leftBody [some (.ref 0), v1, some (.tup (rs.map encW)), some (.ref (r.length + 1)), v4, x5, x6, x7, x8] (cupD c :: (r ++ [L.map encC])) = .ok (.nx [some (.ref 0), v1, some (.tup (rs.map encW)), some (.ref (r.length + 1)), v4, y5, y6, y7, y8]) (cupD c' :: (r ++ [L'.map encC])) ∧
      ((Stable (adrs rs) L ∧ L' = L) ∨ ∃ a, Free (adrs rs) L a ∧ L' = L.set a none) := by
  obtain ⟨b, rfl⟩ := off hb
  have hl12 := o.len
  have ha := adrs_len rs
  have gm : (cupD c :: (r ++ [L.map encC]))[r.length + 1]? = some (L.map encC) := by simp
  have e1 := law_led (b := b + 2) rs (by omega) (cupD c :: (r ++ [L.map encC]))
  obtain ⟨y6, e2⟩ := left_every (b := b + 3) (by omega) (g := some (r.length + 1, L.map encC)) (v0 := some (.ref 0)) (v1 := v1) (v2 := some (.tup (rs.map encW))) (v3 := some (.ref (r.length + 1))) (v4 := v4) (v7 := x7) (v8 := x8) (S := cupD c :: (r ++ [L.map encC])) (by simp [gdOk, sameDs_refl]) L (adrs rs) x6 (fun l ws hm => (o.wds l ws hm).1) (by omega)
  have s1 : stS P (evW P) (b + 3) (.asg (.nm 5) (.call 19 [(.v 2)])) [some (.ref 0), v1, some (.tup (rs.map encW)), some (.ref (r.length + 1)), v4, x5, x6, x7, x8] (cupD c :: (r ++ [L.map encC])) = .ok (.nx [some (.ref 0), v1, some (.tup (rs.map encW)), some (.ref (r.length + 1)), v4, some (.lst ((adrs rs).map natD)), x6, x7, x8]) (cupD c :: (r ++ [L.map encC])) := by
    simp [fnR, evSs, evW_e, evW_t, evW_s, eE_c, eE_v, eE_g, eE_bin, eE_neg, eE_nt, eE_an, eE_or, eE_cmp, eE_ch, eE_ite, eE_tup, eE_lst, eE_ix, eE_sl, eE_rv, eE_isi, eE_call, eE_bf, eE_mt, eE_lam, eT_nt, eT_an, eT_or, eT_cmp, eT_ch, eT_v, eT_call, eT_isi, eT_ix, eT_c, eT_bf, eS_asg, eS_par, eS_lcs, eS_ret, eS_ex, eS_iff, eS_rai, eS_retN, eS_pass, eS_brk, ↓bind_ok, ↓bind_ex, ↓bind_no, evEs, evO, ixD, seqOf, seqL, atI, ixN, nox, c_lt, c_le, c_gt, c_ge, c_isN, c_isntN, c_isB, c_isntB, c_eq, c_ne, pureD, pureDs, near, dle, dles, deq, deqs, blD, setT, setTs, bfD, binD, setIx, truD, newL, isiD, ifsD, wipeD, pf0, pf1, pf2, pf3, pf4, pf5, pf6, pf7, pf8, pf9, pf10, pf11, pf12, pf13, pf14, pf15, pf16, pf17, pf18, pf19, pf20, pf21, pf22, pf23, pf24, pf25, pf26, pf27, pf28, pf29, pg0, pg1, pg2, plm0, e1]
  have s2 : stS P (evW P) (b + 3) (leftBody.getD 1 .pass) [some (.ref 0), v1, some (.tup (rs.map encW)), some (.ref (r.length + 1)), v4, some (.lst ((adrs rs).map natD)), x6, x7, x8] (cupD c :: (r ++ [L.map encC])) = .ok (.nx [some (.ref 0), v1, some (.tup (rs.map encW)), some (.ref (r.length + 1)), v4, some (.lst ((refs (adrs rs) L).map natD)), y6, x7, x8]) (cupD c :: (r ++ [L.map encC])) := by
    show stS P (evW P) (b + 3) (.for_ _ _ _) _ _ = _
    rw [eS_for, it_ref (n := r.length + 1) (xs := L.map encC) (S1 := cupD c :: (r ++ [L.map encC])) (by simp [fnR, evSs, evW_e, evW_t, evW_s, eE_c, eE_v, eE_g, eE_bin, eE_neg, eE_nt, eE_an, eE_or, eE_cmp, eE_ch, eE_ite, eE_tup, eE_lst, eE_ix, eE_sl, eE_rv, eE_isi, eE_call, eE_bf, eE_mt, eE_lam, eT_nt, eT_an, eT_or, eT_cmp, eT_ch, eT_v, eT_call, eT_isi, eT_ix, eT_c, eT_bf, eS_asg, eS_par, eS_lcs, eS_ret, eS_ex, eS_iff, eS_rai, eS_retN, eS_pass, eS_brk, ↓bind_ok, ↓bind_ex, ↓bind_no, evEs, evO, ixD, seqOf, seqL, atI, ixN, nox, c_lt, c_le, c_gt, c_ge, c_isN, c_isntN, c_isB, c_isntB, c_eq, c_ne, pureD, pureDs, near, dle, dles, deq, deqs, blD, setT, setTs, bfD, binD, setIx, truD, newL, isiD, ifsD, wipeD, pf0, pf1, pf2, pf3, pf4, pf5, pf6, pf7, pf8, pf9, pf10, pf11, pf12, pf13, pf14, pf15, pf16, pf17, pf18, pf19, pf20, pf21, pf22, pf23, pf24, pf25, pf26, pf27, pf28, pf29, pg0, pg1, pg2, plm0]) gm, bind_ok]
    exact e2
  let fr : List Nat := (List.range L.length).filter fun a => (L[a]?.getD none).isSome && !decide (a ∈ refs (adrs rs) L)
  have e3 : stE P (evW P) (b + 3) (.lc false (.v 8) (.tp [(.nm 8), (.nm 6)]) [8, 6] (.enum (.v 3)) (some (.an (.cmp .isntN (.v 6) (.c .non)) (.cmp .notin (.v 8) (.v 5))))) [some (.ref 0), v1, some (.tup (rs.map encW)), some (.ref (r.length + 1)), v4, some (.lst ((refs (adrs rs) L).map natD)), y6, x7, x8] (cupD c :: (r ++ [L.map encC])) = .ok (.lst (fr.map natD)) (cupD c :: (r ++ [L.map encC])) := by
    rw [eE_lc, it_eref (n := r.length + 1) (xs := L.map encC) (S1 := cupD c :: (r ++ [L.map encC])) (by simp [fnR, evSs, evW_e, evW_t, evW_s, eE_c, eE_v, eE_g, eE_bin, eE_neg, eE_nt, eE_an, eE_or, eE_cmp, eE_ch, eE_ite, eE_tup, eE_lst, eE_ix, eE_sl, eE_rv, eE_isi, eE_call, eE_bf, eE_mt, eE_lam, eT_nt, eT_an, eT_or, eT_cmp, eT_ch, eT_v, eT_call, eT_isi, eT_ix, eT_c, eT_bf, eS_asg, eS_par, eS_lcs, eS_ret, eS_ex, eS_iff, eS_rai, eS_retN, eS_pass, eS_brk, ↓bind_ok, ↓bind_ex, ↓bind_no, evEs, evO, ixD, seqOf, seqL, atI, ixN, nox, c_lt, c_le, c_gt, c_ge, c_isN, c_isntN, c_isB, c_isntB, c_eq, c_ne, pureD, pureDs, near, dle, dles, deq, deqs, blD, setT, setTs, bfD, binD, setIx, truD, newL, isiD, ifsD, wipeD, pf0, pf1, pf2, pf3, pf4, pf5, pf6, pf7, pf8, pf9, pf10, pf11, pf12, pf13, pf14, pf15, pf16, pf17, pf18, pf19, pf20, pf21, pf22, pf23, pf24, pf25, pf26, pf27, pf28, pf29, pg0, pg1, pg2, plm0]) gm]
    simp only [bind_ok]
    rw [lcL_pure (sl := fun d => match d with | .tup [x, y] => [some (.ref 0), v1, some (.tup (rs.map encW)), some (.ref (r.length + 1)), v4, some (.lst ((refs (adrs rs) L).map natD)), some y, x7, some x] | _ => []) (p := fun d => match d with | .tup [.int i, y] => !isNon y && !decide (i.toNat ∈ refs (adrs rs) L) | _ => false) (f := fun d => match d with | .tup [x, _] => x | _ => .non)]
    · simp only [nox, newL, bind_ok, List.nil_append, enum_map, List.length_map, List.filter_map, List.map_map, Int.zero_add]
      have : ((List.range L.length).filter ((fun d => match d with | D.tup [.int i, y] => !isNon y && !decide (i.toNat ∈ refs (adrs rs) L) | _ => false) ∘ fun (k : Nat) => D.tup [.int (k : Int), (L.map encC).getD k .non])) = fr := by
        apply List.filter_congr
        intro k hk
        have hk : k < L.length := List.mem_range.mp hk
        simp only [Function.comp_apply, Int.toNat_natCast, List.getD_eq_getElem?_getD, List.getElem?_map, List.getElem?_eq_getElem hk, Option.map_some, Option.getD_some]
        cases L[k] <;> simp [encC, isNon]
      rw [this]
      rfl
    · simp [gdOk, sameDs_refl]
    · intro x hx
      rw [enum_map] at hx
      obtain ⟨k, hk, rfl⟩ := List.mem_map.mp hx
      rw [List.length_map] at hk
      have hk : k < L.length := List.mem_range.mp hk
      have cn := c_notin (a := k) (F := refs (adrs rs) L) (S := cupD c :: (r ++ [L.map encC]))
      simp only [natD] at cn
      refine ⟨?_, ?_, fun _ => ?_⟩
      · simp [fnR, evSs, evW_e, evW_t, evW_s, eE_c, eE_v, eE_g, eE_bin, eE_neg, eE_nt, eE_an, eE_or, eE_cmp, eE_ch, eE_ite, eE_tup, eE_lst, eE_ix, eE_sl, eE_rv, eE_isi, eE_call, eE_bf, eE_mt, eE_lam, eT_nt, eT_an, eT_or, eT_cmp, eT_ch, eT_v, eT_call, eT_isi, eT_ix, eT_c, eT_bf, eS_asg, eS_par, eS_lcs, eS_ret, eS_ex, eS_iff, eS_rai, eS_retN, eS_pass, eS_brk, ↓bind_ok, ↓bind_ex, ↓bind_no, evEs, evO, ixD, seqOf, seqL, atI, ixN, nox, c_lt, c_le, c_gt, c_ge, c_isN, c_isntN, c_isB, c_isntB, c_eq, c_ne, pureD, pureDs, near, dle, dles, deq, deqs, blD, setT, setTs, bfD, binD, setIx, truD, newL, isiD, ifsD, wipeD, pf0, pf1, pf2, pf3, pf4, pf5, pf6, pf7, pf8, pf9, pf10, pf11, pf12, pf13, pf14, pf15, pf16, pf17, pf18, pf19, pf20, pf21, pf22, pf23, pf24, pf25, pf26, pf27, pf28, pf29, pg0, pg1, pg2, plm0]
      · cases q : L[k] with
        | none => simp [fnR, evSs, evW_e, evW_t, evW_s, eE_c, eE_v, eE_g, eE_bin, eE_neg, eE_nt, eE_an, eE_or, eE_cmp, eE_ch, eE_ite, eE_tup, eE_lst, eE_ix, eE_sl, eE_rv, eE_isi, eE_call, eE_bf, eE_mt, eE_lam, eT_nt, eT_an, eT_or, eT_cmp, eT_ch, eT_v, eT_call, eT_isi, eT_ix, eT_c, eT_bf, eS_asg, eS_par, eS_lcs, eS_ret, eS_ex, eS_iff, eS_rai, eS_retN, eS_pass, eS_brk, ↓bind_ok, ↓bind_ex, ↓bind_no, evEs, evO, ixD, seqOf, seqL, atI, ixN, nox, c_lt, c_le, c_gt, c_ge, c_isN, c_isntN, c_isB, c_isntB, c_eq, c_ne, pureD, pureDs, near, dle, dles, deq, deqs, blD, setT, setTs, bfD, binD, setIx, truD, newL, isiD, ifsD, wipeD, pf0, pf1, pf2, pf3, pf4, pf5, pf6, pf7, pf8, pf9, pf10, pf11, pf12, pf13, pf14, pf15, pf16, pf17, pf18, pf19, pf20, pf21, pf22, pf23, pf24, pf25, pf26, pf27, pf28, pf29, pg0, pg1, pg2, plm0, hk, q, encC, isNon]
        | some p =>
          simp [fnR, evSs, evW_e, evW_t, evW_s, eE_c, eE_v, eE_g, eE_bin, eE_neg, eE_nt, eE_an, eE_or, eE_cmp, eE_ch, eE_ite, eE_tup, eE_lst, eE_ix, eE_sl, eE_rv, eE_isi, eE_call, eE_bf, eE_mt, eE_lam, eT_nt, eT_an, eT_or, eT_cmp, eT_ch, eT_v, eT_call, eT_isi, eT_ix, eT_c, eT_bf, eS_asg, eS_par, eS_lcs, eS_ret, eS_ex, eS_iff, eS_rai, eS_retN, eS_pass, eS_brk, ↓bind_ok, ↓bind_ex, ↓bind_no, evEs, evO, ixD, seqOf, seqL, atI, ixN, nox, c_lt, c_le, c_gt, c_ge, c_isN, c_isntN, c_isB, c_isntB, c_eq, c_ne, pureD, pureDs, near, dle, dles, deq, deqs, blD, setT, setTs, bfD, binD, setIx, truD, newL, isiD, ifsD, wipeD, pf0, pf1, pf2, pf3, pf4, pf5, pf6, pf7, pf8, pf9, pf10, pf11, pf12, pf13, pf14, pf15, pf16, pf17, pf18, pf19, pf20, pf21, pf22, pf23, pf24, pf25, pf26, pf27, pf28, pf29, pg0, pg1, pg2, plm0, hk, q, encC, isNon, cn]
      · simp [fnR, evSs, evW_e, evW_t, evW_s, eE_c, eE_v, eE_g, eE_bin, eE_neg, eE_nt, eE_an, eE_or, eE_cmp, eE_ch, eE_ite, eE_tup, eE_lst, eE_ix, eE_sl, eE_rv, eE_isi, eE_call, eE_bf, eE_mt, eE_lam, eT_nt, eT_an, eT_or, eT_cmp, eT_ch, eT_v, eT_call, eT_isi, eT_ix, eT_c, eT_bf, eS_asg, eS_par, eS_lcs, eS_ret, eS_ex, eS_iff, eS_rai, eS_retN, eS_pass, eS_brk, ↓bind_ok, ↓bind_ex, ↓bind_no, evEs, evO, ixD, seqOf, seqL, atI, ixN, nox, c_lt, c_le, c_gt, c_ge, c_isN, c_isntN, c_isB, c_isntB, c_eq, c_ne, pureD, pureDs, near, dle, dles, deq, deqs, blD, setT, setTs, bfD, binD, setIx, truD, newL, isiD, ifsD, wipeD, pf0, pf1, pf2, pf3, pf4, pf5, pf6, pf7, pf8, pf9, pf10, pf11, pf12, pf13, pf14, pf15, pf16, pf17, pf18, pf19, pf20, pf21, pf22, pf23, pf24, pf25, pf26, pf27, pf28, pf29, pg0, pg1, pg2, plm0]
    · rw [enum_map, List.length_map, List.length_range, List.length_map]
      simp [sizeMax]
      omega
  have s3 : stS P (evW P) (b + 3) (leftBody.getD 2 .pass) [some (.ref 0), v1, some (.tup (rs.map encW)), some (.ref (r.length + 1)), v4, some (.lst ((refs (adrs rs) L).map natD)), y6, x7, x8] (cupD c :: (r ++ [L.map encC])) = .ok (.nx [some (.ref 0), v1, some (.tup (rs.map encW)), some (.ref (r.length + 1)), v4, some (.lst ((refs (adrs rs) L).map natD)), y6, some (.lst (fr.map natD)), x8]) (cupD c :: (r ++ [L.map encC])) := by
    show stS P (evW P) (b + 3) (.lcs 7 _) _ _ = _
    rw [eS_lcs, e3, bind_ok]
    rfl
  have frm : ∀ a, a ∈ fr ↔ Free (adrs rs) L a := by
    intro a
    rw [List.mem_filter, List.mem_range]
    constructor
    · rintro ⟨h1, h2⟩
      simp at h2
      refine ⟨?_, h2.2⟩
      cases q : L[a] with
      | none => simp [h1, q] at h2
      | some c => exact ⟨c, by rw [List.getElem?_eq_getElem h1, q]⟩
    · rintro ⟨⟨d, hd⟩, h2⟩
      exact ⟨(List.getElem?_eq_some_iff.mp hd).1, by simp [hd, h2]⟩
  by_cases hfr : fr = []
  · refine ⟨c, L, some (.lst ((refs (adrs rs) L).map natD)), y6, some (.lst (fr.map natD)), x8, ?_, .inl ⟨fun a ha => ?_, rfl⟩⟩
    · have s4 : stS P (evW P) (b + 3) (leftBody.getD 3 .pass) [some (.ref 0), v1, some (.tup (rs.map encW)), some (.ref (r.length + 1)), v4, some (.lst ((refs (adrs rs) L).map natD)), y6, some (.lst (fr.map natD)), x8] (cupD c :: (r ++ [L.map encC])) = .ok (.nx [some (.ref 0), v1, some (.tup (rs.map encW)), some (.ref (r.length + 1)), v4, some (.lst ((refs (adrs rs) L).map natD)), y6, some (.lst (fr.map natD)), x8]) (cupD c :: (r ++ [L.map encC])) := by
        rw [hfr]
        simp [fnR, evSs, evW_e, evW_t, evW_s, eE_c, eE_v, eE_g, eE_bin, eE_neg, eE_nt, eE_an, eE_or, eE_cmp, eE_ch, eE_ite, eE_tup, eE_lst, eE_ix, eE_sl, eE_rv, eE_isi, eE_call, eE_bf, eE_mt, eE_lam, eT_nt, eT_an, eT_or, eT_cmp, eT_ch, eT_v, eT_call, eT_isi, eT_ix, eT_c, eT_bf, eS_asg, eS_par, eS_lcs, eS_ret, eS_ex, eS_iff, eS_rai, eS_retN, eS_pass, eS_brk, ↓bind_ok, ↓bind_ex, ↓bind_no, evEs, evO, ixD, seqOf, seqL, atI, ixN, nox, c_lt, c_le, c_gt, c_ge, c_isN, c_isntN, c_isB, c_isntB, c_eq, c_ne, pureD, pureDs, near, dle, dles, deq, deqs, blD, setT, setTs, bfD, binD, setIx, truD, newL, isiD, ifsD, wipeD, pf0, pf1, pf2, pf3, pf4, pf5, pf6, pf7, pf8, pf9, pf10, pf11, pf12, pf13, pf14, pf15, pf16, pf17, pf18, pf19, pf20, pf21, pf22, pf23, pf24, pf25, pf26, pf27, pf28, pf29, pg0, pg1, pg2, plm0, leftBody, sizeMax]
      show evSs ((evW P).s (b + 3)) [leftBody.getD 0 .pass, leftBody.getD 1 .pass, leftBody.getD 2 .pass, leftBody.getD 3 .pass] _ _ = _
      have s1' : stS P (evW P) (b + 3) (leftBody.getD 0 .pass) [some (.ref 0), v1, some (.tup (rs.map encW)), some (.ref (r.length + 1)), v4, x5, x6, x7, x8] (cupD c :: (r ++ [L.map encC])) = _ := s1
      simp only [evSs, evW_s, s1', s2, s3, s4, bind_ok]
    · have := (frm a).mpr ha
      rw [hfr] at this
      cases this
  · have lf : fr.length < 1000 := Nat.lt_of_le_of_lt (List.length_filter_le ..) (by rw [List.length_range]; omega)
    obtain ⟨y, hy, c2, e4⟩ := some_ (b := b + 2) (by omega) c (r ++ [L.map encC]) (fr.map natD) (by simpa using hfr) (by simpa using lf)
    obtain ⟨a, haf, rfl⟩ := List.mem_map.mp hy
    have fa := (frm a).mp haf
    obtain ⟨⟨d, hd⟩, _⟩ := fa
    have hal : a < L.length := (List.getElem?_eq_some_iff.mp hd).1
    have hal' : (a : Int) < L.length := by omega
    obtain ⟨B, hB⟩ : ∃ B, B = (L.set a none).map encC := ⟨_, rfl⟩
    have e2' : (L.map encC).set a .non = B := by
      rw [hB, List.map_set]
      rfl
    refine ⟨c2, L.set a none, some (.lst ((refs (adrs rs) L).map natD)), y6, some (.lst (fr.map natD)), x8, ?_, .inr ⟨a, (frm a).mp haf, rfl⟩⟩
    · rw [← hB]
      obtain ⟨f0, ft, hf0⟩ : ∃ f0 ft, fr = f0 :: ft := by
        cases q : fr with
        | nil => exact absurd q hfr
        | cons x t => exact ⟨x, t, rfl⟩
      have s4 : stS P (evW P) (b + 3) (leftBody.getD 3 .pass) [some (.ref 0), v1, some (.tup (rs.map encW)), some (.ref (r.length + 1)), v4, some (.lst ((refs (adrs rs) L).map natD)), y6, some (.lst (fr.map natD)), x8] (cupD c :: (r ++ [L.map encC])) = .ok (.nx [some (.ref 0), v1, some (.tup (rs.map encW)), some (.ref (r.length + 1)), v4, some (.lst ((refs (adrs rs) L).map natD)), y6, some (.lst (fr.map natD)), x8]) (cupD c2 :: (r ++ [B])) := by
        rw [hf0] at e4 ⊢
        simp only [List.map_cons] at e4 ⊢
        simp only [natD] at e4
        simp [fnR, evSs, evW_e, evW_t, evW_s, eE_c, eE_v, eE_g, eE_bin, eE_neg, eE_nt, eE_an, eE_or, eE_cmp, eE_ch, eE_ite, eE_tup, eE_lst, eE_ix, eE_sl, eE_rv, eE_isi, eE_call, eE_bf, eE_mt, eE_lam, eT_nt, eT_an, eT_or, eT_cmp, eT_ch, eT_v, eT_call, eT_isi, eT_ix, eT_c, eT_bf, eS_asg, eS_par, eS_lcs, eS_ret, eS_ex, eS_iff, eS_rai, eS_retN, eS_pass, eS_brk, ↓bind_ok, ↓bind_ex, ↓bind_no, evEs, evO, ixD, seqOf, seqL, atI, ixN, nox, c_lt, c_le, c_gt, c_ge, c_isN, c_isntN, c_isB, c_isntB, c_eq, c_ne, pureD, pureDs, near, dle, dles, deq, deqs, blD, setT, setTs, bfD, binD, setIx, truD, newL, isiD, ifsD, wipeD, pf0, pf1, pf2, pf3, pf4, pf5, pf6, pf7, pf8, pf9, pf10, pf11, pf12, pf13, pf14, pf15, pf16, pf17, pf18, pf19, pf20, pf21, pf22, pf23, pf24, pf25, pf26, pf27, pf28, pf29, pg0, pg1, pg2, plm0, leftBody, pure_nat, pures_nat, e4, hal, hal', e2', sizeMax, natD]
      show evSs ((evW P).s (b + 3)) [leftBody.getD 0 .pass, leftBody.getD 1 .pass, leftBody.getD 2 .pass, leftBody.getD 3 .pass] _ _ = _
      have s1' : stS P (evW P) (b + 3) (leftBody.getD 0 .pass) [some (.ref 0), v1, some (.tup (rs.map encW)), some (.ref (r.length + 1)), v4, x5, x6, x7, x8] (cupD c :: (r ++ [L.map encC])) = _ := s1
      simp only [evSs, evW_s, s1', s2, s3, s4, bind_ok]

def nAlive (L : List Ce) : Nat := L.countP fun c => c.isSome
theorem nAlive_set {L : List Ce} {a : Nat} (h : Alive L a) : nAlive (L.set a none) + 1 = nAlive L := by
  obtain ⟨c, hc⟩ := h
  unfold nAlive
  induction L generalizing a with
  | nil => simp at hc
  | cons x r ih =>
    cases a with
    | zero =>
      simp at hc
      subst hc
      simp
    | succ a =>
      have := ih (a := a) (by simpa using hc)
      simp only [List.set_cons_succ, List.countP_cons]
      omega
theorem nAlive_zero {R : List Nat} {L : List Ce} (h : nAlive L = 0) : Stable R L := by
  rintro a ⟨⟨c, hc⟩, _⟩
  have := List.countP_eq_zero.mp h _ (List.mem_of_getElem? hc)
  simp at this
theorem left_for {b : Nat} (hb : 3 ≤ b) (r : Sto) {h : List Ce} (o : HpOk h) {rs : List Wd} (hr3 : rs.length ≤ 12) {v1 : Option D} : ∀ (ds : List D) (c : Int × Int) (L : List Ce) (x4 x5 x6 x7 x8 : Option D), Lets (adrs rs) h L → (nAlive L ≤ ds.length ∨ Stable (adrs rs) L) →
    ∃ c' L' y4 y5 y6 y7 y8, forL none (fun d sl S => setT ((evW P).e b) 9 (.nm 4) d sl S) (fun sl S => evSs ((evW P).s b) leftBody sl S) ds [some (.ref 0), v1, some (.tup (rs.map encW)), some (.ref (r.length + 1)), x4, x5, x6, x7, x8] (cupD c :: (r ++ [L.map encC])) = .ok (.nx [some (.ref 0), v1, some (.tup (rs.map encW)), some (.ref (r.length + 1)), y4, y5, y6, y7, y8]) (cupD c' :: (r ++ [L'.map encC])) ∧ Lets (adrs rs) h L' ∧ Stable (adrs rs) L'
  | [], c, L, x4, x5, x6, x7, x8, hl, hs => by
    refine ⟨c, L, x4, x5, x6, x7, x8, by simp [forL, gdOk], hl, ?_⟩
    rcases hs with z | z
    · exact nAlive_zero (by simpa using z)
    · exact z
  | d :: t, c, L, x4, x5, x6, x7, x8, hl, hs => by
    obtain ⟨c1, L1, y5, y6, y7, y8, e1, hL1⟩ := left_turn hb c r (hl.ok o) hr3 (h := h) (v1 := v1) (v4 := some d) (x5 := x5) (x6 := x6) (x7 := x7) (x8 := x8)
    have step : Lets (adrs rs) h L1 ∧ (nAlive L1 ≤ t.length ∨ Stable (adrs rs) L1) := by
      rcases hL1 with ⟨z, rfl⟩ | ⟨a, fa, rfl⟩
      · exact ⟨hl, .inr z⟩
      · refine ⟨hl.cons fa, ?_⟩
        rcases hs with z | z
        · have := nAlive_set fa.1
          simp only [List.length_cons] at z
          exact .inl (by omega)
        · exact absurd fa (z a)
    obtain ⟨c2, L2, z4, z5, z6, z7, z8, e2, l2, s2⟩ := left_for hb r o hr3 (v1 := v1) t c1 L1 (some d) y5 y6 y7 y8 step.1 step.2
    refine ⟨c2, L2, z4, z5, z6, z7, z8, ?_, l2, s2⟩
    unfold forL
    rw [if_pos (show gdOk _ none = true from rfl)]
    rw [show setT ((evW P).e b) 9 (.nm 4) d [some (.ref 0), v1, some (.tup (rs.map encW)), some (.ref (r.length + 1)), x4, x5, x6, x7, x8] (cupD c :: (r ++ [L.map encC])) = .ok [some (.ref 0), v1, some (.tup (rs.map encW)), some (.ref (r.length + 1)), some d, x5, x6, x7, x8] (cupD c :: (r ++ [L.map encC])) from rfl]
    simp only [bind_ok]
    rw [e1]
    simp only [bind_ok]
    exact e2
theorem law_left {b : Nat} (hb : 3 ≤ b) (c : Int × Int) (r : Sto) {h : List Ce} (o : HpOk h) {rs : List Wd} (hr3 : rs.length ≤ 12) : ∃ c' L r', fnD (evW P) b f12 [.ref 0, encH h, .tup (rs.map encW)] (cupD c :: r) = .ok (encH L) (cupD c' :: r') ∧ Lets (adrs rs) h L ∧ Stable (adrs rs) L := by
  have hl12 := o.len
  have l62 := lim62_small (i := (h.length : Int)) (by omega) (by omega)
  obtain ⟨c', L, y4, y5, y6, y7, y8, e, l1, l2⟩ := left_for hb r o hr3 (v1 := some (encH h)) (rngI 0 h.length) c h none none none none none .nil (.inl (by
    rw [rngI_map, List.length_map, List.length_range]
    exact List.countP_le_length))
  refine ⟨c', L, r ++ [L.map encC], ?_, l1, l2⟩
  have s1 : stS P (evW P) b (.for_ (.nm 4) (.rng1 (.bf .len false [(.v 1)])) leftBody) [some (.ref 0), some (.tup (h.map encC)), some (.tup (rs.map encW)), some (.ref (r.length + 1)), none, none, none, none, none] (cupD c :: (r ++ [h.map encC])) = .ok (.nx [some (.ref 0), some (.tup (h.map encC)), some (.tup (rs.map encW)), some (.ref (r.length + 1)), y4, y5, y6, y7, y8]) (cupD c' :: (r ++ [L.map encC])) := by
    rw [eS_for, it_rng1 (n := h.length) (S1 := cupD c :: (r ++ [h.map encC])) (by simp [fnR, evSs, evW_e, evW_t, evW_s, eE_c, eE_v, eE_g, eE_bin, eE_neg, eE_nt, eE_an, eE_or, eE_cmp, eE_ch, eE_ite, eE_tup, eE_lst, eE_ix, eE_sl, eE_rv, eE_isi, eE_call, eE_bf, eE_mt, eE_lam, eT_nt, eT_an, eT_or, eT_cmp, eT_ch, eT_v, eT_call, eT_isi, eT_ix, eT_c, eT_bf, eS_asg, eS_par, eS_lcs, eS_ret, eS_ex, eS_iff, eS_rai, eS_retN, eS_pass, eS_brk, ↓bind_ok, ↓bind_ex, ↓bind_no, evEs, evO, ixD, seqOf, seqL, atI, ixN, nox, c_lt, c_le, c_gt, c_ge, c_isN, c_isntN, c_isB, c_isntB, c_eq, c_ne, pureD, pureDs, near, dle, dles, deq, deqs, blD, setT, setTs, bfD, binD, setIx, truD, newL, isiD, ifsD, wipeD, pf0, pf1, pf2, pf3, pf4, pf5, pf6, pf7, pf8, pf9, pf10, pf11, pf12, pf13, pf14, pf15, pf16, pf17, pf18, pf19, pf20, pf21, pf22, pf23, pf24, pf25, pf26, pf27, pf28, pf29, pg0, pg1, pg2, plm0, lenD]) l62, bind_ok, Int.toNat_natCast]
    exact e
  rw [fnD_run rfl]
  simp [fnR, evSs, evW_e, evW_t, evW_s, eE_c, eE_v, eE_g, eE_bin, eE_neg, eE_nt, eE_an, eE_or, eE_cmp, eE_ch, eE_ite, eE_tup, eE_lst, eE_ix, eE_sl, eE_rv, eE_isi, eE_call, eE_bf, eE_mt, eE_lam, eT_nt, eT_an, eT_or, eT_cmp, eT_ch, eT_v, eT_call, eT_isi, eT_ix, eT_c, eT_bf, eS_asg, eS_par, eS_lcs, eS_ret, eS_ex, eS_iff, eS_rai, eS_retN, eS_pass, eS_brk, ↓bind_ok, ↓bind_ex, ↓bind_no, evEs, evO, ixD, seqOf, seqL, atI, ixN, nox, c_lt, c_le, c_gt, c_ge, c_isN, c_isntN, c_isB, c_isntB, c_eq, c_ne, pureD, pureDs, near, dle, dles, deq, deqs, blD, setT, setTs, bfD, binD, setIx, truD, newL, isiD, ifsD, wipeD, pf0, pf1, pf2, pf3, pf4, pf5, pf6, pf7, pf8, pf9, pf10, pf11, pf12, pf13, pf14, pf15, pf16, pf17, pf18, pf19, pf20, pf21, pf22, pf23, pf24, pf25, pf26, pf27, pf28, pf29, pg0, pg1, pg2, plm0, f12, encH, listD, seqF, s1, tupleD, sizeMax]
theorem bfs_mem {ld : Nat → List Nat} {rs : List Nat} {n : Nat} {F : List Nat} (e : Bfs ld rs n F) (hr : ∀ a ∈ rs, a ∈ F) (hs : ∀ a ∈ F, ∀ c ∈ ld a, c ∈ F) (a : Nat) : a ∈ F ↔ Reach ld rs a := by
  refine ⟨e.rl a, fun h => ?_⟩
  induction h with
  | root h => exact hr _ h
  | step _ hc ih => exact hs _ ih _ hc
/-- whether one comes back: any way of telling it -/
theorem law_rung {b : Nat} (hb : 2 ≤ b) {h : List Ce} (o : HpOk h) {a : Nat} (v : Valid h a) (S : Sto) : ∃ k : Bool, fnD (evW P) b f14 [encH h, natD a] S = .ok (.bl k) S ∧ (k = true ↔ Reach (led h) (led h a) a) := by
  obtain ⟨b, rfl⟩ := off hb
  obtain ⟨⟨l, ws⟩, hc⟩ := v
  obtain ⟨hlt, hg⟩ := List.getElem?_eq_some_iff.mp hc
  have hlt' : (a : Int) < h.length := by omega
  obtain ⟨hw, hw2⟩ := o.wds l ws (List.mem_of_getElem? hc)
  obtain ⟨F, e, d, m, s⟩ := law_reached (b := b + 1) (by omega) o (rs := ws) ⟨by omega, hw2⟩ S
  have el : led h a = adrs ws := by simp [led, hc]
  refine ⟨decide (a ∈ F), ?_, ?_⟩
  · have ci : cmpD .isin (natD a) (.lst (F.map natD)) S = .ok (.bl (decide (a ∈ F))) S := by
      have : inD (natD a) (.lst (F.map natD)) S = some (decide (a ∈ F)) := by
        show (if dle 100 (natD a) && pureD (natD a) then match seqOf S (.lst (F.map natD)) with | some ys => if pureDs ys then some (memD (natD a) ys) else none | none => none else none) = _
        simp [natD, dle, pureD, seqOf]
        rw [show (D.int (a : Int)) = natD a from rfl, memD_nat]
        exact ⟨natD_pures F, rfl⟩
      simp [cmpD, cmpB, this]
    simp only [natD] at ci
    rw [fnD_run rfl]
    simp only [encH] at e
    simp [fnR, evSs, evW_e, evW_t, evW_s, eE_c, eE_v, eE_g, eE_bin, eE_neg, eE_nt, eE_an, eE_or, eE_cmp, eE_ch, eE_ite, eE_tup, eE_lst, eE_ix, eE_sl, eE_rv, eE_isi, eE_call, eE_bf, eE_mt, eE_lam, eT_nt, eT_an, eT_or, eT_cmp, eT_ch, eT_v, eT_call, eT_isi, eT_ix, eT_c, eT_bf, eS_asg, eS_par, eS_lcs, eS_ret, eS_ex, eS_iff, eS_rai, eS_retN, eS_pass, eS_brk, ↓bind_ok, ↓bind_ex, ↓bind_no, evEs, evO, ixD, seqOf, seqL, atI, ixN, nox, c_lt, c_le, c_gt, c_ge, c_isN, c_isntN, c_isB, c_isntB, c_eq, c_ne, pureD, pureDs, near, dle, dles, deq, deqs, blD, setT, setTs, bfD, binD, setIx, truD, newL, isiD, ifsD, wipeD, pf0, pf1, pf2, pf3, pf4, pf5, pf6, pf7, pf8, pf9, pf10, pf11, pf12, pf13, pf14, pf15, pf16, pf17, pf18, pf19, pf20, pf21, pf22, pf23, pf24, pf25, pf26, pf27, pf28, pf29, pg0, pg1, pg2, plm0, f14, encH, natD, hlt, hlt', hg, encC, e, ci]
  · rw [el]
    simp only [decide_eq_true_eq]
    exact bfs_mem d m s a
/-- the words that lead down -/
def keepW (i : Nat) : Wd → Bool
  | .adr a => decide (a < i)
  | _ => true
def downC (i : Nat) : Ce → Ce
  | none => none
  | some (l, ws) => some (l, ws.filter (keepW i))
def downH (h : List Ce) : List Ce := (List.range h.length).map fun i => downC i (h[i]?.getD none)
theorem downH_len {h : List Ce} : (downH h).length = h.length := by simp [downH]
theorem downH_at {h : List Ce} {i : Nat} (hi : i < h.length) : (downH h)[i]? = some (downC i h[i]) := by simp [downH, hi]
theorem downH_ok {h : List Ce} (o : HpOk h) : HpOk (downH h) := by
  refine ⟨by rw [downH_len]; exact o.len, fun l ws hm => ?_⟩
  obtain ⟨i, hi, hq⟩ := List.mem_iff_getElem.mp hm
  have hi' : i < h.length := by rw [← downH_len (h := h)]; exact hi
  have hq2 : (downH h)[i]? = some (some (l, ws)) := by rw [List.getElem?_eq_getElem hi, hq]
  rw [downH_at hi'] at hq2
  cases q : h[i] with
  | none => rw [q] at hq2; cases hq2
  | some p =>
    obtain ⟨l', ws'⟩ := p
    rw [q] at hq2
    simp [downC] at hq2
    obtain ⟨rfl, rfl⟩ := hq2
    obtain ⟨h1, h2⟩ := o.wds l' ws' (q ▸ List.getElem_mem hi')
    refine ⟨Nat.le_trans (List.length_filter_le ..) h1, fun x hx => ?_⟩
    have := h2 x (List.mem_filter.mp hx).1
    cases x with
    | non => trivial
    | num i => exact this
    | adr a =>
      obtain ⟨⟨l2, w2⟩, hc⟩ := this
      obtain ⟨ha, hc⟩ := List.getElem?_eq_some_iff.mp hc
      exact ⟨_, by rw [downH_at ha, hc]; rfl⟩
theorem downH_rt {h : List Ce} {rs : List Wd} (r : RtOk h rs) : RtOk (downH h) rs := by
  refine ⟨r.len, fun x hx => ?_⟩
  have := r.wds x hx
  cases x with
  | non => trivial
  | num i => exact this
  | adr a =>
    obtain ⟨⟨l2, w2⟩, hc⟩ := this
    obtain ⟨ha, hc⟩ := List.getElem?_eq_some_iff.mp hc
    exact ⟨_, by rw [downH_at ha, hc]; rfl⟩
theorem adr_mem {a : Nat} : ∀ {ws : List Wd}, a ∈ adrs ws → Wd.adr a ∈ ws := adrs_mem
theorem downH_led {h : List Ce} (x c : Nat) (hc : c ∈ led (downH h) x) : c < x := by
  by_cases hx : x < h.length
  · unfold led at hc
    rw [downH_at hx] at hc
    cases q : h[x] with
    | none => rw [q] at hc; cases hc
    | some p =>
      obtain ⟨l, ws⟩ := p
      rw [q] at hc
      have := (List.mem_filter.mp (adrs_mem (ws := ws.filter (keepW x)) hc)).2
      simpa [keepW] using this
  · unfold led at hc
    rw [List.getElem?_eq_none (by rw [downH_len]; omega)] at hc
    cases hc
theorem downH_ne {h : List Ce} (hn : h ≠ []) : downH h ≠ [] := by
  intro z
  have := downH_len (h := h)
  rw [z] at this
  exact hn (List.length_eq_zero_iff.mp this.symm)
abbrev downBody : List Nv.S := [.asg (.nm 4) (.ite (.cmp .isntN (.v 3) (.c .non)) (.ix (.v 3) (.c (.int 1))) (.tup [])),
    .asg (.nm 1) (.bin .add false (.v 1) (.tup [(.ite (.cmp .isN (.v 3) (.c .non)) (.c .non) (.tup [(.ix (.v 3) (.c (.int 0))), (.bf .tuple false [(.lc false (.v 5) (.nm 5) [5] (.seq (.v 4)) (some (.or (.nt (.isi (.v 5) .int)) (.cmp .lt (.v 5) (.v 2)))))])]))]))]
theorem down_turn {b : Nat} {S : Sto} {v0 x4 x5 : Option D} (acc : List D) (i : Nat) (c : Ce) (hz : acc.length ≤ 100) (hw : ∀ l ws, c = some (l, ws) → ws.length ≤ 3) : ∃ y4, evSs ((evW P).s b) downBody [v0, some (.tup acc), some (natD i), some (encC c), x4, x5] S = .ok (.nx [v0, some (.tup (acc ++ [encC (downC i c)])), some (natD i), some (encC c), y4, x5]) S := by
  have hz2 : acc.length + 1 ≤ 16777216 := by omega
  cases c with
  | none =>
    refine ⟨some (.tup []), ?_⟩
    simp [fnR, evSs, evW_e, evW_t, evW_s, eE_c, eE_v, eE_g, eE_bin, eE_neg, eE_nt, eE_an, eE_or, eE_cmp, eE_ch, eE_ite, eE_tup, eE_lst, eE_ix, eE_sl, eE_rv, eE_isi, eE_call, eE_bf, eE_mt, eE_lam, eT_nt, eT_an, eT_or, eT_cmp, eT_ch, eT_v, eT_call, eT_isi, eT_ix, eT_c, eT_bf, eS_asg, eS_par, eS_lcs, eS_ret, eS_ex, eS_iff, eS_rai, eS_retN, eS_pass, eS_brk, ↓bind_ok, ↓bind_ex, ↓bind_no, evEs, evO, ixD, seqOf, seqL, atI, ixN, nox, c_lt, c_le, c_gt, c_ge, c_isN, c_isntN, c_isB, c_isntB, c_eq, c_ne, pureD, pureDs, near, dle, dles, deq, deqs, blD, setT, setTs, bfD, binD, setIx, truD, newL, isiD, ifsD, wipeD, pf0, pf1, pf2, pf3, pf4, pf5, pf6, pf7, pf8, pf9, pf10, pf11, pf12, pf13, pf14, pf15, pf16, pf17, pf18, pf19, pf20, pf21, pf22, pf23, pf24, pf25, pf26, pf27, pf28, pf29, pg0, pg1, pg2, plm0, downBody, encC, isNon, downC, addD, sizeMax, hz2]
  | some p =>
    obtain ⟨l, ws⟩ := p
    have hw3 := hw l ws rfl
    have e : stE P (evW P) b (.lc false (.v 5) (.nm 5) [5] (.seq (.v 4)) (some (.or (.nt (.isi (.v 5) .int)) (.cmp .lt (.v 5) (.v 2))))) [v0, some (.tup acc), some (natD i), some (.tup [.tup [.str l], .tup (ws.map encW)]), some (.tup (ws.map encW)), x5] S = .ok (.lst ((ws.filter (keepW i)).map encW)) S := by
      rw [eE_lc, it_tup (xs := ws.map encW) (S1 := S) (by simp [fnR, evSs, evW_e, evW_t, evW_s, eE_c, eE_v, eE_g, eE_bin, eE_neg, eE_nt, eE_an, eE_or, eE_cmp, eE_ch, eE_ite, eE_tup, eE_lst, eE_ix, eE_sl, eE_rv, eE_isi, eE_call, eE_bf, eE_mt, eE_lam, eT_nt, eT_an, eT_or, eT_cmp, eT_ch, eT_v, eT_call, eT_isi, eT_ix, eT_c, eT_bf, eS_asg, eS_par, eS_lcs, eS_ret, eS_ex, eS_iff, eS_rai, eS_retN, eS_pass, eS_brk, ↓bind_ok, ↓bind_ex, ↓bind_no, evEs, evO, ixD, seqOf, seqL, atI, ixN, nox, c_lt, c_le, c_gt, c_ge, c_isN, c_isntN, c_isB, c_isntB, c_eq, c_ne, pureD, pureDs, near, dle, dles, deq, deqs, blD, setT, setTs, bfD, binD, setIx, truD, newL, isiD, ifsD, wipeD, pf0, pf1, pf2, pf3, pf4, pf5, pf6, pf7, pf8, pf9, pf10, pf11, pf12, pf13, pf14, pf15, pf16, pf17, pf18, pf19, pf20, pf21, pf22, pf23, pf24, pf25, pf26, pf27, pf28, pf29, pg0, pg1, pg2, plm0])]
      simp only [bind_ok]
      rw [lcL_pure (sl := fun d => [v0, some (.tup acc), some (natD i), some (.tup [.tup [.str l], .tup (ws.map encW)]), some (.tup (ws.map encW)), some d]) (p := fun d => match d with | .int a => decide (a < i) | _ => true) (f := fun d => d) rfl]
      · simp only [nox, newL, bind_ok, List.nil_append, List.map_id', List.filter_map]
        congr 3
        apply List.filter_congr
        intro w _
        cases w <;> simp [encW, keepW]
      · intro d hd
        obtain ⟨w, _, rfl⟩ := List.mem_map.mp hd
        refine ⟨rfl, ?_, fun _ => by simp [fnR, evSs, evW_e, evW_t, evW_s, eE_c, eE_v, eE_g, eE_bin, eE_neg, eE_nt, eE_an, eE_or, eE_cmp, eE_ch, eE_ite, eE_tup, eE_lst, eE_ix, eE_sl, eE_rv, eE_isi, eE_call, eE_bf, eE_mt, eE_lam, eT_nt, eT_an, eT_or, eT_cmp, eT_ch, eT_v, eT_call, eT_isi, eT_ix, eT_c, eT_bf, eS_asg, eS_par, eS_lcs, eS_ret, eS_ex, eS_iff, eS_rai, eS_retN, eS_pass, eS_brk, ↓bind_ok, ↓bind_ex, ↓bind_no, evEs, evO, ixD, seqOf, seqL, atI, ixN, nox, c_lt, c_le, c_gt, c_ge, c_isN, c_isntN, c_isB, c_isntB, c_eq, c_ne, pureD, pureDs, near, dle, dles, deq, deqs, blD, setT, setTs, bfD, binD, setIx, truD, newL, isiD, ifsD, wipeD, pf0, pf1, pf2, pf3, pf4, pf5, pf6, pf7, pf8, pf9, pf10, pf11, pf12, pf13, pf14, pf15, pf16, pf17, pf18, pf19, pf20, pf21, pf22, pf23, pf24, pf25, pf26, pf27, pf28, pf29, pg0, pg1, pg2, plm0]⟩
        cases w <;> simp [fnR, evSs, evW_e, evW_t, evW_s, eE_c, eE_v, eE_g, eE_bin, eE_neg, eE_nt, eE_an, eE_or, eE_cmp, eE_ch, eE_ite, eE_tup, eE_lst, eE_ix, eE_sl, eE_rv, eE_isi, eE_call, eE_bf, eE_mt, eE_lam, eT_nt, eT_an, eT_or, eT_cmp, eT_ch, eT_v, eT_call, eT_isi, eT_ix, eT_c, eT_bf, eS_asg, eS_par, eS_lcs, eS_ret, eS_ex, eS_iff, eS_rai, eS_retN, eS_pass, eS_brk, ↓bind_ok, ↓bind_ex, ↓bind_no, evEs, evO, ixD, seqOf, seqL, atI, ixN, nox, c_lt, c_le, c_gt, c_ge, c_isN, c_isntN, c_isB, c_isntB, c_eq, c_ne, pureD, pureDs, near, dle, dles, deq, deqs, blD, setT, setTs, bfD, binD, setIx, truD, newL, isiD, ifsD, wipeD, pf0, pf1, pf2, pf3, pf4, pf5, pf6, pf7, pf8, pf9, pf10, pf11, pf12, pf13, pf14, pf15, pf16, pf17, pf18, pf19, pf20, pf21, pf22, pf23, pf24, pf25, pf26, pf27, pf28, pf29, pg0, pg1, pg2, plm0, encW, natD]
      · simp [sizeMax]
        omega
    simp only [natD] at e
    refine ⟨some (.tup (ws.map encW)), ?_⟩
    simp [fnR, evSs, evW_e, evW_t, evW_s, eE_c, eE_v, eE_g, eE_bin, eE_neg, eE_nt, eE_an, eE_or, eE_cmp, eE_ch, eE_ite, eE_tup, eE_lst, eE_ix, eE_sl, eE_rv, eE_isi, eE_call, eE_bf, eE_mt, eE_lam, eT_nt, eT_an, eT_or, eT_cmp, eT_ch, eT_v, eT_call, eT_isi, eT_ix, eT_c, eT_bf, eS_asg, eS_par, eS_lcs, eS_ret, eS_ex, eS_iff, eS_rai, eS_retN, eS_pass, eS_brk, ↓bind_ok, ↓bind_ex, ↓bind_no, evEs, evO, ixD, seqOf, seqL, atI, ixN, nox, c_lt, c_le, c_gt, c_ge, c_isN, c_isntN, c_isB, c_isntB, c_eq, c_ne, pureD, pureDs, near, dle, dles, deq, deqs, blD, setT, setTs, bfD, binD, setIx, truD, newL, isiD, ifsD, wipeD, pf0, pf1, pf2, pf3, pf4, pf5, pf6, pf7, pf8, pf9, pf10, pf11, pf12, pf13, pf14, pf15, pf16, pf17, pf18, pf19, pf20, pf21, pf22, pf23, pf24, pf25, pf26, pf27, pf28, pf29, pg0, pg1, pg2, plm0, downBody, encC, isNon, downC, addD, sizeMax, hz2, natD, e, tupleD]
theorem down_for {b : Nat} {S : Sto} {v0 x5 : Option D} : ∀ (cs : List Ce) (i : Nat) (acc : List D) (x2 x3 x4 : Option D), acc.length + cs.length ≤ 100 → (∀ l ws, some (l, ws) ∈ cs → ws.length ≤ 3) →
    ∃ y2 y3 y4, forL none (fun d sl S => setT ((evW P).e b) 9 (.tp [(.nm 2), (.nm 3)]) d sl S) (fun sl S => evSs ((evW P).s b) downBody sl S) (enumD (i : Int) (cs.map encC)) [v0, some (.tup acc), x2, x3, x4, x5] S = .ok (.nx [v0, some (.tup (acc ++ (List.range cs.length).map fun k => encC (downC (i + k) (cs[k]?.getD none)))), y2, y3, y4, x5]) S
  | [], i, acc, x2, x3, x4, _, _ => ⟨x2, x3, x4, by simp [enumD, forL, gdOk]⟩
  | c :: t, i, acc, x2, x3, x4, hz, hw => by
    simp only [List.length_cons] at hz
    obtain ⟨y4, e1⟩ := down_turn (b := b) (S := S) (v0 := v0) (x4 := x4) (x5 := x5) acc i c (by omega) fun l ws h => hw l ws (h ▸ List.mem_cons_self)
    obtain ⟨z2, z3, z4, e2⟩ := down_for (b := b) (S := S) (v0 := v0) (x5 := x5) t (i + 1) (acc ++ [encC (downC i c)]) (some (natD i)) (some (encC c)) y4 (by simp; omega) fun l ws h => hw l ws (List.mem_cons_of_mem _ h)
    refine ⟨z2, z3, z4, ?_⟩
    have en : enumD (i : Int) ((c :: t).map encC) = .tup [natD i, encC c] :: enumD (((i + 1 : Nat)) : Int) (t.map encC) := rfl
    rw [en]
    unfold forL
    rw [if_pos (show gdOk _ none = true from rfl)]
    rw [show setT ((evW P).e b) 9 (.tp [(.nm 2), (.nm 3)]) (.tup [natD i, encC c]) [v0, some (.tup acc), x2, x3, x4, x5] S = .ok [v0, some (.tup acc), some (natD i), some (encC c), x4, x5] S from rfl]
    simp only [bind_ok]
    rw [e1]
    simp only [bind_ok]
    have q : (List.range t.length).map (fun k => encC (downC (i + 1 + k) (t[k]?.getD none))) = (List.range t.length).map ((fun k => encC (downC (i + k) ((c :: t)[k]?.getD none))) ∘ Nat.succ) := by
      apply List.map_congr_left
      intro k _
      simp [Nat.add_assoc, Nat.add_comm 1 k]
    rw [e2, List.length_cons, List.range_succ_eq_map, List.map_cons, List.map_map, List.append_assoc, q]
    rfl
theorem law_downward {b : Nat} {S : Sto} {h : List Ce} (o : HpOk h) : fnD (evW P) b f4 [encH h] S = .ok (encH (downH h)) S := by
  have hl12 := o.len
  obtain ⟨y2, y3, y4, e⟩ := down_for (b := b) (S := S) (v0 := some (encH h)) (x5 := none) h 0 [] none none none (by simp; omega) fun l ws hm => (o.wds l ws hm).1
  have s1 : stS P (evW P) b (.for_ (.tp [(.nm 2), (.nm 3)]) (.enum (.v 0)) downBody) [some (.tup (h.map encC)), some (.tup []), none, none, none, none] S = .ok (.nx [some (.tup (h.map encC)), some (encH (downH h)), y2, y3, y4, none]) S := by
    rw [eS_for, it_etup (xs := h.map encC) (S1 := S) (by simp [fnR, evSs, evW_e, evW_t, evW_s, eE_c, eE_v, eE_g, eE_bin, eE_neg, eE_nt, eE_an, eE_or, eE_cmp, eE_ch, eE_ite, eE_tup, eE_lst, eE_ix, eE_sl, eE_rv, eE_isi, eE_call, eE_bf, eE_mt, eE_lam, eT_nt, eT_an, eT_or, eT_cmp, eT_ch, eT_v, eT_call, eT_isi, eT_ix, eT_c, eT_bf, eS_asg, eS_par, eS_lcs, eS_ret, eS_ex, eS_iff, eS_rai, eS_retN, eS_pass, eS_brk, ↓bind_ok, ↓bind_ex, ↓bind_no, evEs, evO, ixD, seqOf, seqL, atI, ixN, nox, c_lt, c_le, c_gt, c_ge, c_isN, c_isntN, c_isB, c_isntB, c_eq, c_ne, pureD, pureDs, near, dle, dles, deq, deqs, blD, setT, setTs, bfD, binD, setIx, truD, newL, isiD, ifsD, wipeD, pf0, pf1, pf2, pf3, pf4, pf5, pf6, pf7, pf8, pf9, pf10, pf11, pf12, pf13, pf14, pf15, pf16, pf17, pf18, pf19, pf20, pf21, pf22, pf23, pf24, pf25, pf26, pf27, pf28, pf29, pg0, pg1, pg2, plm0]), bind_ok]
    rw [show encH (downH h) = .tup ([] ++ (List.range h.length).map fun k => encC (downC (0 + k) (h[k]?.getD none))) by simp [encH, downH]]
    exact e
  rw [fnD_run rfl]
  simp only [encH] at s1 ⊢
  simp [fnR, evSs, evW_e, evW_t, evW_s, eE_c, eE_v, eE_g, eE_bin, eE_neg, eE_nt, eE_an, eE_or, eE_cmp, eE_ch, eE_ite, eE_tup, eE_lst, eE_ix, eE_sl, eE_rv, eE_isi, eE_call, eE_bf, eE_mt, eE_lam, eT_nt, eT_an, eT_or, eT_cmp, eT_ch, eT_v, eT_call, eT_isi, eT_ix, eT_c, eT_bf, eS_asg, eS_par, eS_lcs, eS_ret, eS_ex, eS_iff, eS_rai, eS_retN, eS_pass, eS_brk, ↓bind_ok, ↓bind_ex, ↓bind_no, evEs, evO, ixD, seqOf, seqL, atI, ixN, nox, c_lt, c_le, c_gt, c_ge, c_isN, c_isntN, c_isB, c_isntB, c_eq, c_ne, pureD, pureDs, near, dle, dles, deq, deqs, blD, setT, setTs, bfD, binD, setIx, truD, newL, isiD, ifsD, wipeD, pf0, pf1, pf2, pf3, pf4, pf5, pf6, pf7, pf8, pf9, pf10, pf11, pf12, pf13, pf14, pf15, pf16, pf17, pf18, pf19, pf20, pf21, pf22, pf23, pf24, pf25, pf26, pf27, pf28, pf29, pg0, pg1, pg2, plm0, f4, s1, sizeMax]

noncomputable def rungB (h : List Ce) (a : Nat) : Bool := @decide (Reach (led h) (led h a) a) (Classical.propDecidable _)
theorem rungB_iff {h : List Ce} {a : Nat} : rungB h a = true ↔ Reach (led h) (led h a) a := by
  unfold rungB
  exact @decide_eq_true_iff _ (Classical.propDecidable _)
theorem law_rung' {b : Nat} (hb : 2 ≤ b) {h : List Ce} (o : HpOk h) {a : Nat} (v : Valid h a) (S : Sto) : fnD (evW P) b f14 [encH h, natD a] S = .ok (.bl (rungB h a)) S := by
  obtain ⟨k, e, hk⟩ := law_rung hb o v S
  rw [e]
  have : k = rungB h a := by rw [Bool.eq_iff_iff, hk, rungB_iff]
  rw [this]
/-- those of a list for which something holds -/
theorem lc_filter {b j : Nat} {sl : Sl} {S : Sto} {src cond : E} (xs : List Nat) (p : Nat → Bool) (hz : xs.length ≤ 1000) (hj : j < sl.length) (hs : (evW P).e b src sl S = .ok (.lst (xs.map natD)) S) (h : ∀ a ∈ xs, (evW P).t b cond ((sl.set j none).set j (some (natD a))) S = .ok (p a) S) :
    stE P (evW P) b (.lc false (.v j) (.nm j) [j] (.seq src) (some cond)) sl S = .ok (.lst ((xs.filter p).map natD)) S := by
  rw [eE_lc, it_lst hs]
  simp only [bind_ok]
  rw [lcL_pure (sl := fun d => (sl.set j none).set j (some d)) (p := fun d => match d with | .int i => p i.toNat | _ => false) (f := fun d => d) rfl]
  · simp only [nox, newL, bind_ok, List.nil_append, List.map_id', List.filter_map]
    congr 3
  · intro d hd
    obtain ⟨a, ha, rfl⟩ := List.mem_map.mp hd
    refine ⟨rfl, ?_, fun _ => ?_⟩
    · exact h a ha
    · have g : ((sl.set j none).set j (some (natD a)))[j]? = some (some (natD a)) := List.getElem?_set_self (by rw [List.length_set]; exact hj)
      rw [evW_e, eE_v, g]
  · simp [sizeMax]
    omega
theorem stays_congr {L : List Ce} {p q : Nat → Bool} (h : ∀ a, a < L.length → p a = q a) : stays L p = stays L q := by
  apply List.filter_congr
  intro a ha
  rw [h a (List.mem_range.mp ha)]
theorem stays_mem {L : List Ce} {p : Nat → Bool} {a : Nat} : a ∈ stays L p ↔ Alive L a ∧ p a = false := by
  unfold stays
  rw [List.mem_filter, List.mem_range]
  constructor
  · rintro ⟨h1, h2⟩
    simp at h2
    refine ⟨?_, h2.2⟩
    cases q : L[a] with
    | none => simp [h1, q] at h2
    | some c => exact ⟨c, by rw [List.getElem?_eq_getElem h1, q]⟩
  · rintro ⟨⟨d, hd⟩, h2⟩
    exact ⟨(List.getElem?_eq_some_iff.mp hd).1, by simp [hd, h2]⟩
theorem encH_dle (h : List Ce) : dles 99 (h.map encC) = true := by
  have dw : ∀ (n : Nat) (ws : List Wd), dles (n + 1) (ws.map encW) = true := by
    intro n ws
    induction ws with
    | nil => rfl
    | cons w t ih => cases w <;> simp [dles, dle, encW, ih]
  induction h with
  | nil => rfl
  | cons c t ih =>
    cases c with
    | none => simp [dles, dle, encC, ih]
    | some p =>
      obtain ⟨l, ws⟩ := p
      simp [dles, dle, encC, ih, dw 96 ws]
theorem deq_self {h : List Ce} : deqs (h.map encC) (h.map encC) = true := by
  have : ∀ n, (∀ d : D, sizeOf d ≤ n → pureD d = true → deq d d = true) ∧ (∀ ds : List D, sizeOf ds ≤ n → pureDs ds = true → deqs ds ds = true) := by
    intro n
    induction n with
    | zero =>
      refine ⟨fun d hd => ?_, fun ds hd => ?_⟩
      · cases d <;> simp at hd
      · cases ds <;> simp at hd
    | succ n ih =>
      refine ⟨fun d hd hp => ?_, fun ds hd hp => ?_⟩
      · cases d with
        | tup xs =>
          simp at hd
          exact ih.2 xs (by omega) hp
        | lst xs =>
          simp at hd
          exact ih.2 xs (by omega) hp
        | ref n => cases hp
        | frz n => cases hp
        | _ => simp [deq]
      · cases ds with
        | nil => rfl
        | cons x r =>
          simp [pureDs] at hp
          simp at hd
          simp only [deqs, Bool.and_eq_true]
          exact ⟨ih.1 x (by omega) hp.1, ih.2 r (by omega) hp.2⟩
  exact (this _).2 _ (Nat.le_refl _) (encH_pure h)
theorem deq_nats {F : List Nat} : deqs (F.map natD) (F.map natD) = true := by
  induction F with
  | nil => rfl
  | cons a t ih => simp [deqs, ih, natD, deq]
theorem dles_nats {n : Nat} {F : List Nat} : dles n (F.map natD) = true := by
  induction F with
  | nil => rfl
  | cons a t ih => simp [dles, ih, natD, dle]
theorem right {b : Nat} (hb : 8 ≤ b) (c : Int × Int) (r : Sto) {h : List Ce} (o : HpOk h) {rs : List Wd} (ro : RtOk h rs) : ∃ c' r', fnD (evW P) b f5 [.ref 0, encH h, .tup (rs.map encW)] (cupD c :: r) = .ok (.bl true) (cupD c' :: r') := by
  obtain ⟨b, rfl⟩ := off hb
  have hl12 := o.len
  have hr12 := ro.len
  have vlt : ∀ {L : List Ce} {a : Nat}, Alive L a → a < L.length := fun ⟨c, hc⟩ => (List.getElem?_eq_some_iff.mp hc).1
  obtain ⟨c', L, r1, e1, l1, st1⟩ := law_left (b := b + 7) (by omega) c r o hr12
  have hLl := l1.sub.len
  have oL := l1.ok o
  obtain ⟨F, e2, d, m, s⟩ := law_reached (b := b + 7) (by omega) o ro (cupD c' :: r1)
  have hF : F.length ≤ 12 := Nat.le_trans (nodup_le h.length F d.nd d.val) hl12
  have memF := bfs_mem d m s
  have rAl : ∀ a ∈ adrs rs, Alive h a := fun a ha => ro.wds _ (adrs_mem ha)
  have lAl : ∀ a, ∀ c ∈ led h a, Alive h c := fun a c hc => (led_ok o).2 c hc
  have alF : ∀ a ∈ F, Alive L a := fun a ha => l1.reach rAl lAl a ((memF a).mp ha)
  let St : List Nat := stays L fun a => decide (a ∈ F)
  have memSt : ∀ a, a ∈ St ↔ Alive L a ∧ ¬ Reach (led h) (adrs rs) a := by
    intro a
    rw [stays_mem]
    simp only [decide_eq_false_iff_not, memF]
  have lSt : St.length ≤ 12 := Nat.le_trans (List.length_filter_le ..) (by rw [List.length_range]; omega)
  have S1 : Sto := cupD c' :: r1
  -- the slots
  have s0 : stS P (evW P) (b + 8) (f5.body.getD 0 .pass) [some (.ref 0), some (encH h), some (.tup (rs.map encW)), none, none, none, none, none, none, none] (cupD c :: r) = .ok (.nx [some (.ref 0), some (encH h), some (.tup (rs.map encW)), some (encH L), some (.lst (F.map natD)), none, none, none, none, none]) (cupD c' :: r1) := by
    simp [fnR, evSs, evW_e, evW_t, evW_s, eE_c, eE_v, eE_g, eE_bin, eE_neg, eE_nt, eE_an, eE_or, eE_cmp, eE_ch, eE_ite, eE_tup, eE_lst, eE_ix, eE_sl, eE_rv, eE_isi, eE_call, eE_bf, eE_mt, eE_lam, eT_nt, eT_an, eT_or, eT_cmp, eT_ch, eT_v, eT_call, eT_isi, eT_ix, eT_c, eT_bf, eS_asg, eS_par, eS_lcs, eS_ret, eS_ex, eS_iff, eS_rai, eS_retN, eS_pass, eS_brk, ↓bind_ok, ↓bind_ex, ↓bind_no, evEs, evO, ixD, seqOf, seqL, atI, ixN, nox, c_lt, c_le, c_gt, c_ge, c_isN, c_isntN, c_isB, c_isntB, c_eq, c_ne, pureD, pureDs, near, dle, dles, deq, deqs, blD, setT, setTs, bfD, binD, setIx, truD, newL, isiD, ifsD, wipeD, pf0, pf1, pf2, pf3, pf4, pf5, pf6, pf7, pf8, pf9, pf10, pf11, pf12, pf13, pf14, pf15, pf16, pf17, pf18, pf19, pf20, pf21, pf22, pf23, pf24, pf25, pf26, pf27, pf28, pf29, pg0, pg1, pg2, plm0, f5, e1, e2, sizeMax]
  have s1 : stS P (evW P) (b + 8) (f5.body.getD 1 .pass) [some (.ref 0), some (encH h), some (.tup (rs.map encW)), some (encH L), some (.lst (F.map natD)), none, none, none, none, none] (cupD c' :: r1) = .ok (.nx [some (.ref 0), some (encH h), some (.tup (rs.map encW)), some (encH L), some (.lst (F.map natD)), some (.lst (St.map natD)), none, none, none, none]) (cupD c' :: r1) := by
    show stS P (evW P) (b + 8) (.lcs 5 _) _ _ = _
    rw [eS_lcs, eE_lc, it_etup (xs := L.map encC) (S1 := cupD c' :: r1) (by simp [fnR, evSs, evW_e, evW_t, evW_s, eE_c, eE_v, eE_g, eE_bin, eE_neg, eE_nt, eE_an, eE_or, eE_cmp, eE_ch, eE_ite, eE_tup, eE_lst, eE_ix, eE_sl, eE_rv, eE_isi, eE_call, eE_bf, eE_mt, eE_lam, eT_nt, eT_an, eT_or, eT_cmp, eT_ch, eT_v, eT_call, eT_isi, eT_ix, eT_c, eT_bf, eS_asg, eS_par, eS_lcs, eS_ret, eS_ex, eS_iff, eS_rai, eS_retN, eS_pass, eS_brk, ↓bind_ok, ↓bind_ex, ↓bind_no, evEs, evO, ixD, seqOf, seqL, atI, ixN, nox, c_lt, c_le, c_gt, c_ge, c_isN, c_isntN, c_isB, c_isntB, c_eq, c_ne, pureD, pureDs, near, dle, dles, deq, deqs, blD, setT, setTs, bfD, binD, setIx, truD, newL, isiD, ifsD, wipeD, pf0, pf1, pf2, pf3, pf4, pf5, pf6, pf7, pf8, pf9, pf10, pf11, pf12, pf13, pf14, pf15, pf16, pf17, pf18, pf19, pf20, pf21, pf22, pf23, pf24, pf25, pf26, pf27, pf28, pf29, pg0, pg1, pg2, plm0, encH])]
    simp only [bind_ok]
    rw [lcL_pure (sl := fun d => match d with | .tup [x, y] => [some (.ref 0), some (encH h), some (.tup (rs.map encW)), some (encH L), some (.lst (F.map natD)), none, none, none, some x, some y] | _ => []) (p := fun d => match d with | .tup [.int i, y] => !isNon y && !decide (i.toNat ∈ F) | _ => false) (f := fun d => match d with | .tup [x, _] => x | _ => .non) rfl]
    · simp only [nox, newL, bind_ok, List.nil_append, enum_map, List.length_map, List.filter_map, List.map_map, Int.zero_add]
      have : ((List.range L.length).filter ((fun d => match d with | D.tup [.int i, y] => !isNon y && !decide (i.toNat ∈ F) | _ => false) ∘ fun (k : Nat) => D.tup [.int (k : Int), (L.map encC).getD k .non])) = St := by
        apply List.filter_congr
        intro k hk
        have hk : k < L.length := List.mem_range.mp hk
        simp only [Function.comp_apply, Int.toNat_natCast, List.getD_eq_getElem?_getD, List.getElem?_map, List.getElem?_eq_getElem hk, Option.map_some, Option.getD_some]
        cases L[k] <;> simp [encC, isNon]
      rw [this]
      rfl
    · intro x hx
      rw [enum_map] at hx
      obtain ⟨k, hk, rfl⟩ := List.mem_map.mp hx
      rw [List.length_map] at hk
      have hk : k < L.length := List.mem_range.mp hk
      have cn := c_notin (a := k) (F := F) (S := cupD c' :: r1)
      simp only [natD] at cn
      refine ⟨?_, ?_, fun _ => ?_⟩
      · simp [fnR, evSs, evW_e, evW_t, evW_s, eE_c, eE_v, eE_g, eE_bin, eE_neg, eE_nt, eE_an, eE_or, eE_cmp, eE_ch, eE_ite, eE_tup, eE_lst, eE_ix, eE_sl, eE_rv, eE_isi, eE_call, eE_bf, eE_mt, eE_lam, eT_nt, eT_an, eT_or, eT_cmp, eT_ch, eT_v, eT_call, eT_isi, eT_ix, eT_c, eT_bf, eS_asg, eS_par, eS_lcs, eS_ret, eS_ex, eS_iff, eS_rai, eS_retN, eS_pass, eS_brk, ↓bind_ok, ↓bind_ex, ↓bind_no, evEs, evO, ixD, seqOf, seqL, atI, ixN, nox, c_lt, c_le, c_gt, c_ge, c_isN, c_isntN, c_isB, c_isntB, c_eq, c_ne, pureD, pureDs, near, dle, dles, deq, deqs, blD, setT, setTs, bfD, binD, setIx, truD, newL, isiD, ifsD, wipeD, pf0, pf1, pf2, pf3, pf4, pf5, pf6, pf7, pf8, pf9, pf10, pf11, pf12, pf13, pf14, pf15, pf16, pf17, pf18, pf19, pf20, pf21, pf22, pf23, pf24, pf25, pf26, pf27, pf28, pf29, pg0, pg1, pg2, plm0]
      · cases q : L[k] with
        | none => simp [fnR, evSs, evW_e, evW_t, evW_s, eE_c, eE_v, eE_g, eE_bin, eE_neg, eE_nt, eE_an, eE_or, eE_cmp, eE_ch, eE_ite, eE_tup, eE_lst, eE_ix, eE_sl, eE_rv, eE_isi, eE_call, eE_bf, eE_mt, eE_lam, eT_nt, eT_an, eT_or, eT_cmp, eT_ch, eT_v, eT_call, eT_isi, eT_ix, eT_c, eT_bf, eS_asg, eS_par, eS_lcs, eS_ret, eS_ex, eS_iff, eS_rai, eS_retN, eS_pass, eS_brk, ↓bind_ok, ↓bind_ex, ↓bind_no, evEs, evO, ixD, seqOf, seqL, atI, ixN, nox, c_lt, c_le, c_gt, c_ge, c_isN, c_isntN, c_isB, c_isntB, c_eq, c_ne, pureD, pureDs, near, dle, dles, deq, deqs, blD, setT, setTs, bfD, binD, setIx, truD, newL, isiD, ifsD, wipeD, pf0, pf1, pf2, pf3, pf4, pf5, pf6, pf7, pf8, pf9, pf10, pf11, pf12, pf13, pf14, pf15, pf16, pf17, pf18, pf19, pf20, pf21, pf22, pf23, pf24, pf25, pf26, pf27, pf28, pf29, pg0, pg1, pg2, plm0, hk, q, encC, isNon]
        | some p => simp [fnR, evSs, evW_e, evW_t, evW_s, eE_c, eE_v, eE_g, eE_bin, eE_neg, eE_nt, eE_an, eE_or, eE_cmp, eE_ch, eE_ite, eE_tup, eE_lst, eE_ix, eE_sl, eE_rv, eE_isi, eE_call, eE_bf, eE_mt, eE_lam, eT_nt, eT_an, eT_or, eT_cmp, eT_ch, eT_v, eT_call, eT_isi, eT_ix, eT_c, eT_bf, eS_asg, eS_par, eS_lcs, eS_ret, eS_ex, eS_iff, eS_rai, eS_retN, eS_pass, eS_brk, ↓bind_ok, ↓bind_ex, ↓bind_no, evEs, evO, ixD, seqOf, seqL, atI, ixN, nox, c_lt, c_le, c_gt, c_ge, c_isN, c_isntN, c_isB, c_isntB, c_eq, c_ne, pureD, pureDs, near, dle, dles, deq, deqs, blD, setT, setTs, bfD, binD, setIx, truD, newL, isiD, ifsD, wipeD, pf0, pf1, pf2, pf3, pf4, pf5, pf6, pf7, pf8, pf9, pf10, pf11, pf12, pf13, pf14, pf15, pf16, pf17, pf18, pf19, pf20, pf21, pf22, pf23, pf24, pf25, pf26, pf27, pf28, pf29, pg0, pg1, pg2, plm0, hk, q, encC, isNon, cn]
      · simp [fnR, evSs, evW_e, evW_t, evW_s, eE_c, eE_v, eE_g, eE_bin, eE_neg, eE_nt, eE_an, eE_or, eE_cmp, eE_ch, eE_ite, eE_tup, eE_lst, eE_ix, eE_sl, eE_rv, eE_isi, eE_call, eE_bf, eE_mt, eE_lam, eT_nt, eT_an, eT_or, eT_cmp, eT_ch, eT_v, eT_call, eT_isi, eT_ix, eT_c, eT_bf, eS_asg, eS_par, eS_lcs, eS_ret, eS_ex, eS_iff, eS_rai, eS_retN, eS_pass, eS_brk, ↓bind_ok, ↓bind_ex, ↓bind_no, evEs, evO, ixD, seqOf, seqL, atI, ixN, nox, c_lt, c_le, c_gt, c_ge, c_isN, c_isntN, c_isB, c_isntB, c_eq, c_ne, pureD, pureDs, near, dle, dles, deq, deqs, blD, setT, setTs, bfD, binD, setIx, truD, newL, isiD, ifsD, wipeD, pf0, pf1, pf2, pf3, pf4, pf5, pf6, pf7, pf8, pf9, pf10, pf11, pf12, pf13, pf14, pf15, pf16, pf17, pf18, pf19, pf20, pf21, pf22, pf23, pf24, pf25, pf26, pf27, pf28, pf29, pg0, pg1, pg2, plm0]
    · rw [enum_map, List.length_map, List.length_range, List.length_map]
      simp [sizeMax]
      omega
  obtain ⟨J2, L2, e3, l2, st2⟩ := let_go (b := b + 7) (by omega) o ro (cupD c' :: r1)
  have q2 := l2.same l1 st2 st1
  subst q2
  obtain ⟨J3, L3, M, e4, l3, st3, dm⟩ := rings_held (b := b + 7) (by omega) o ro (cupD c' :: r1 ++ J2)
  have q3 := l3.same l1 st3 st1
  subst q3
  have eSt : (stays L3 fun a => M[a]?.getD false) = St := by
    refine stays_congr fun a ha => ?_
    have hM : a < M.length := by rw [dm.len, ← hLl]; exact ha
    have := (dm.done a).trans (memF a).symm
    rw [List.getElem?_eq_getElem hM] at this ⊢
    rw [Option.getD_some, Bool.eq_iff_iff]
    simpa using this
  rw [eSt] at e4
  have s2 : stS P (evW P) (b + 8) (f5.body.getD 2 .pass) [some (.ref 0), some (encH h), some (.tup (rs.map encW)), some (encH L3), some (.lst (F.map natD)), some (.lst (St.map natD)), none, none, none, none] (cupD c' :: r1) = .ok (.nx [some (.ref 0), some (encH h), some (.tup (rs.map encW)), some (encH L3), some (.lst (F.map natD)), some (.lst (St.map natD)), none, none, none, none]) (cupD c' :: (r1 ++ J2 ++ J3)) := by
    have p1 := encH_pure L3
    have p2 := encH_dle L3
    have p3 := deq_self (h := L3)
    simp only [encH, List.cons_append] at e3 e4
    simp [fnR, evSs, evW_e, evW_t, evW_s, eE_c, eE_v, eE_g, eE_bin, eE_neg, eE_nt, eE_an, eE_or, eE_cmp, eE_ch, eE_ite, eE_tup, eE_lst, eE_ix, eE_sl, eE_rv, eE_isi, eE_call, eE_bf, eE_mt, eE_lam, eT_nt, eT_an, eT_or, eT_cmp, eT_ch, eT_v, eT_call, eT_isi, eT_ix, eT_c, eT_bf, eS_asg, eS_par, eS_lcs, eS_ret, eS_ex, eS_iff, eS_rai, eS_retN, eS_pass, eS_brk, ↓bind_ok, ↓bind_ex, ↓bind_no, evEs, evO, ixD, seqOf, seqL, atI, ixN, nox, c_lt, c_le, c_gt, c_ge, c_isN, c_isntN, c_isB, c_isntB, c_eq, c_ne, pureD, pureDs, near, dle, dles, deq, deqs, blD, setT, setTs, bfD, binD, setIx, truD, newL, isiD, ifsD, wipeD, pf0, pf1, pf2, pf3, pf4, pf5, pf6, pf7, pf8, pf9, pf10, pf11, pf12, pf13, pf14, pf15, pf16, pf17, pf18, pf19, pf20, pf21, pf22, pf23, pf24, pf25, pf26, pf27, pf28, pf29, pg0, pg1, pg2, plm0, f5, encH, e3, e4, p1, p2, p3, pures_nat, deq_nats, dles_nats]
  obtain ⟨J4, L4, e5, l4, st4⟩ := let_go (b := b + 7) (by omega) oL (rs := rs) ⟨ro.len, fun x hx => by
    have w := ro.wds x hx
    cases x with
    | non => trivial
    | num i => exact w
    | adr a => exact l1.reach rAl lAl a (.root (by
        have mem : ∀ ws : List Wd, .adr a ∈ ws → a ∈ adrs ws := by
          intro ws
          induction ws with
          | nil => exact fun h => by cases h
          | cons w r ih =>
            intro h
            rcases List.mem_cons.mp h with z | z
            · subst z
              exact List.mem_cons_self
            · cases w with
              | non => exact ih z
              | num i => exact ih z
              | adr c => exact List.mem_cons_of_mem _ (ih z)
        exact mem rs hx))⟩ (cupD c' :: (r1 ++ J2 ++ J3))
  have q4 := l4.same .nil st4 st1
  subst q4
  have f3 : stE P (evW P) (b + 8) (.lc false (.v 8) (.nm 8) [8] (.seq (.v 4)) (some (.cmp .isN (.ix (.v 3) (.v 8)) (.c .non)))) [some (.ref 0), some (encH h), some (.tup (rs.map encW)), some (encH L4), some (.lst (F.map natD)), some (.lst (St.map natD)), none, none, none, none] (cupD c' :: (r1 ++ J2 ++ J3)) = .ok (.lst []) (cupD c' :: (r1 ++ J2 ++ J3)) := by
    have := lc_filter (b := b + 8) (j := 8) (sl := [some (.ref 0), some (encH h), some (.tup (rs.map encW)), some (encH L4), some (.lst (F.map natD)), some (.lst (St.map natD)), none, none, none, none]) (S := cupD c' :: (r1 ++ J2 ++ J3)) (src := .v 4) (cond := .cmp .isN (.ix (.v 3) (.v 8)) (.c .non)) F (fun _ => false) (by omega) (by simp) (by simp [fnR, evSs, evW_e, evW_t, evW_s, eE_c, eE_v, eE_g, eE_bin, eE_neg, eE_nt, eE_an, eE_or, eE_cmp, eE_ch, eE_ite, eE_tup, eE_lst, eE_ix, eE_sl, eE_rv, eE_isi, eE_call, eE_bf, eE_mt, eE_lam, eT_nt, eT_an, eT_or, eT_cmp, eT_ch, eT_v, eT_call, eT_isi, eT_ix, eT_c, eT_bf, eS_asg, eS_par, eS_lcs, eS_ret, eS_ex, eS_iff, eS_rai, eS_retN, eS_pass, eS_brk, ↓bind_ok, ↓bind_ex, ↓bind_no, evEs, evO, ixD, seqOf, seqL, atI, ixN, nox, c_lt, c_le, c_gt, c_ge, c_isN, c_isntN, c_isB, c_isntB, c_eq, c_ne, pureD, pureDs, near, dle, dles, deq, deqs, blD, setT, setTs, bfD, binD, setIx, truD, newL, isiD, ifsD, wipeD, pf0, pf1, pf2, pf3, pf4, pf5, pf6, pf7, pf8, pf9, pf10, pf11, pf12, pf13, pf14, pf15, pf16, pf17, pf18, pf19, pf20, pf21, pf22, pf23, pf24, pf25, pf26, pf27, pf28, pf29, pg0, pg1, pg2, plm0]) (fun a ha => by
      obtain ⟨⟨l, ws⟩, hc⟩ := alF a ha
      obtain ⟨hlt, hg⟩ := List.getElem?_eq_some_iff.mp hc
      have hlt' : (a : Int) < L4.length := by omega
      simp [fnR, evSs, evW_e, evW_t, evW_s, eE_c, eE_v, eE_g, eE_bin, eE_neg, eE_nt, eE_an, eE_or, eE_cmp, eE_ch, eE_ite, eE_tup, eE_lst, eE_ix, eE_sl, eE_rv, eE_isi, eE_call, eE_bf, eE_mt, eE_lam, eT_nt, eT_an, eT_or, eT_cmp, eT_ch, eT_v, eT_call, eT_isi, eT_ix, eT_c, eT_bf, eS_asg, eS_par, eS_lcs, eS_ret, eS_ex, eS_iff, eS_rai, eS_retN, eS_pass, eS_brk, ↓bind_ok, ↓bind_ex, ↓bind_no, evEs, evO, ixD, seqOf, seqL, atI, ixN, nox, c_lt, c_le, c_gt, c_ge, c_isN, c_isntN, c_isB, c_isntB, c_eq, c_ne, pureD, pureDs, near, dle, dles, deq, deqs, blD, setT, setTs, bfD, binD, setIx, truD, newL, isiD, ifsD, wipeD, pf0, pf1, pf2, pf3, pf4, pf5, pf6, pf7, pf8, pf9, pf10, pf11, pf12, pf13, pf14, pf15, pf16, pf17, pf18, pf19, pf20, pf21, pf22, pf23, pf24, pf25, pf26, pf27, pf28, pf29, pg0, pg1, pg2, plm0, natD, encH, hlt, hlt', hg, encC, isNon])
    rw [this]
    simp
  have s3 : stS P (evW P) (b + 8) (f5.body.getD 3 .pass) [some (.ref 0), some (encH h), some (.tup (rs.map encW)), some (encH L4), some (.lst (F.map natD)), some (.lst (St.map natD)), none, none, none, none] (cupD c' :: (r1 ++ J2 ++ J3)) = .ok (.nx [some (.ref 0), some (encH h), some (.tup (rs.map encW)), some (encH L4), some (.lst (F.map natD)), some (.lst (St.map natD)), none, none, none, none]) (cupD c' :: (r1 ++ J2 ++ J3 ++ J4)) := by
    have p1 := encH_pure L4
    have p2 := encH_dle L4
    have p3 := deq_self (h := L4)
    generalize r1 ++ J2 ++ J3 = r2 at *
    simp only [encH, List.cons_append] at e5 f3
    simp [fnR, evSs, evW_e, evW_t, evW_s, eE_c, eE_v, eE_g, eE_bin, eE_neg, eE_nt, eE_an, eE_or, eE_cmp, eE_ch, eE_ite, eE_tup, eE_lst, eE_ix, eE_sl, eE_rv, eE_isi, eE_call, eE_bf, eE_mt, eE_lam, eT_nt, eT_an, eT_or, eT_cmp, eT_ch, eT_v, eT_call, eT_isi, eT_ix, eT_c, eT_bf, eS_asg, eS_par, eS_lcs, eS_ret, eS_ex, eS_iff, eS_rai, eS_retN, eS_pass, eS_brk, ↓bind_ok, ↓bind_ex, ↓bind_no, evEs, evO, ixD, seqOf, seqL, atI, ixN, nox, c_lt, c_le, c_gt, c_ge, c_isN, c_isntN, c_isB, c_isntB, c_eq, c_ne, pureD, pureDs, near, dle, dles, deq, deqs, blD, setT, setTs, bfD, binD, setIx, truD, newL, isiD, ifsD, wipeD, pf0, pf1, pf2, pf3, pf4, pf5, pf6, pf7, pf8, pf9, pf10, pf11, pf12, pf13, pf14, pf15, pf16, pf17, pf18, pf19, pf20, pf21, pf22, pf23, pf24, pf25, pf26, pf27, pf28, pf29, pg0, pg1, pg2, plm0, f5, encH, f3, e5, p1, p2, p3, sizeMax]
  generalize r1 ++ J2 ++ J3 ++ J4 = r2 at *
  let Rg : List Nat := St.filter (rungB h)
  have vSt : ∀ a ∈ St, Valid h a := fun a ha => by
    obtain ⟨⟨cc, hc⟩, _⟩ := (memSt a).mp ha
    exact ⟨cc, l1.sub.at_ a cc hc⟩
  have s4 : stS P (evW P) (b + 8) (f5.body.getD 4 .pass) [some (.ref 0), some (encH h), some (.tup (rs.map encW)), some (encH L4), some (.lst (F.map natD)), some (.lst (St.map natD)), none, none, none, none] (cupD c' :: r2) = .ok (.nx [some (.ref 0), some (encH h), some (.tup (rs.map encW)), some (encH L4), some (.lst (F.map natD)), some (.lst (St.map natD)), some (.lst (Rg.map natD)), none, none, none]) (cupD c' :: r2) := by
    show stS P (evW P) (b + 8) (.lcs 6 _) _ _ = _
    rw [eS_lcs, lc_filter (xs := St) (p := rungB h) (by omega) (by simp) (by simp [fnR, evSs, evW_e, evW_t, evW_s, eE_c, eE_v, eE_g, eE_bin, eE_neg, eE_nt, eE_an, eE_or, eE_cmp, eE_ch, eE_ite, eE_tup, eE_lst, eE_ix, eE_sl, eE_rv, eE_isi, eE_call, eE_bf, eE_mt, eE_lam, eT_nt, eT_an, eT_or, eT_cmp, eT_ch, eT_v, eT_call, eT_isi, eT_ix, eT_c, eT_bf, eS_asg, eS_par, eS_lcs, eS_ret, eS_ex, eS_iff, eS_rai, eS_retN, eS_pass, eS_brk, ↓bind_ok, ↓bind_ex, ↓bind_no, evEs, evO, ixD, seqOf, seqL, atI, ixN, nox, c_lt, c_le, c_gt, c_ge, c_isN, c_isntN, c_isB, c_isntB, c_eq, c_ne, pureD, pureDs, near, dle, dles, deq, deqs, blD, setT, setTs, bfD, binD, setIx, truD, newL, isiD, ifsD, wipeD, pf0, pf1, pf2, pf3, pf4, pf5, pf6, pf7, pf8, pf9, pf10, pf11, pf12, pf13, pf14, pf15, pf16, pf17, pf18, pf19, pf20, pf21, pf22, pf23, pf24, pf25, pf26, pf27, pf28, pf29, pg0, pg1, pg2, plm0]) fun a ha => by
      have := law_rung' (b := b + 7) (by omega) o (vSt a ha) (cupD c' :: r2)
      simp [fnR, evSs, evW_e, evW_t, evW_s, eE_c, eE_v, eE_g, eE_bin, eE_neg, eE_nt, eE_an, eE_or, eE_cmp, eE_ch, eE_ite, eE_tup, eE_lst, eE_ix, eE_sl, eE_rv, eE_isi, eE_call, eE_bf, eE_mt, eE_lam, eT_nt, eT_an, eT_or, eT_cmp, eT_ch, eT_v, eT_call, eT_isi, eT_ix, eT_c, eT_bf, eS_asg, eS_par, eS_lcs, eS_ret, eS_ex, eS_iff, eS_rai, eS_retN, eS_pass, eS_brk, ↓bind_ok, ↓bind_ex, ↓bind_no, evEs, evO, ixD, seqOf, seqL, atI, ixN, nox, c_lt, c_le, c_gt, c_ge, c_isN, c_isntN, c_isB, c_isntB, c_eq, c_ne, pureD, pureDs, near, dle, dles, deq, deqs, blD, setT, setTs, bfD, binD, setIx, truD, newL, isiD, ifsD, wipeD, pf0, pf1, pf2, pf3, pf4, pf5, pf6, pf7, pf8, pf9, pf10, pf11, pf12, pf13, pf14, pf15, pf16, pf17, pf18, pf19, pf20, pf21, pf22, pf23, pf24, pf25, pf26, pf27, pf28, pf29, pg0, pg1, pg2, plm0, this]]
    rfl
  have lRg : Rg.length ≤ 12 := Nat.le_trans (List.length_filter_le ..) lSt
  have wRg : ∀ x ∈ Rg.map Wd.adr, WdOk h x := by
    intro x hx
    obtain ⟨a, ha, rfl⟩ := List.mem_map.mp hx
    exact vSt a (List.mem_filter.mp ha).1
  obtain ⟨G, e6, d6, m6, s6⟩ := law_reached (b := b + 7) (by omega) o (rs := Rg.map Wd.adr) ⟨by simpa using lRg, wRg⟩ (cupD c' :: r2)
  have memG := bfs_mem d6 m6 s6
  have eRg : (Rg.map Wd.adr).map encW = Rg.map natD := by
    rw [List.map_map]
    rfl
  have aRg : adrs (Rg.map Wd.adr) = Rg := by
    clear e6 d6 m6 s6 memG wRg lRg eRg s4
    generalize Rg = X
    induction X with
    | nil => rfl
    | cons x t ih => simp [adrs, ih]
  rw [eRg] at e6
  rw [aRg] at memG
  have s5 : stS P (evW P) (b + 8) (f5.body.getD 5 .pass) [some (.ref 0), some (encH h), some (.tup (rs.map encW)), some (encH L4), some (.lst (F.map natD)), some (.lst (St.map natD)), some (.lst (Rg.map natD)), none, none, none] (cupD c' :: r2) = .ok (.nx [some (.ref 0), some (encH h), some (.tup (rs.map encW)), some (encH L4), some (.lst (F.map natD)), some (.lst (St.map natD)), some (.lst (Rg.map natD)), some (.lst (G.map natD)), none, none]) (cupD c' :: r2) := by
    simp [fnR, evSs, evW_e, evW_t, evW_s, eE_c, eE_v, eE_g, eE_bin, eE_neg, eE_nt, eE_an, eE_or, eE_cmp, eE_ch, eE_ite, eE_tup, eE_lst, eE_ix, eE_sl, eE_rv, eE_isi, eE_call, eE_bf, eE_mt, eE_lam, eT_nt, eT_an, eT_or, eT_cmp, eT_ch, eT_v, eT_call, eT_isi, eT_ix, eT_c, eT_bf, eS_asg, eS_par, eS_lcs, eS_ret, eS_ex, eS_iff, eS_rai, eS_retN, eS_pass, eS_brk, ↓bind_ok, ↓bind_ex, ↓bind_no, evEs, evO, ixD, seqOf, seqL, atI, ixN, nox, c_lt, c_le, c_gt, c_ge, c_isN, c_isntN, c_isB, c_isntB, c_eq, c_ne, pureD, pureDs, near, dle, dles, deq, deqs, blD, setT, setTs, bfD, binD, setIx, truD, newL, isiD, ifsD, wipeD, pf0, pf1, pf2, pf3, pf4, pf5, pf6, pf7, pf8, pf9, pf10, pf11, pf12, pf13, pf14, pf15, pf16, pf17, pf18, pf19, pf20, pf21, pf22, pf23, pf24, pf25, pf26, pf27, pf28, pf29, pg0, pg1, pg2, plm0, f5, tupleD, e6]
  have inG : ∀ a ∈ St, a ∈ G := by
    intro a ha
    obtain ⟨rr, hr1, hr2, hr3⟩ := ring_of (ld := led h) (n := h.length) (T := fun a => a ∈ St) (fun a ha => by
      obtain ⟨cc, hc⟩ := vSt a ha
      exact (List.getElem?_eq_some_iff.mp hc).1) (fun a ha => by
      obtain ⟨h1, h2⟩ := (memSt a).mp ha
      obtain ⟨x, hx1, hx2, hx3⟩ := Stable.before l1 st1 h1 h2
      exact ⟨x, (memSt x).mpr ⟨hx1, hx2⟩, hx3⟩) ha
    have hrg : rr ∈ Rg := List.mem_filter.mpr ⟨hr1, rungB_iff.mpr hr2⟩
    rw [memG a]
    rcases hr3 with rfl | hr3
    · exact .root hrg
    · have up : ∀ y, Reach (led h) (led h rr) y → Reach (led h) Rg y := by
        intro y hy
        induction hy with
        | root z => exact .step (.root hrg) z
        | step _ z ih => exact .step ih z
      exact up a hr3
  have f6 : stE P (evW P) (b + 8) (.lc false (.v 8) (.nm 8) [8] (.seq (.v 5)) (some (.cmp .notin (.v 8) (.v 7)))) [some (.ref 0), some (encH h), some (.tup (rs.map encW)), some (encH L4), some (.lst (F.map natD)), some (.lst (St.map natD)), some (.lst (Rg.map natD)), some (.lst (G.map natD)), none, none] (cupD c' :: r2) = .ok (.lst []) (cupD c' :: r2) := by
    rw [lc_filter (xs := St) (p := fun _ => false) (by omega) (by simp) (by simp [fnR, evSs, evW_e, evW_t, evW_s, eE_c, eE_v, eE_g, eE_bin, eE_neg, eE_nt, eE_an, eE_or, eE_cmp, eE_ch, eE_ite, eE_tup, eE_lst, eE_ix, eE_sl, eE_rv, eE_isi, eE_call, eE_bf, eE_mt, eE_lam, eT_nt, eT_an, eT_or, eT_cmp, eT_ch, eT_v, eT_call, eT_isi, eT_ix, eT_c, eT_bf, eS_asg, eS_par, eS_lcs, eS_ret, eS_ex, eS_iff, eS_rai, eS_retN, eS_pass, eS_brk, ↓bind_ok, ↓bind_ex, ↓bind_no, evEs, evO, ixD, seqOf, seqL, atI, ixN, nox, c_lt, c_le, c_gt, c_ge, c_isN, c_isntN, c_isB, c_isntB, c_eq, c_ne, pureD, pureDs, near, dle, dles, deq, deqs, blD, setT, setTs, bfD, binD, setIx, truD, newL, isiD, ifsD, wipeD, pf0, pf1, pf2, pf3, pf4, pf5, pf6, pf7, pf8, pf9, pf10, pf11, pf12, pf13, pf14, pf15, pf16, pf17, pf18, pf19, pf20, pf21, pf22, pf23, pf24, pf25, pf26, pf27, pf28, pf29, pg0, pg1, pg2, plm0]) fun a ha => by
      have cn := c_notin (a := a) (F := G) (S := cupD c' :: r2)
      have := inG a ha
      simp [fnR, evSs, evW_e, evW_t, evW_s, eE_c, eE_v, eE_g, eE_bin, eE_neg, eE_nt, eE_an, eE_or, eE_cmp, eE_ch, eE_ite, eE_tup, eE_lst, eE_ix, eE_sl, eE_rv, eE_isi, eE_call, eE_bf, eE_mt, eE_lam, eT_nt, eT_an, eT_or, eT_cmp, eT_ch, eT_v, eT_call, eT_isi, eT_ix, eT_c, eT_bf, eS_asg, eS_par, eS_lcs, eS_ret, eS_ex, eS_iff, eS_rai, eS_retN, eS_pass, eS_brk, ↓bind_ok, ↓bind_ex, ↓bind_no, evEs, evO, ixD, seqOf, seqL, atI, ixN, nox, c_lt, c_le, c_gt, c_ge, c_isN, c_isntN, c_isB, c_isntB, c_eq, c_ne, pureD, pureDs, near, dle, dles, deq, deqs, blD, setT, setTs, bfD, binD, setIx, truD, newL, isiD, ifsD, wipeD, pf0, pf1, pf2, pf3, pf4, pf5, pf6, pf7, pf8, pf9, pf10, pf11, pf12, pf13, pf14, pf15, pf16, pf17, pf18, pf19, pf20, pf21, pf22, pf23, pf24, pf25, pf26, pf27, pf28, pf29, pg0, pg1, pg2, plm0, cn, this]]
    simp
  have s6' : stS P (evW P) (b + 8) (f5.body.getD 6 .pass) [some (.ref 0), some (encH h), some (.tup (rs.map encW)), some (encH L4), some (.lst (F.map natD)), some (.lst (St.map natD)), some (.lst (Rg.map natD)), some (.lst (G.map natD)), none, none] (cupD c' :: r2) = .ok (.rt (.bl true)) (cupD c' :: r2) := by
    simp [fnR, evSs, evW_e, evW_t, evW_s, eE_c, eE_v, eE_g, eE_bin, eE_neg, eE_nt, eE_an, eE_or, eE_cmp, eE_ch, eE_ite, eE_tup, eE_lst, eE_ix, eE_sl, eE_rv, eE_isi, eE_call, eE_bf, eE_mt, eE_lam, eT_nt, eT_an, eT_or, eT_cmp, eT_ch, eT_v, eT_call, eT_isi, eT_ix, eT_c, eT_bf, eS_asg, eS_par, eS_lcs, eS_ret, eS_ex, eS_iff, eS_rai, eS_retN, eS_pass, eS_brk, ↓bind_ok, ↓bind_ex, ↓bind_no, evEs, evO, ixD, seqOf, seqL, atI, ixN, nox, c_lt, c_le, c_gt, c_ge, c_isN, c_isntN, c_isB, c_isntB, c_eq, c_ne, pureD, pureDs, near, dle, dles, deq, deqs, blD, setT, setTs, bfD, binD, setIx, truD, newL, isiD, ifsD, wipeD, pf0, pf1, pf2, pf3, pf4, pf5, pf6, pf7, pf8, pf9, pf10, pf11, pf12, pf13, pf14, pf15, pf16, pf17, pf18, pf19, pf20, pf21, pf22, pf23, pf24, pf25, pf26, pf27, pf28, pf29, pg0, pg1, pg2, plm0, f5, f6, sizeMax]
  refine ⟨c', r2, ?_⟩
  rw [fnD_run rfl]
  show fnR (evSs ((evW P).s (b + 8)) [f5.body.getD 0 .pass, f5.body.getD 1 .pass, f5.body.getD 2 .pass, f5.body.getD 3 .pass, f5.body.getD 4 .pass, f5.body.getD 5 .pass, f5.body.getD 6 .pass] [some (.ref 0), some (encH h), some (.tup (rs.map encW)), none, none, none, none, none, none, none] (cupD c :: r)) = _
  simp only [evSs, evW_s, s0, s1, s2, s3, s4, s5, s6', bind_ok, fnR]

theorem lam_heap {S : Sto} : lmR lmP (.ex ⟨1, none⟩ S) = .ok (.str [104, 101, 97, 112, 32, 118, 97, 108, 117, 101]) S := by
  simp [lmR, lmP, conD, sizeMax]
theorem lam_roots {S : Sto} : lmR lmP (.ex ⟨0, none⟩ S) = .ok (.str [114, 111, 111, 116, 115, 32, 118, 97, 108, 117, 101]) S := by
  simp [lmR, lmP, conD, sizeMax]
theorem need_roots_no {b : Nat} (hb : 6 ≤ b) {S : Sto} (v : D) (hv : pureD v = true) (hh : isHeapD v = false) : fnD (evW P) b f15 [v, .non] S = .ex ⟨1, none⟩ S := by
  obtain ⟨b, rfl⟩ := off hb
  rw [fnD_run rfl]
  simp [fnR, evSs, evW_e, evW_t, evW_s, eE_c, eE_v, eE_g, eE_bin, eE_neg, eE_nt, eE_an, eE_or, eE_cmp, eE_ch, eE_ite, eE_tup, eE_lst, eE_ix, eE_sl, eE_rv, eE_isi, eE_call, eE_bf, eE_mt, eE_lam, eT_nt, eT_an, eT_or, eT_cmp, eT_ch, eT_v, eT_call, eT_isi, eT_ix, eT_c, eT_bf, eS_asg, eS_par, eS_lcs, eS_ret, eS_ex, eS_iff, eS_rai, eS_retN, eS_pass, eS_brk, ↓bind_ok, ↓bind_ex, ↓bind_no, evEs, evO, ixD, seqOf, seqL, atI, ixN, nox, c_lt, c_le, c_gt, c_ge, c_isN, c_isntN, c_isB, c_isntB, c_eq, c_ne, pureD, pureDs, near, dle, dles, deq, deqs, blD, setT, setTs, bfD, binD, setIx, truD, newL, isiD, ifsD, wipeD, pf0, pf1, pf2, pf3, pf4, pf5, pf6, pf7, pf8, pf9, pf10, pf11, pf12, pf13, pf14, pf15, pf16, pf17, pf18, pf19, pf20, pf21, pf22, pf23, pf24, pf25, pf26, pf27, pf28, pf29, pg0, pg1, pg2, plm0, f15, need_heap (b := b + 5) (by omega) v hv, hh]
theorem let_no {b : Nat} (hb : 7 ≤ b) {S : Sto} (v : D) (hv : pureD v = true) (hh : isHeapD v = false) : fnD (evW P) b f6 [v, .non] S = .ex ⟨1, none⟩ S ∧ fnD (evW P) b f8 [v, .non] S = .ex ⟨1, none⟩ S := by
  obtain ⟨b, rfl⟩ := off hb
  have e := need_roots_no (b := b + 6) (by omega) (S := S) v hv hh
  constructor
  · rw [fnD_run rfl]
    simp [fnR, evSs, evW_e, evW_t, evW_s, eE_c, eE_v, eE_g, eE_bin, eE_neg, eE_nt, eE_an, eE_or, eE_cmp, eE_ch, eE_ite, eE_tup, eE_lst, eE_ix, eE_sl, eE_rv, eE_isi, eE_call, eE_bf, eE_mt, eE_lam, eT_nt, eT_an, eT_or, eT_cmp, eT_ch, eT_v, eT_call, eT_isi, eT_ix, eT_c, eT_bf, eS_asg, eS_par, eS_lcs, eS_ret, eS_ex, eS_iff, eS_rai, eS_retN, eS_pass, eS_brk, ↓bind_ok, ↓bind_ex, ↓bind_no, evEs, evO, ixD, seqOf, seqL, atI, ixN, nox, c_lt, c_le, c_gt, c_ge, c_isN, c_isntN, c_isB, c_isntB, c_eq, c_ne, pureD, pureDs, near, dle, dles, deq, deqs, blD, setT, setTs, bfD, binD, setIx, truD, newL, isiD, ifsD, wipeD, pf0, pf1, pf2, pf3, pf4, pf5, pf6, pf7, pf8, pf9, pf10, pf11, pf12, pf13, pf14, pf15, pf16, pf17, pf18, pf19, pf20, pf21, pf22, pf23, pf24, pf25, pf26, pf27, pf28, pf29, pg0, pg1, pg2, plm0, f6, e]
  · rw [fnD_run rfl]
    simp [fnR, evSs, evW_e, evW_t, evW_s, eE_c, eE_v, eE_g, eE_bin, eE_neg, eE_nt, eE_an, eE_or, eE_cmp, eE_ch, eE_ite, eE_tup, eE_lst, eE_ix, eE_sl, eE_rv, eE_isi, eE_call, eE_bf, eE_mt, eE_lam, eT_nt, eT_an, eT_or, eT_cmp, eT_ch, eT_v, eT_call, eT_isi, eT_ix, eT_c, eT_bf, eS_asg, eS_par, eS_lcs, eS_ret, eS_ex, eS_iff, eS_rai, eS_retN, eS_pass, eS_brk, ↓bind_ok, ↓bind_ex, ↓bind_no, evEs, evO, ixD, seqOf, seqL, atI, ixN, nox, c_lt, c_le, c_gt, c_ge, c_isN, c_isntN, c_isB, c_isntB, c_eq, c_ne, pureD, pureDs, near, dle, dles, deq, deqs, blD, setT, setTs, bfD, binD, setIx, truD, newL, isiD, ifsD, wipeD, pf0, pf1, pf2, pf3, pf4, pf5, pf6, pf7, pf8, pf9, pf10, pf11, pf12, pf13, pf14, pf15, pf16, pf17, pf18, pf19, pf20, pf21, pf22, pf23, pf24, pf25, pf26, pf27, pf28, pf29, pg0, pg1, pg2, plm0, f8, e]
theorem let_bad {b : Nat} (hb : 7 ≤ b) {S : Sto} (xs : List D) (v : D) (hx : pureD (.tup xs) = true) (hv : pureD v = true) (hh : isHeapD (.tup xs) = true) (hr : fitsWs xs v = false) : fnD (evW P) b f6 [.tup xs, v] S = .ex ⟨0, none⟩ S ∧ fnD (evW P) b f8 [.tup xs, v] S = .ex ⟨0, none⟩ S := by
  obtain ⟨b, rfl⟩ := off hb
  have e := need_roots (b := b + 6) (by omega) (S := S) xs v hx hv hh
  rw [hr] at e
  simp only [Bool.false_eq_true, if_false] at e
  constructor
  · rw [fnD_run rfl]
    simp [fnR, evSs, evW_e, evW_t, evW_s, eE_c, eE_v, eE_g, eE_bin, eE_neg, eE_nt, eE_an, eE_or, eE_cmp, eE_ch, eE_ite, eE_tup, eE_lst, eE_ix, eE_sl, eE_rv, eE_isi, eE_call, eE_bf, eE_mt, eE_lam, eT_nt, eT_an, eT_or, eT_cmp, eT_ch, eT_v, eT_call, eT_isi, eT_ix, eT_c, eT_bf, eS_asg, eS_par, eS_lcs, eS_ret, eS_ex, eS_iff, eS_rai, eS_retN, eS_pass, eS_brk, ↓bind_ok, ↓bind_ex, ↓bind_no, evEs, evO, ixD, seqOf, seqL, atI, ixN, nox, c_lt, c_le, c_gt, c_ge, c_isN, c_isntN, c_isB, c_isntB, c_eq, c_ne, pureD, pureDs, near, dle, dles, deq, deqs, blD, setT, setTs, bfD, binD, setIx, truD, newL, isiD, ifsD, wipeD, pf0, pf1, pf2, pf3, pf4, pf5, pf6, pf7, pf8, pf9, pf10, pf11, pf12, pf13, pf14, pf15, pf16, pf17, pf18, pf19, pf20, pf21, pf22, pf23, pf24, pf25, pf26, pf27, pf28, pf29, pg0, pg1, pg2, plm0, f6, e]
  · rw [fnD_run rfl]
    simp [fnR, evSs, evW_e, evW_t, evW_s, eE_c, eE_v, eE_g, eE_bin, eE_neg, eE_nt, eE_an, eE_or, eE_cmp, eE_ch, eE_ite, eE_tup, eE_lst, eE_ix, eE_sl, eE_rv, eE_isi, eE_call, eE_bf, eE_mt, eE_lam, eT_nt, eT_an, eT_or, eT_cmp, eT_ch, eT_v, eT_call, eT_isi, eT_ix, eT_c, eT_bf, eS_asg, eS_par, eS_lcs, eS_ret, eS_ex, eS_iff, eS_rai, eS_retN, eS_pass, eS_brk, ↓bind_ok, ↓bind_ex, ↓bind_no, evEs, evO, ixD, seqOf, seqL, atI, ixN, nox, c_lt, c_le, c_gt, c_ge, c_isN, c_isntN, c_isB, c_isntB, c_eq, c_ne, pureD, pureDs, near, dle, dles, deq, deqs, blD, setT, setTs, bfD, binD, setIx, truD, newL, isiD, ifsD, wipeD, pf0, pf1, pf2, pf3, pf4, pf5, pf6, pf7, pf8, pf9, pf10, pf11, pf12, pf13, pf14, pf15, pf16, pf17, pf18, pf19, pf20, pf21, pf22, pf23, pf24, pf25, pf26, pf27, pf28, pf29, pg0, pg1, pg2, plm0, f8, e]
theorem stable_of {R : List Nat} {L : List Ce} (h : ((List.range L.length).all fun a => !((L[a]?.getD none).isSome && !decide (a ∈ refs R L))) = true) : Stable R L := by
  rintro a ⟨⟨c, hc⟩, h2⟩
  have := List.all_eq_true.mp h a (List.mem_range.mpr (List.getElem?_eq_some_iff.mp hc).1)
  simp [hc, h2] at this
theorem let_is {b : Nat} (hb : 7 ≤ b) {h : List Ce} (o : HpOk h) {rs : List Wd} (ro : RtOk h rs) (S0 : Sto) {L : List Ce} (l : Lets (adrs rs) h L) (s : Stable (adrs rs) L) : ∃ J : Sto, fnD (evW P) b f6 [encH h, .tup (rs.map encW)] S0 = .ok (encH L) (S0 ++ J) := by
  obtain ⟨J, L', e, l', s'⟩ := let_go hb o ro S0
  rw [l'.same l s' s] at e
  exact ⟨J, e⟩
theorem reach_is {ld : Nat → List Nat} {rs : List Nat} (Xs : List Nat) (h0 : ∀ a ∈ rs, a ∈ Xs) (h1 : ∀ a ∈ Xs, ∀ c ∈ ld a, c ∈ Xs) (h2 : ∀ a ∈ Xs, Reach ld rs a) (a : Nat) : Reach ld rs a ↔ a ∈ Xs := by
  refine ⟨fun h => ?_, h2 a⟩
  induction h with
  | root h => exact h0 _ h
  | step _ hc ih => exact h1 _ ih _ hc
theorem rings_is {b : Nat} (hb : 7 ≤ b) {h : List Ce} (o : HpOk h) {rs : List Wd} (ro : RtOk h rs) (S0 : Sto) {L : List Ce} (l : Lets (adrs rs) h L) (s : Stable (adrs rs) L) (Xs : List Nat) (h0 : ∀ a ∈ adrs rs, a ∈ Xs) (h1 : ∀ a ∈ Xs, ∀ c ∈ led h a, c ∈ Xs) (h2 : ∀ a ∈ Xs, Reach (led h) (adrs rs) a) : ∃ J : Sto, fnD (evW P) b f8 [encH h, .tup (rs.map encW)] S0 = .ok (.lst ((stays L fun a => decide (a ∈ Xs)).map natD)) (S0 ++ J) := by
  obtain ⟨J, L', M, e, l', s', d⟩ := rings_held hb o ro S0
  rw [l'.same l s' s] at e
  have : (stays L fun a => M[a]?.getD false) = stays L fun a => decide (a ∈ Xs) := by
    refine stays_congr fun a ha => ?_
    have hM : a < M.length := by rw [d.len, ← l.sub.len]; exact ha
    have q : Reach (led h) (adrs rs) a ↔ a ∈ Xs := reach_is Xs h0 h1 h2 a
    have := (d.done a).trans q
    rw [List.getElem?_eq_getElem hM] at this ⊢
    rw [Option.getD_some, Bool.eq_iff_iff]
    simpa using this
  rw [this] at e
  exact ⟨J, e⟩
/-- where all lead down, what stays is what is reached -/
theorem down_same {rs : List Wd} {h L : List Ce} {M : List Bool} (o : HpOk h) (ro : RtOk h rs) (dn : ∀ x, ∀ c ∈ led h x, c < x) (l : Lets (adrs rs) h L) (s : Stable (adrs rs) L) (d : Dfs (led h) (adrs rs) h.length M []) : L = sweep h M := by
  have al := down_reach l s dn
  have rAl : ∀ a ∈ adrs rs, Alive h a := fun a ha => ro.wds _ (adrs_mem ha)
  have lAl : ∀ a, ∀ c ∈ led h a, Alive h c := fun a c hc => (led_ok o).2 c hc
  have re := l.reach rAl lAl
  have hl := l.sub.len
  apply List.ext_getElem?
  intro i
  by_cases hi : i < h.length
  · have hiL : i < L.length := by omega
    have hiM : i < M.length := by rw [d.len]; exact hi
    have es : (sweep h M)[i]? = some (if M[i]?.getD false then h[i]?.getD none else none) := by simp [sweep, hi]
    rw [es]
    cases q : M[i] with
    | true =>
      have r := (d.done i).mp (by rw [List.getElem?_eq_getElem hiM, q])
      obtain ⟨c, hc⟩ := re i r
      have hh := l.sub.at_ i c hc
      simp [hc, hiM, q, hh]
    | false =>
      have nr : ¬ Reach (led h) (adrs rs) i := fun r => by
        have := (d.done i).mpr r
        rw [List.getElem?_eq_getElem hiM, q] at this
        cases this
      cases q2 : L[i] with
      | some c => exact absurd (al i ⟨c, by rw [List.getElem?_eq_getElem hiL, q2]⟩) nr
      | none => simp [hiL, q2, hiM, q]
  · rw [List.getElem?_eq_none (by omega), List.getElem?_eq_none (by simp [sweep]; omega)]
theorem down_none {rs : List Wd} {h L : List Ce} {M : List Bool} (dn : ∀ x, ∀ c ∈ led h x, c < x) (l : Lets (adrs rs) h L) (s : Stable (adrs rs) L) (d : Dfs (led h) (adrs rs) h.length M []) : (stays L fun a => M[a]?.getD false) = [] := by
  have al := down_reach l s dn
  cases q : stays L fun a => M[a]?.getD false with
  | nil => rfl
  | cons a t =>
    have : a ∈ stays L fun a => M[a]?.getD false := by rw [q]; exact List.mem_cons_self
    obtain ⟨h1, h2⟩ := stays_mem.mp this
    rw [(d.done a).mpr (al a h1)] at h2
    cases h2
abbrev turnBody : List Nv.S := [.asg (.nm 3) (.call 2 [(.v 1)]),
    .asg (.nm 4) (.call 3 [(.v 1), (.v 3)]),
    .asg (.nm 5) (.call 4 [(.v 3)]),
    .iff (.or (.nt (.call 5 [(.v 1), (.v 3), (.v 4)])) (.nt (.call 5 [(.v 1), (.v 5), (.v 4)]))) [.ret (.c (.bl false))] [],
    .iff (.or (.cmp .ne (.call 6 [(.v 5), (.v 4)]) (.call 7 [(.v 5), (.v 4)])) (.cmp .ne (.call 8 [(.v 5), (.v 4)]) (.lst false []))) [.ret (.c (.bl false))] []]
theorem turn_for {b : Nat} (hb : 13 ≤ b) {x0 x6 x7 x8 : Option D} : ∀ (ds : List D) (c : Int × Int) (r : Sto) (x2 x3 x4 x5 : Option D), ∃ y2 y3 y4 y5 c' r', forL none (fun d sl S => setT ((evW P).e b) 9 (.nm 2) d sl S) (fun sl S => evSs ((evW P).s b) turnBody sl S) ds [x0, some (.ref 0), x2, x3, x4, x5, x6, x7, x8] (cupD c :: r) = .ok (.nx [x0, some (.ref 0), y2, y3, y4, y5, x6, x7, x8]) (cupD c' :: r')
  | [], c, r, x2, x3, x4, x5 => ⟨x2, x3, x4, x5, c, r, by simp [forL, gdOk]⟩
  | d :: t, c, r, x2, x3, x4, x5 => by
    have t1 : ∃ y3 y4 y5 c' r', evSs ((evW P).s b) turnBody [x0, some (.ref 0), some d, x3, x4, x5, x6, x7, x8] (cupD c :: r) = .ok (.nx [x0, some (.ref 0), some d, y3, y4, y5, x6, x7, x8]) (cupD c' :: r') := by
      obtain ⟨b, rfl⟩ := off hb
      obtain ⟨h, c1, e1, o, hne⟩ := heap (b := b + 12) (by omega) c r
      obtain ⟨rs, c2, e2, ro⟩ := roots (b := b + 12) (by omega) c1 r h o
      have e3 := law_downward (b := b + 12) (S := cupD c2 :: r) o
      obtain ⟨c3, r3, e4⟩ := right (b := b + 12) (by omega) c2 r o ro
      have od := downH_ok o
      have rd := downH_rt ro
      obtain ⟨c4, r4, e5⟩ := right (b := b + 12) (by omega) c3 r3 od rd
      obtain ⟨J1, L1, e6, l1, s1⟩ := let_go (b := b + 12) (by omega) od rd (cupD c4 :: r4)
      obtain ⟨J2, M2, e7, d2⟩ := swept_heap (b := b + 12) (by omega) od rd (cupD c4 :: r4 ++ J1)
      obtain ⟨J3, L3, M3, e8, l3, s3, d3⟩ := rings_held (b := b + 12) (by omega) od rd (cupD c4 :: r4 ++ J1 ++ J2)
      rw [down_none downH_led l3 s3 d3] at e8
      rw [down_same od rd downH_led l1 s1 d2] at e6
      generalize sweep (downH h) M2 = Lq at *
      have p1 := encH_pure Lq
      have p2 := encH_dle Lq
      have p3 := deq_self (h := Lq)
      refine ⟨some (encH h), some (.tup (rs.map encW)), some (encH (downH h)), c4, r4 ++ J1 ++ J2 ++ J3, ?_⟩
      simp only [List.cons_append, List.map_nil] at e6 e7 e8
      generalize r4 ++ J1 ++ J2 ++ J3 = r7 at *
      generalize r4 ++ J1 ++ J2 = r6 at *
      generalize r4 ++ J1 = r5 at *
      have s5 : stS P (evW P) (b + 13) (turnBody.getD 4 .pass) [x0, some (.ref 0), some d, some (encH h), some (.tup (rs.map encW)), some (encH (downH h)), x6, x7, x8] (cupD c4 :: r4) = .ok (.nx [x0, some (.ref 0), some d, some (encH h), some (.tup (rs.map encW)), some (encH (downH h)), x6, x7, x8]) (cupD c4 :: r7) := by
        generalize encH (downH h) = dh at *
        simp only [encH] at e6 e7
        simp [fnR, evSs, evW_e, evW_t, evW_s, eE_c, eE_v, eE_g, eE_bin, eE_neg, eE_nt, eE_an, eE_or, eE_cmp, eE_ch, eE_ite, eE_tup, eE_lst, eE_ix, eE_sl, eE_rv, eE_isi, eE_call, eE_bf, eE_mt, eE_lam, eT_nt, eT_an, eT_or, eT_cmp, eT_ch, eT_v, eT_call, eT_isi, eT_ix, eT_c, eT_bf, eS_asg, eS_par, eS_lcs, eS_ret, eS_ex, eS_iff, eS_rai, eS_retN, eS_pass, eS_brk, ↓bind_ok, ↓bind_ex, ↓bind_no, evEs, evO, ixD, seqOf, seqL, atI, ixN, nox, c_lt, c_le, c_gt, c_ge, c_isN, c_isntN, c_isB, c_isntB, c_eq, c_ne, pureD, pureDs, near, dle, dles, deq, deqs, blD, setT, setTs, bfD, binD, setIx, truD, newL, isiD, ifsD, wipeD, pf0, pf1, pf2, pf3, pf4, pf5, pf6, pf7, pf8, pf9, pf10, pf11, pf12, pf13, pf14, pf15, pf16, pf17, pf18, pf19, pf20, pf21, pf22, pf23, pf24, pf25, pf26, pf27, pf28, pf29, pg0, pg1, pg2, plm0, turnBody, e6, e7, e8, p1, p2, p3, sizeMax]
      have s4 : evSs ((evW P).s (b + 13)) [turnBody.getD 0 .pass, turnBody.getD 1 .pass, turnBody.getD 2 .pass, turnBody.getD 3 .pass] [x0, some (.ref 0), some d, x3, x4, x5, x6, x7, x8] (cupD c :: r) = .ok (.nx [x0, some (.ref 0), some d, some (encH h), some (.tup (rs.map encW)), some (encH (downH h)), x6, x7, x8]) (cupD c4 :: r4) := by
        simp [fnR, evSs, evW_e, evW_t, evW_s, eE_c, eE_v, eE_g, eE_bin, eE_neg, eE_nt, eE_an, eE_or, eE_cmp, eE_ch, eE_ite, eE_tup, eE_lst, eE_ix, eE_sl, eE_rv, eE_isi, eE_call, eE_bf, eE_mt, eE_lam, eT_nt, eT_an, eT_or, eT_cmp, eT_ch, eT_v, eT_call, eT_isi, eT_ix, eT_c, eT_bf, eS_asg, eS_par, eS_lcs, eS_ret, eS_ex, eS_iff, eS_rai, eS_retN, eS_pass, eS_brk, ↓bind_ok, ↓bind_ex, ↓bind_no, evEs, evO, ixD, seqOf, seqL, atI, ixN, nox, c_lt, c_le, c_gt, c_ge, c_isN, c_isntN, c_isB, c_isntB, c_eq, c_ne, pureD, pureDs, near, dle, dles, deq, deqs, blD, setT, setTs, bfD, binD, setIx, truD, newL, isiD, ifsD, wipeD, pf0, pf1, pf2, pf3, pf4, pf5, pf6, pf7, pf8, pf9, pf10, pf11, pf12, pf13, pf14, pf15, pf16, pf17, pf18, pf19, pf20, pf21, pf22, pf23, pf24, pf25, pf26, pf27, pf28, pf29, pg0, pg1, pg2, plm0, turnBody, e1, e2, e3, e4, e5]
      have app : ∀ (xs : List Nv.S) (y : Nv.S) (sl sl1 : Sl) (S S1 : Sto), evSs ((evW P).s (b + 13)) xs sl S = .ok (.nx sl1) S1 → evSs ((evW P).s (b + 13)) (xs ++ [y]) sl S = evSs ((evW P).s (b + 13)) [y] sl1 S1 := by
        intro xs
        induction xs with
        | nil =>
          intro ys sl sl1 S S1 h
          cases h
          rfl
        | cons x t ih =>
          intro ys sl sl1 S S1 h
          simp only [evSs, List.cons_append] at h ⊢
          cases q : (evW P).s (b + 13) x sl S with
          | ok f S2 =>
            rw [q] at h
            simp only [bind_ok] at h ⊢
            cases f with
            | nx sl2 => exact ih ys sl2 sl1 S2 S1 h
            | rt d => cases h
            | bk d => cases h
          | ex x S => rw [q] at h; cases h
          | no => rw [q] at h; cases h
      have := app _ (turnBody.getD 4 .pass) _ _ _ _ s4
      refine Eq.trans this ?_
      simp only [evSs, evW_s, s5, bind_ok]
    obtain ⟨y3, y4, y5, c1, r1, t1⟩ := t1
    obtain ⟨z2, z3, z4, z5, c2, r2, e⟩ := turn_for hb (x0 := x0) (x6 := x6) (x7 := x7) (x8 := x8) t c1 r1 (some d) y3 y4 y5
    refine ⟨z2, z3, z4, z5, c2, r2, ?_⟩
    unfold forL
    rw [if_pos (show gdOk _ none = true from rfl)]
    rw [show setT ((evW P).e b) 9 (.nm 2) d [x0, some (.ref 0), x2, x3, x4, x5, x6, x7, x8] (cupD c :: r) = .ok [x0, some (.ref 0), some d, x3, x4, x5, x6, x7, x8] (cupD c :: r) from rfl]
    simp only [bind_ok]
    rw [t1]
    simp only [bind_ok]
    exact e
abbrev odd1Body : List Nv.S := [.iff (.cmp .ne (.lst false [(.lam 0 (.call 6 [(.v 6), (.c .non)])), (.lam 0 (.call 8 [(.v 6), (.c .non)]))]) (.bin .mul false (.lst false [(.c (.str [104, 101, 97, 112, 32, 118, 97, 108, 117, 101]))]) (.c (.int 2)))) [.ret (.c (.bl false))] []]
abbrev odd2Body : List Nv.S := [.iff (.cmp .ne (.lst false [(.lam 0 (.call 6 [(.tup [(.c .non)]), (.v 6)])), (.lam 0 (.call 8 [(.tup []), (.v 6)]))]) (.bin .mul false (.lst false [(.c (.str [114, 111, 111, 116, 115, 32, 118, 97, 108, 117, 101]))]) (.c (.int 2)))) [.ret (.c (.bl false))] []]
theorem odd_for {b : Nat} {S : Sto} {bd : List Nv.S} {x0 x1 x2 x3 x4 x5 x7 x8 : Option D} : ∀ (ds : List D) (x6 : Option D), (∀ d ∈ ds, evSs ((evW P).s b) bd [x0, x1, x2, x3, x4, x5, some d, x7, x8] S = .ok (.nx [x0, x1, x2, x3, x4, x5, some d, x7, x8]) S) → ∃ y6, forL none (fun d sl S => setT ((evW P).e b) 9 (.nm 6) d sl S) (fun sl S => evSs ((evW P).s b) bd sl S) ds [x0, x1, x2, x3, x4, x5, x6, x7, x8] S = .ok (.nx [x0, x1, x2, x3, x4, x5, y6, x7, x8]) S
  | [], x6, _ => ⟨x6, by simp [forL, gdOk]⟩
  | d :: t, x6, hd => by
    obtain ⟨y6, e⟩ := odd_for (b := b) (S := S) (bd := bd) (x0 := x0) (x1 := x1) (x2 := x2) (x3 := x3) (x4 := x4) (x5 := x5) (x7 := x7) (x8 := x8) t (some d) fun y hy => hd y (List.mem_cons_of_mem _ hy)
    refine ⟨y6, ?_⟩
    unfold forL
    rw [if_pos (show gdOk _ none = true from rfl)]
    rw [show setT ((evW P).e b) 9 (.nm 6) d [x0, x1, x2, x3, x4, x5, x6, x7, x8] S = .ok [x0, x1, x2, x3, x4, x5, some d, x7, x8] S from rfl]
    simp only [bind_ok]
    rw [hd d List.mem_cons_self]
    simp only [bind_ok]
    exact e
theorem odd1 {b : Nat} (hb : 12 ≤ b) {S : Sto} {x0 x1 x2 x3 x4 x5 x7 x8 : Option D} (d : D) (h1 : pureD d = true) (h2 : isHeapD d = false) : evSs ((evW P).s b) odd1Body [x0, x1, x2, x3, x4, x5, some d, x7, x8] S = .ok (.nx [x0, x1, x2, x3, x4, x5, some d, x7, x8]) S := by
  obtain ⟨b, rfl⟩ := off hb
  obtain ⟨e1, e2⟩ := let_no (b := b + 9) (by omega) (S := S) d h1 h2
  simp [fnR, evSs, evW_e, evW_t, evW_s, eE_c, eE_v, eE_g, eE_bin, eE_neg, eE_nt, eE_an, eE_or, eE_cmp, eE_ch, eE_ite, eE_tup, eE_lst, eE_ix, eE_sl, eE_rv, eE_isi, eE_call, eE_bf, eE_mt, eE_lam, eT_nt, eT_an, eT_or, eT_cmp, eT_ch, eT_v, eT_call, eT_isi, eT_ix, eT_c, eT_bf, eS_asg, eS_par, eS_lcs, eS_ret, eS_ex, eS_iff, eS_rai, eS_retN, eS_pass, eS_brk, ↓bind_ok, ↓bind_ex, ↓bind_no, evEs, evO, ixD, seqOf, seqL, atI, ixN, nox, c_lt, c_le, c_gt, c_ge, c_isN, c_isntN, c_isB, c_isntB, c_eq, c_ne, pureD, pureDs, near, dle, dles, deq, deqs, blD, setT, setTs, bfD, binD, setIx, truD, newL, isiD, ifsD, wipeD, pf0, pf1, pf2, pf3, pf4, pf5, pf6, pf7, pf8, pf9, pf10, pf11, pf12, pf13, pf14, pf15, pf16, pf17, pf18, pf19, pf20, pf21, pf22, pf23, pf24, pf25, pf26, pf27, pf28, pf29, pg0, pg1, pg2, plm0, odd1Body, e1, e2, lam_heap, sizeMax, mulD, repL]
theorem odd2 {b : Nat} (hb : 12 ≤ b) {S : Sto} {x0 x1 x2 x3 x4 x5 x7 x8 : Option D} (d : D) (h1 : pureD d = true) (h2 : fitsWs [.non] d = false) (h3 : fitsWs [] d = false) : evSs ((evW P).s b) odd2Body [x0, x1, x2, x3, x4, x5, some d, x7, x8] S = .ok (.nx [x0, x1, x2, x3, x4, x5, some d, x7, x8]) S := by
  obtain ⟨b, rfl⟩ := off hb
  obtain ⟨e1, _⟩ := let_bad (b := b + 9) (by omega) (S := S) [.non] d rfl h1 rfl h2
  obtain ⟨_, e2⟩ := let_bad (b := b + 9) (by omega) (S := S) [] d rfl h1 rfl h3
  simp [fnR, evSs, evW_e, evW_t, evW_s, eE_c, eE_v, eE_g, eE_bin, eE_neg, eE_nt, eE_an, eE_or, eE_cmp, eE_ch, eE_ite, eE_tup, eE_lst, eE_ix, eE_sl, eE_rv, eE_isi, eE_call, eE_bf, eE_mt, eE_lam, eT_nt, eT_an, eT_or, eT_cmp, eT_ch, eT_v, eT_call, eT_isi, eT_ix, eT_c, eT_bf, eS_asg, eS_par, eS_lcs, eS_ret, eS_ex, eS_iff, eS_rai, eS_retN, eS_pass, eS_brk, ↓bind_ok, ↓bind_ex, ↓bind_no, evEs, evO, ixD, seqOf, seqL, atI, ixN, nox, c_lt, c_le, c_gt, c_ge, c_isN, c_isntN, c_isB, c_isntB, c_eq, c_ne, pureD, pureDs, near, dle, dles, deq, deqs, blD, setT, setTs, bfD, binD, setIx, truD, newL, isiD, ifsD, wipeD, pf0, pf1, pf2, pf3, pf4, pf5, pf6, pf7, pf8, pf9, pf10, pf11, pf12, pf13, pf14, pf15, pf16, pf17, pf18, pf19, pf20, pf21, pf22, pf23, pf24, pf25, pf26, pf27, pf28, pf29, pg0, pg1, pg2, plm0, odd2Body, e1, e2, lam_roots, sizeMax, mulD, repL]

def gH : List Ce := [some ([97], [.adr 1]), some ([98], [.adr 0]), some ([99], [.adr 1]), none, some ([100], [.adr 2, .adr 4])]
def kH : List Ce := [some ([97], []), some ([98], [.adr 0]), some ([99], [.adr 1, .adr 1]), some ([100], [.adr 0, .adr 3])]
theorem gH_ok : HpOk gH := by
  refine ⟨by decide, fun l ws hm => ?_⟩
  simp only [gH, List.mem_cons, List.not_mem_nil, or_false, Option.some.injEq, Prod.mk.injEq, reduceCtorEq, false_or] at hm
  rcases hm with ⟨rfl, rfl⟩ | ⟨rfl, rfl⟩ | ⟨rfl, rfl⟩ | ⟨rfl, rfl⟩ <;> refine ⟨by decide, fun x hx => ?_⟩ <;> simp at hx
  · subst hx; exact ⟨_, rfl⟩
  · subst hx; exact ⟨_, rfl⟩
  · subst hx; exact ⟨_, rfl⟩
  · rcases hx with rfl | rfl <;> exact ⟨_, rfl⟩
theorem kH_ok : HpOk kH := by
  refine ⟨by decide, fun l ws hm => ?_⟩
  simp only [kH, List.mem_cons, List.not_mem_nil, or_false, Option.some.injEq, Prod.mk.injEq] at hm
  rcases hm with ⟨rfl, rfl⟩ | ⟨rfl, rfl⟩ | ⟨rfl, rfl⟩ | ⟨rfl, rfl⟩ <;> refine ⟨by decide, fun x hx => ?_⟩ <;> simp at hx
  · subst hx; exact ⟨_, rfl⟩
  · subst hx; exact ⟨_, rfl⟩
  · rcases hx with rfl | rfl <;> exact ⟨_, rfl⟩
theorem k3_ok : HpOk (kH.take 3) := by
  refine ⟨by decide, fun l ws hm => ?_⟩
  simp only [kH, List.take_succ_cons, List.take_zero, List.mem_cons, List.not_mem_nil, or_false, Option.some.injEq, Prod.mk.injEq] at hm
  rcases hm with ⟨rfl, rfl⟩ | ⟨rfl, rfl⟩ | ⟨rfl, rfl⟩ <;> refine ⟨by decide, fun x hx => ?_⟩ <;> simp at hx
  · subst hx; exact ⟨_, rfl⟩
  · subst hx; exact ⟨_, rfl⟩
theorem rt_nil {h : List Ce} : RtOk h [] := ⟨by decide, fun x hx => by cases hx⟩
theorem rt_one {h : List Ce} {a : Nat} (v : Valid h a) : RtOk h [.adr a] := ⟨by simp, fun x hx => by
  simp at hx
  subst hx
  exact v⟩
theorem rt_two {h : List Ce} {a : Nat} (v : Valid h a) : RtOk h [.adr a, .adr a] := ⟨by simp, fun x hx => by
  simp at hx
  subst hx
  exact v⟩
def gD : List D := [.tup [.tup [.str [97]], .tup [.int 1]], .tup [.tup [.str [98]], .tup [.int 0]], .tup [.tup [.str [99]], .tup [.int 1]], .non, .tup [.tup [.str [100]], .tup [.int 2, .int 4]]]
def kD : List D := [.tup [.tup [.str [97]], .tup []], .tup [.tup [.str [98]], .tup [.int 0]], .tup [.tup [.str [99]], .tup [.int 1, .int 1]], .tup [.tup [.str [100]], .tup [.int 0, .int 3]]]
theorem free_of {R : List Nat} {L : List Ce} {a : Nat} (h1 : Alive L a) (h2 : (!decide (a ∈ refs R L)) = true) : Free R L a := ⟨h1, by simpa using h2⟩
theorem law_true (ns : List Int) (hl : ns.length ≤ 63) : ∃ S, fnD (evW P) 60 f0 [.frz (ns.map D.int)] [] = .ok (.bl true) S := by
  obtain ⟨c0, e0⟩ := cup 59 ns hl
  obtain ⟨y2, y3, y4, y5, c1, r1, e1⟩ := turn_for (b := 60) (by omega) (x0 := some (.frz (ns.map D.int))) (x6 := none) (x7 := none) (x8 := none) (rngI 0 2) c0 [] none none none none
  have s1 : stS P (evW P) 60 (.for_ (.nm 2) (.rng1 (.c (.int 2))) turnBody) [some (.frz (ns.map D.int)), some (.ref 0), none, none, none, none, none, none, none] [cupD c0] = .ok (.nx [some (.frz (ns.map D.int)), some (.ref 0), y2, y3, y4, y5, none, none, none]) (cupD c1 :: r1) := by
    rw [eS_for, it_rng1 (n := 2) (S1 := [cupD c0]) (by simp [fnR, evSs, evW_e, evW_t, evW_s, eE_c, eE_v, eE_g, eE_bin, eE_neg, eE_nt, eE_an, eE_or, eE_cmp, eE_ch, eE_ite, eE_tup, eE_lst, eE_ix, eE_sl, eE_rv, eE_isi, eE_call, eE_bf, eE_mt, eE_lam, eT_nt, eT_an, eT_or, eT_cmp, eT_ch, eT_v, eT_call, eT_isi, eT_ix, eT_c, eT_bf, eS_asg, eS_par, eS_lcs, eS_ret, eS_ex, eS_iff, eS_rai, eS_retN, eS_pass, eS_brk, ↓bind_ok, ↓bind_ex, ↓bind_no, evEs, evO, ixD, seqOf, seqL, atI, ixN, nox, c_lt, c_le, c_gt, c_ge, c_isN, c_isntN, c_isB, c_isntB, c_eq, c_ne, pureD, pureDs, near, dle, dles, deq, deqs, blD, setT, setTs, bfD, binD, setIx, truD, newL, isiD, ifsD, wipeD, pf0, pf1, pf2, pf3, pf4, pf5, pf6, pf7, pf8, pf9, pf10, pf11, pf12, pf13, pf14, pf15, pf16, pf17, pf18, pf19, pf20, pf21, pf22, pf23, pf24, pf25, pf26, pf27, pf28, pf29, pg0, pg1, pg2, plm0]) (lim62_small (by omega) (by omega)), bind_ok]
    exact e1
  obtain ⟨y6, e2⟩ := odd_for (b := 60) (S := cupD c1 :: r1) (bd := odd1Body) (x0 := some (.frz (ns.map D.int))) (x1 := some (.ref 0)) (x2 := y2) (x3 := y3) (x4 := y4) (x5 := y5) (x7 := none) (x8 := none) [.non, .lst [], .tup [.tup [.tup [.str [97]], .tup [.int 1]]], .tup [.int 0]] none (by
    intro d hd
    simp only [List.mem_cons, List.not_mem_nil, or_false] at hd
    rcases hd with rfl | rfl | rfl | rfl <;> exact odd1 (by omega) _ rfl rfl)
  have s2 : stS P (evW P) 60 (.for_ (.nm 6) (.seq (.lst false [(.c .non), (.lst false []), (.tup [(.tup [(.tup [(.c (.str [97]))]), (.tup [(.c (.int 1))])])]), (.tup [(.c (.int 0))])])) odd1Body) [some (.frz (ns.map D.int)), some (.ref 0), y2, y3, y4, y5, none, none, none] (cupD c1 :: r1) = .ok (.nx [some (.frz (ns.map D.int)), some (.ref 0), y2, y3, y4, y5, y6, none, none]) (cupD c1 :: r1) := by
    rw [eS_for, it_lst (xs := [.non, .lst [], .tup [.tup [.tup [.str [97]], .tup [.int 1]]], .tup [.int 0]]) (S1 := cupD c1 :: r1) (by simp [fnR, evSs, evW_e, evW_t, evW_s, eE_c, eE_v, eE_g, eE_bin, eE_neg, eE_nt, eE_an, eE_or, eE_cmp, eE_ch, eE_ite, eE_tup, eE_lst, eE_ix, eE_sl, eE_rv, eE_isi, eE_call, eE_bf, eE_mt, eE_lam, eT_nt, eT_an, eT_or, eT_cmp, eT_ch, eT_v, eT_call, eT_isi, eT_ix, eT_c, eT_bf, eS_asg, eS_par, eS_lcs, eS_ret, eS_ex, eS_iff, eS_rai, eS_retN, eS_pass, eS_brk, ↓bind_ok, ↓bind_ex, ↓bind_no, evEs, evO, ixD, seqOf, seqL, atI, ixN, nox, c_lt, c_le, c_gt, c_ge, c_isN, c_isntN, c_isB, c_isntB, c_eq, c_ne, pureD, pureDs, near, dle, dles, deq, deqs, blD, setT, setTs, bfD, binD, setIx, truD, newL, isiD, ifsD, wipeD, pf0, pf1, pf2, pf3, pf4, pf5, pf6, pf7, pf8, pf9, pf10, pf11, pf12, pf13, pf14, pf15, pf16, pf17, pf18, pf19, pf20, pf21, pf22, pf23, pf24, pf25, pf26, pf27, pf28, pf29, pg0, pg1, pg2, plm0, sizeMax]), bind_ok]
    exact e2
  obtain ⟨z6, e3⟩ := odd_for (b := 60) (S := cupD c1 :: r1) (bd := odd2Body) (x0 := some (.frz (ns.map D.int))) (x1 := some (.ref 0)) (x2 := y2) (x3 := y3) (x4 := y4) (x5 := y5) (x7 := none) (x8 := none) [.non, .lst [], .tup [.int 0], .tup [.bl true]] y6 (by
    intro d hd
    simp only [List.mem_cons, List.not_mem_nil, or_false] at hd
    rcases hd with rfl | rfl | rfl | rfl <;> exact odd2 (by omega) _ rfl rfl rfl)
  have s3 : stS P (evW P) 60 (.for_ (.nm 6) (.seq (.lst false [(.c .non), (.lst false []), (.tup [(.c (.int 0))]), (.tup [(.c (.bl true))])])) odd2Body) [some (.frz (ns.map D.int)), some (.ref 0), y2, y3, y4, y5, y6, none, none] (cupD c1 :: r1) = .ok (.nx [some (.frz (ns.map D.int)), some (.ref 0), y2, y3, y4, y5, z6, none, none]) (cupD c1 :: r1) := by
    rw [eS_for, it_lst (xs := [.non, .lst [], .tup [.int 0], .tup [.bl true]]) (S1 := cupD c1 :: r1) (by simp [fnR, evSs, evW_e, evW_t, evW_s, eE_c, eE_v, eE_g, eE_bin, eE_neg, eE_nt, eE_an, eE_or, eE_cmp, eE_ch, eE_ite, eE_tup, eE_lst, eE_ix, eE_sl, eE_rv, eE_isi, eE_call, eE_bf, eE_mt, eE_lam, eT_nt, eT_an, eT_or, eT_cmp, eT_ch, eT_v, eT_call, eT_isi, eT_ix, eT_c, eT_bf, eS_asg, eS_par, eS_lcs, eS_ret, eS_ex, eS_iff, eS_rai, eS_retN, eS_pass, eS_brk, ↓bind_ok, ↓bind_ex, ↓bind_no, evEs, evO, ixD, seqOf, seqL, atI, ixN, nox, c_lt, c_le, c_gt, c_ge, c_isN, c_isntN, c_isB, c_isntB, c_eq, c_ne, pureD, pureDs, near, dle, dles, deq, deqs, blD, setT, setTs, bfD, binD, setIx, truD, newL, isiD, ifsD, wipeD, pf0, pf1, pf2, pf3, pf4, pf5, pf6, pf7, pf8, pf9, pf10, pf11, pf12, pf13, pf14, pf15, pf16, pf17, pf18, pf19, pf20, pf21, pf22, pf23, pf24, pf25, pf26, pf27, pf28, pf29, pg0, pg1, pg2, plm0, sizeMax]), bind_ok]
    exact e3
  -- the written heaps
  have q2 : Reach (led gH) [2] 2 := .root (by simp)
  have q1 : Reach (led gH) [2] 1 := .step q2 (by decide)
  have q0 : Reach (led gH) [2] 0 := .step q1 (by decide)
  obtain ⟨J1, g1⟩ := let_is (b := 59) (by omega) gH_ok (rt_one (a := 2) ⟨_, rfl⟩) (cupD c1 :: r1) (L := gH) .nil (stable_of (by decide))
  have g1 : fnD (evW P) 59 f6 [.tup gD, .tup [.int 2]] (cupD c1 :: r1) = .ok (.tup gD) (cupD c1 :: (r1 ++ J1)) := g1
  generalize r1 ++ J1 = r2 at *
  obtain ⟨J2, g2⟩ := rings_is (b := 59) (by omega) gH_ok (rt_one (a := 2) ⟨_, rfl⟩) (cupD c1 :: r2) (L := gH) .nil (stable_of (by decide)) [0, 1, 2] (by decide) (by decide) (by
    intro a ha
    simp at ha
    rcases ha with rfl | rfl | rfl
    · exact q0
    · exact q1
    · exact q2)
  have g2 : fnD (evW P) 59 f8 [.tup gD, .tup [.int 2]] (cupD c1 :: r2) = .ok (.lst [.int 4]) (cupD c1 :: (r2 ++ J2)) := g2
  generalize r2 ++ J2 = r3 at *
  obtain ⟨J3, g3⟩ := rings_is (b := 59) (by omega) gH_ok rt_nil (cupD c1 :: r3) (L := gH) .nil (stable_of (by decide)) [] (by decide) (by decide) (by simp)
  have g3 : fnD (evW P) 59 f8 [.tup gD, .tup []] (cupD c1 :: r3) = .ok (.lst [.int 0, .int 1, .int 2, .int 4]) (cupD c1 :: (r3 ++ J3)) := g3
  generalize r3 ++ J3 = r4 at *
  have l1 : Lets [] kH [some ([97], []), some ([98], [.adr 0]), none, some ([100], [.adr 0, .adr 3])] := Lets.cons (a := 2) .nil (free_of ⟨_, rfl⟩ (by decide))
  have l2 : Lets [] kH [some ([97], []), none, none, some ([100], [.adr 0, .adr 3])] := Lets.cons (a := 1) l1 (free_of ⟨_, rfl⟩ (by decide))
  have l3 : Lets [1] kH [some ([97], []), some ([98], [.adr 0]), none, some ([100], [.adr 0, .adr 3])] := Lets.cons (a := 2) .nil (free_of ⟨_, rfl⟩ (by decide))
  obtain ⟨J4, g4⟩ := let_is (b := 59) (by omega) kH_ok rt_nil (cupD c1 :: r4) l2 (stable_of (by decide))
  have g4 : fnD (evW P) 59 f6 [.tup kD, .tup []] (cupD c1 :: r4) = .ok (.tup [.tup [.tup [.str [97]], .tup []], .non, .non, .tup [.tup [.str [100]], .tup [.int 0, .int 3]]]) (cupD c1 :: (r4 ++ J4)) := g4
  generalize r4 ++ J4 = r5 at *
  obtain ⟨J5, g5⟩ := rings_is (b := 59) (by omega) kH_ok rt_nil (cupD c1 :: r5) l2 (stable_of (by decide)) [] (by decide) (by decide) (by simp)
  have g5 : fnD (evW P) 59 f8 [.tup kD, .tup []] (cupD c1 :: r5) = .ok (.lst [.int 0, .int 3]) (cupD c1 :: (r5 ++ J5)) := g5
  generalize r5 ++ J5 = r6 at *
  obtain ⟨J6, g6⟩ := let_is (b := 59) (by omega) kH_ok (rt_one (a := 1) ⟨_, rfl⟩) (cupD c1 :: r6) l3 (stable_of (by decide))
  have g6 : fnD (evW P) 59 f6 [.tup kD, .tup [.int 1]] (cupD c1 :: r6) = .ok (.tup [.tup [.tup [.str [97]], .tup []], .tup [.tup [.str [98]], .tup [.int 0]], .non, .tup [.tup [.str [100]], .tup [.int 0, .int 3]]]) (cupD c1 :: (r6 ++ J6)) := g6
  generalize r6 ++ J6 = r7 at *
  have m1 : Lets [] (kH.take 3) [some ([97], []), some ([98], [.adr 0]), none] := Lets.cons (a := 2) .nil (free_of ⟨_, rfl⟩ (by decide))
  have m2 : Lets [] (kH.take 3) [some ([97], []), none, none] := Lets.cons (a := 1) m1 (free_of ⟨_, rfl⟩ (by decide))
  have m3 : Lets [] (kH.take 3) [none, none, none] := Lets.cons (a := 0) m2 (free_of ⟨_, rfl⟩ (by decide))
  obtain ⟨J7, g7⟩ := let_is (b := 59) (by omega) k3_ok rt_nil (cupD c1 :: r7) m3 (stable_of (by decide))
  have g7 : fnD (evW P) 59 f6 [.tup (kD.take 3), .tup []] (cupD c1 :: r7) = .ok (.tup [.non, .non, .non]) (cupD c1 :: (r7 ++ J7)) := g7
  generalize r7 ++ J7 = r8 at *
  obtain ⟨c2, r9, g8⟩ := right (b := 59) (by omega) c1 r8 gH_ok (rt_two (a := 0) ⟨_, rfl⟩)
  have g8 : fnD (evW P) 59 f5 [.ref 0, .tup gD, .tup [.int 0, .int 0]] (cupD c1 :: r8) = .ok (.bl true) (cupD c2 :: r9) := g8
  have w1 : Reach (led kH) [1] 1 := .root (by simp)
  have w0 : Reach (led kH) [1] 0 := .step w1 (by decide)
  obtain ⟨J9, g9⟩ := rings_is (b := 59) (by omega) kH_ok (rt_one (a := 1) ⟨_, rfl⟩) (cupD c2 :: r9) l3 (stable_of (by decide)) [0, 1] (by decide) (by decide) (by
    intro a ha
    simp at ha
    rcases ha with rfl | rfl
    · exact w0
    · exact w1)
  have g9 : fnD (evW P) 59 f8 [.tup kD, .tup [.int 1]] (cupD c2 :: r9) = .ok (.lst [.int 3]) (cupD c2 :: (r9 ++ J9)) := g9
  refine ⟨cupD c2 :: (r9 ++ J9), ?_⟩
  simp only [gD, kD, List.take_succ_cons, List.take_zero] at g1 g2 g3 g4 g5 g6 g7 g8 g9
  rw [fnD_run rfl]
  simp [fnR, evSs, evW_e, evW_t, evW_s, eE_c, eE_v, eE_g, eE_bin, eE_neg, eE_nt, eE_an, eE_or, eE_cmp, eE_ch, eE_ite, eE_tup, eE_lst, eE_ix, eE_sl, eE_rv, eE_isi, eE_call, eE_bf, eE_mt, eE_lam, eT_nt, eT_an, eT_or, eT_cmp, eT_ch, eT_v, eT_call, eT_isi, eT_ix, eT_c, eT_bf, eS_asg, eS_par, eS_lcs, eS_ret, eS_ex, eS_iff, eS_rai, eS_retN, eS_pass, eS_brk, ↓bind_ok, ↓bind_ex, ↓bind_no, evEs, evO, ixD, seqOf, seqL, atI, ixN, nox, c_lt, c_le, c_gt, c_ge, c_isN, c_isntN, c_isB, c_isntB, c_eq, c_ne, pureD, pureDs, near, dle, dles, deq, deqs, blD, setT, setTs, bfD, binD, setIx, truD, newL, isiD, ifsD, wipeD, pf0, pf1, pf2, pf3, pf4, pf5, pf6, pf7, pf8, pf9, pf10, pf11, pf12, pf13, pf14, pf15, pf16, pf17, pf18, pf19, pf20, pf21, pf22, pf23, pf24, pf25, pf26, pf27, pf28, pf29, pg0, pg1, pg2, plm0, f0, e0, s1, s2, s3, g1, g2, g3, g4, g5, g6, g7, g8, g9, sizeMax, slD, cutD, sIx]

end Kp
end

theorem Kp.lm_eq : Kd.lmE = Kp.lmP := by
  have e : ∀ (k : Nat) (d : Option Nv.D), Kd.lmE.exv k d = Kp.lmP.exv k d := by
    intro k d
    match k with
    | 0 => kernel_rfl
    | 1 => kernel_rfl
    | k + 2 => rfl
  have e' : Kd.lmE.exv = Kp.lmP.exv := funext fun k => funext fun d => e k d
  show Nv.Lm.mk Kd.lmE.okv Kd.lmE.exv = _
  rw [e']
  rfl
theorem Kp.P_eq : Kd.P = Kp.P := by
  have e1 : (Kd.cs.map fun p => Nv.D.int p.2) = Kp.P.glb := by rfl
  show Nv.Pg.mk Kd.fns (Kd.cs.map fun p => Nv.D.int p.2) [Kd.lmE] = _
  rw [e1, Kp.lm_eq]
  rfl
set_option maxRecDepth 100000 in
set_option maxHeartbeats 8000000 in
theorem PySem.Challenge.cw_nearanswer_k52_whole_cells_let_go_and_ri_holds : PySem.Challenge.rw_nearanswer_k52_whole_cells_let_go_and_ri.Holds := by
  refine Kd.holds fun ns hl _ => ?_
  obtain ⟨S, e⟩ := Kp.law_true ns hl
  obtain ⟨m, e⟩ := Nv.evW_fn e
  rw [Kp.P_eq]
  exact ⟨m, S, e⟩
