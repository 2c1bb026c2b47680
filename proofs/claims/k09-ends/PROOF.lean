import PyProof.Rows.All
import Wide.All
import OpenK.AllK
import Wide.FinOn
import PySem.Challenge.RW_whichpass_k09_ends
import KE.KStateDown
import Lean
import HandS.ForMost
import HandS.Walk
import HandS.Wide
import HandS.WideBits
import HandS.TupAny
import HandS.TupMul
import HandS.IsInst
import HandS.Flow
import HandS.Style
import HandS.CallSlots
import HandS.ForExc
import HandS.Conv
import HandS.Rev
import HandS.SortInts
import HandS.Deep
import HandS.RaiseMore
import HandS.StrMore
import HandS.Small
import PyProof.LongRange
import HandS.Defaults
import PyProof.Draws
import PyProof.EnumMake
import PyProof.ListRange
import HandS.Dict
import HandS.Ends
import HandS.Words
import HandS.WordsExc
import HandS.Head0
import HandS.Head1
import HandS.Head2
import HandS.HeadEnd
import HandS.HeadHook1
import HandS.HeadHook2
import HandS.Base
import HandS.Call
import HandS.More
set_option Elab.async false
set_option linter.all false
set_option maxRecDepth 100000
set_option maxHeartbeats 4000000
set_option exponentiation.threshold 256
/-! Ivy, part A: plain data, a small language over it, its evaluator. -/
namespace Ivy

abbrev Tx := List Nat
abbrev Ky := Sum Int Tx

/-- data: tuples are trees; rol: a list that nobody changes; lst, dct: fresh ones that nobody else holds; ref: a cell -/
inductive D where
  | non | bl (b : Bool) | int (i : Int) | str (x : Tx) | tup (xs : List D) | rol (xs : List D)
  | lst (xs : List D) | dct (kvs : List (Ky × D)) | ref (n : Nat) | exc (c : Nat) (fs : List (Tx × D))
instance : Inhabited D := ⟨.non⟩

inductive C where
  | lst (xs : List D) | dct (kvs : List (Ky × D)) | ins (c : Nat) (fs : List (Tx × D))

abbrev Hh := List C
abbrev Sl := List (Option D)

inductive R (α : Type) where
  | ok (a : α) (h : Hh) | err (c : Nat) (fs : List (Tx × D)) (h : Hh) | no

def R.bind {α β : Type} (r : R α) (k : α → Hh → R β) : R β := match r with
  | .ok a h => k a h
  | .err c fs h => .err c fs h
  | .no => .no

/-- nothing is raised -/
def R.calm {α : Type} (r : R α) : R α := match r with
  | .err _ _ _ => .no
  | r => r

def D.isNon : D → Bool
  | .non => true
  | _ => false
def D.pers : D → Bool
  | .lst _ => false
  | .dct _ => false
  | .exc _ _ => false
  | _ => true

mutual
def D.low (n : Nat) : D → Bool
  | .tup xs => D.lowL n xs
  | .rol xs => D.lowL n xs
  | .lst xs => D.lowL n xs
  | .dct kvs => D.lowK n kvs
  | .ref m => decide (m < n)
  | .exc _ fs => D.lowF n fs
  | _ => true
def D.lowL (n : Nat) : List D → Bool
  | [] => true
  | d :: ds => D.low n d && D.lowL n ds
def D.lowK (n : Nat) : List (Ky × D) → Bool
  | [] => true
  | (_, d) :: ds => D.low n d && D.lowK n ds
def D.lowF (n : Nat) : List (Tx × D) → Bool
  | [] => true
  | (_, d) :: ds => D.low n d && D.lowF n ds
end
def C.low (n : Nat) : C → Bool
  | .lst xs => D.lowL n xs
  | .dct kvs => D.lowK n kvs
  | .ins _ fs => D.lowF n fs

mutual
def D.beq : D → D → Bool
  | .non, .non => true
  | .bl a, .bl b => a == b
  | .int a, .int b => decide (a = b)
  | .str a, .str b => decide (a = b)
  | .tup a, .tup b => D.beqL a b
  | .rol a, .rol b => D.beqL a b
  | .lst a, .lst b => D.beqL a b
  | .dct a, .dct b => D.beqK a b
  | .ref a, .ref b => a == b
  | .exc c a, .exc d b => c == d && D.beqF a b
  | _, _ => false
def D.beqL : List D → List D → Bool
  | [], [] => true
  | a :: as, b :: bs => D.beq a b && D.beqL as bs
  | _, _ => false
def D.beqK : List (Ky × D) → List (Ky × D) → Bool
  | [], [] => true
  | (j, a) :: as, (k, b) :: bs => decide (j = k) && (D.beq a b && D.beqK as bs)
  | _, _ => false
def D.beqF : List (Tx × D) → List (Tx × D) → Bool
  | [], [] => true
  | (j, a) :: as, (k, b) :: bs => decide (j = k) && (D.beq a b && D.beqF as bs)
  | _, _ => false
end
def C.beq : C → C → Bool
  | .lst a, .lst b => D.beqL a b
  | .dct a, .dct b => D.beqK a b
  | .ins c a, .ins d b => c == d && D.beqF a b
  | _, _ => false

/-- the first cells of g are those of h, or name only old cells -/
def trimOk (n : Nat) : Hh → Hh → Bool
  | [], _ => true
  | c :: h, c' :: g => (C.beq c c' || C.low n c') && trimOk n h g
  | _ :: _, [] => false
/-- a fresh list or dict, if a new cell is handed back -/
def lift (n : Nat) (g : Hh) : D → D
  | .ref m => if n ≤ m then (match g[m]? with
    | some (.lst xs) => .lst xs
    | some (.dct kvs) => .dct kvs
    | _ => .ref m) else .ref m
  | d => d
/-- a call's end: cells that nobody names any more are dropped -/
def finish (h : Hh) (d : D) (g : Hh) : R D :=
  if g.length = h.length then .ok d g
  else if D.low h.length (lift h.length g d) && trimOk h.length h g then .ok (lift h.length g d) (g.take h.length)
  else .ok d g
def finishX (h : Hh) (c : Nat) (fs : List (Tx × D)) (g : Hh) : R D :=
  if g.length = h.length then .err c fs g
  else if D.lowF h.length fs && trimOk h.length h g then .err c fs (g.take h.length)
  else .err c fs g

/-! ### operations on values -/
def lsD (h : Hh) : D → Option (List D)
  | .lst xs => some xs
  | .rol xs => some xs
  | .ref n => (match h[n]? with
    | some (.lst xs) => some xs
    | _ => none)
  | _ => none
/-- a list that may be changed, or a fresh one -/
def lmD (h : Hh) : D → Option (List D)
  | .lst xs => some xs
  | .ref n => (match h[n]? with
    | some (.lst xs) => some xs
    | _ => none)
  | _ => none
def sqD (h : Hh) : D → Option (List D)
  | .tup xs => some xs
  | d => lsD h d
def dcD (h : Hh) : D → Option (List (Ky × D))
  | .dct kvs => some kvs
  | .ref n => (match h[n]? with
    | some (.dct kvs) => some kvs
    | _ => none)
  | _ => none
def kyD : D → Option Ky
  | .int i => some (.inl i)
  | .str x => some (.inr x)
  | _ => none
def kD : Ky → D
  | .inl i => .int i
  | .inr x => .str x
def kGet (kvs : List (Ky × D)) (k : Ky) : Option D := match kvs with
  | [] => none
  | (j, d) :: r => if j = k then some d else kGet r k
def kPut (kvs : List (Ky × D)) (k : Ky) (d : D) : List (Ky × D) := if (kvs.any fun p => decide (p.1 = k)) = true then kvs.map (fun p => if p.1 = k then (p.1, d) else p) else kvs ++ [(k, d)]
def kDrop (kvs : List (Ky × D)) (k : Ky) : List (Ky × D) := match kvs with
  | [] => []
  | (j, e) :: r => if j = k then kDrop r k else (j, e) :: kDrop r k
def fGet (fs : List (Tx × D)) (x : Tx) : Option D := match fs with
  | [] => none
  | (y, d) :: r => if y = x then some d else fGet r x
def fPut (fs : List (Tx × D)) (x : Tx) (d : D) : List (Tx × D) := match fs with
  | [] => [(x, d)]
  | (y, e) :: r => if y = x then (y, d) :: r else (y, e) :: fPut r x d

/-- Python's place of an index -/
def ixP (n : Nat) (i : Int) : Option Nat := if 0 ≤ i then (if i < n then some i.toNat else none) else if -(n : Int) ≤ i then some (i + n).toNat else none
def atP {α : Type} (xs : List α) (i : Int) : Option α := match ixP xs.length i with
  | some j => xs[j]?
  | none => none
/-- a slice's end, brought within -/
def clip (n d : Nat) : Option Int → Nat
  | none => d
  | some v => if v < 0 then (v + (n : Int)).toNat else min v.toNat n
def cut {α : Type} (xs : List α) (lo hi : Option Int) : List α := (xs.drop (clip xs.length 0 lo)).take (clip xs.length xs.length hi - clip xs.length 0 lo)

def big : Nat := 2 ^ 500000
def bigD : Nat := 2 ^ 9000
abbrev cells : Nat := 16777216

/-- lists told by their cells, three deep -/
def told : Nat → Hh → D → D
  | k + 1, h, .ref n => (match h[n]? with
    | some (.lst xs) => .lst (xs.map (told k h))
    | _ => .ref n)
  | k + 1, h, .lst xs => .lst (xs.map (told k h))
  | _, _, d => d
def okTx (x : Tx) : Bool := x.all fun c => decide (c < 1114112)
mutual
/-- data that == may look at, at most k deep -/
def D.dat : Nat → D → Bool
  | _, .non => true
  | _, .bl _ => true
  | _, .int _ => true
  | _, .str x => okTx x
  | k + 1, .tup xs => D.datL k xs
  | k + 1, .rol xs => D.datL k xs
  | k + 1, .lst xs => D.datL k xs
  | _, _ => false
def D.datL : Nat → List D → Bool
  | _, [] => true
  | k, d :: ds => D.dat k d && D.datL k ds
end
mutual
def D.eqv : D → D → Bool
  | .non, .non => true
  | .bl a, .bl b => a == b
  | .bl a, .int b => decide ((if a then 1 else 0) = b)
  | .int a, .bl b => decide (a = (if b then 1 else 0))
  | .int a, .int b => decide (a = b)
  | .str a, .str b => decide (a = b)
  | .tup a, .tup b => D.eqvL a b
  | .rol a, .rol b => D.eqvL a b
  | .rol a, .lst b => D.eqvL a b
  | .lst a, .rol b => D.eqvL a b
  | .lst a, .lst b => D.eqvL a b
  | _, _ => false
def D.eqvL : List D → List D → Bool
  | [], [] => true
  | a :: as, b :: bs => D.eqv a b && D.eqvL as bs
  | _, _ => false
end
/-- two flat data, none a bool beside an int -/
def scalD : D → D → Bool
  | .non, .non => true
  | .non, .int _ => true
  | .int _, .non => true
  | .non, .bl _ => true
  | .bl _, .non => true
  | .non, .str _ => true
  | .str _, .non => true
  | .int _, .int _ => true
  | .bl _, .bl _ => true
  | .str _, .str _ => true
  | .int _, .str _ => true
  | .str _, .int _ => true
  | .bl _, .str _ => true
  | .str _, .bl _ => true
  | _, _ => false
def eqD (h : Hh) (a b : D) : Option Bool := if scalD a b then some (D.eqv a b) else if D.dat 60 (told 3 h a) && D.dat 60 (told 3 h b) then some (D.eqv (told 3 h a) (told 3 h b)) else none

/-! ### texts -/
def ltL : List Nat → List Nat → Bool
  | [], [] => false
  | [], _ :: _ => true
  | _ :: _, [] => false
  | a :: as, b :: bs => if a = b then ltL as bs else decide (a < b)
def preL : List Nat → List Nat → Bool
  | [], _ => true
  | _ :: _, [] => false
  | a :: as, b :: bs => decide (a = b) && preL as bs
/-- y stands somewhere in x -/
def inL (y : List Nat) : List Nat → Bool
  | [] => preL y []
  | c :: x => preL y (c :: x) || inL y x
/-- x parted at each sign c -/
def splL (c : Nat) : List Nat → List (List Nat)
  | [] => [[]]
  | a :: x => if a = c then [] :: splL c x else match splL c x with
    | [] => [[a]]
    | w :: ws => (a :: w) :: ws
def joinT (sep : List Nat) : List (List Nat) → List Nat
  | [] => []
  | [w] => w
  | w :: ws => w ++ (sep ++ joinT sep ws)
def strI (i : Int) : Tx := if i < 0 then 45 :: (Nat.toDigits 10 i.natAbs).map Char.toNat else (Nat.toDigits 10 i.natAbs).map Char.toNat
/-- int(x) of a text -/
def intT (x : Tx) : Option Int := PySem.intText? ⟨x.toArray⟩

/-! ### operations -/
inductive Ty where
  | int | bool | str | tuple | list | dict | none | cls (c : Nat)
inductive Op where
  | add | sub | mul | fdiv | mod | pow | shl | shr | band | neg | iadd | imul
  | lt | le | gt | ge | eq | ne | isNone | notNone | isB | notB | isIn | notIn
  | idx | slice (lo hi : Bool) | sliceRev | tup | lst | dict
  | len | abs | int | str | bool | tuple | list | all | any | sum | min2 | max2 | minL | maxL | sorted | bits | ord | chr
  | isi (ts : List Ty)
  | append | extend | pop | popAt | insert | index | count | reverse | setItem | getF (f : Tx) | setF (f : Tx)
  | tupRng | listRng | tupRev | listRev
  | get1 | get2 | join | split | words | strip | startswith | endswith | fstr (pieces : List (Option Tx))

def intsL : List D → Option (List Int)
  | [] => some []
  | .int i :: ds => (intsL ds).map (i :: ·)
  | _ => none
def boolsL : List D → Option (List Bool)
  | [] => some []
  | .bl b :: ds => (boolsL ds).map (b :: ·)
  | _ => none
def strsL : List D → Option (List Tx)
  | [] => some []
  | .str b :: ds => (strsL ds).map (b :: ·)
  | _ => none
def persL (ds : List D) : Bool := ds.all D.pers

def mulOk (i j : Int) : Bool := decide (i.natAbs < 18446744073709551616) || decide (j.natAbs < 18446744073709551616) || (decide (i.natAbs < big) && decide (j.natAbs < big))
def intR (i : Int) (h : Hh) : R D := .ok (.int i) h
def blR (b : Bool) (h : Hh) : R D := .ok (.bl b) h
def whenR {α : Type} (b : Bool) (r : R α) : R α := if b = true then r else .no

def opAdd (h : Hh) : D → D → R D
  | .int i, .int j => .ok (.int (i + j)) h
  | .str x, .str y => whenR (decide (x.length + y.length ≤ cells)) (.ok (.str (x ++ y)) h)
  | .tup x, .tup y => whenR (decide (x.length + y.length ≤ cells)) (.ok (.tup (x ++ y)) h)
  | a, b => match lmD h a, lmD h b with
    | some x, some y => whenR (decide (x.length + y.length ≤ cells)) (.ok (.lst (x ++ y)) h)
    | _, _ => .no
def opMul (h : Hh) : D → D → R D
  | .int i, .int j => whenR (mulOk i j) (.ok (.int (i * j)) h)
  | a, .int k => match lmD h a with
    | some x => whenR (decide (-9223372036854775808 ≤ k) && decide (k < 9223372036854775808) && decide (x.length * k.toNat ≤ cells)) (.ok (.lst (List.replicate k.toNat x).flatten) h)
    | none => match a with
      | .tup x => whenR (!x.isEmpty && decide (2 ≤ k) && decide (k ≤ 1000) && decide (x.length ≤ 1000)) (.ok (.tup (List.replicate k.toNat x).flatten) h)
      | _ => .no
  | _, _ => .no
def opCmp (h : Hh) (f : Int → Int → Bool) (g : Tx → Tx → Bool) : D → D → R D
  | .int i, .int j => blR (f i j) h
  | .str x, .str y => blR (g x y) h
  | _, _ => .no
def flatD : D → Bool
  | .non => true
  | .bl _ => true
  | .int _ => true
  | .str _ => true
  | _ => false
def opIn (h : Hh) (neg : Bool) : D → D → R D
  | .str x, .str y => (match x with
    | [c] => blR (if neg then !decide (c ∈ y) else decide (c ∈ y)) h
    | _ => .no)
  | a, b => match dcD h b with
    | some kvs => (match kyD a with
      | some k => blR (if neg then !(kGet kvs k).isSome else (kGet kvs k).isSome) h
      | none => .no)
    | none => match sqD h b with
      | some ys => if flatD a && ys.all flatD then blR (if neg then !ys.any (fun y => D.eqv y a) else ys.any (fun y => D.eqv y a)) h
        else match lsD h b with
          | some ys => if D.pers a && (D.dat 60 a && D.datL 59 ys) then blR (if neg then !ys.any (fun y => D.eqv y a) else ys.any (fun y => D.eqv y a)) h else .no
          | none => .no
      | none => .no
def opIdx (h : Hh) : D → D → R D
  | .str x, .int i => whenR (decide (x.length ≤ cells)) (match atP x i with
    | some c => .ok (.str [c]) h
    | none => .no)
  | a, b => match dcD h a with
    | some kvs => (match kyD b with
      | some k => (match kGet kvs k with
        | some d => .ok d h
        | none => .no)
      | none => .no)
    | none => match sqD h a, b with
      | some xs, .int i => (match atP xs i with
        | some d => .ok d h
        | none => .no)
      | _, _ => .no
def opSlice (h : Hh) (a : D) (lo hi : Option Int) : R D := match a with
  | .str x => whenR (decide (x.length ≤ cells)) (.ok (.str (cut x lo hi)) h)
  | .tup x => .ok (.tup (cut x lo hi)) h
  | a => match lsD h a with
    | some x => .ok (.lst (cut x lo hi)) h
    | none => .no
/-- a datum's type: a built-in one, or a class -/
def tyD (h : Hh) : D → Option (Sum Ty Nat)
  | .non => some (.inl .none)
  | .bl _ => some (.inl .bool)
  | .int _ => some (.inl .int)
  | .str _ => some (.inl .str)
  | .tup _ => some (.inl .tuple)
  | .rol _ => some (.inl .list)
  | .lst _ => some (.inl .list)
  | .dct _ => some (.inl .dict)
  | .ref n => (match h[n]? with
    | some (.lst _) => some (.inl .list)
    | some (.dct _) => some (.inl .dict)
    | some (.ins c _) => some (.inr c)
    | none => none)
  | .exc _ _ => none
def isB (s t : Ty) : Bool := match s, t with
  | .none, .none => true
  | .bool, .bool => true
  | .bool, .int => true
  | .int, .int => true
  | .str, .str => true
  | .tuple, .tuple => true
  | .list, .list => true
  | .dict, .dict => true
  | _, _ => false
def tyIs (sub : Nat → Nat → Bool) (k : Sum Ty Nat) (t : Ty) : Bool := match k with
  | .inl s => isB s t
  | .inr c => match t with
    | .cls k => sub c k
    | _ => false
/-- a cell's list changed -/
def chg (h : Hh) (n : Nat) (xs : List D) (d : D) : R D := .ok d (h.set n (.lst xs))
def insB (x : Int) : List Int → List Int
  | [] => [x]
  | y :: ys => if x ≤ y then x :: y :: ys else y :: insB x ys
def sortI : List Int → List Int
  | [] => []
  | x :: xs => insB x (sortI xs)
def insS (x : Tx) : List Tx → List Tx
  | [] => [x]
  | y :: ys => if ltL y x then y :: insS x ys else x :: y :: ys
def sortS : List Tx → List Tx
  | [] => []
  | x :: xs => insS x (sortS xs)
def firstAt (y : D) : Nat → List D → Option Nat
  | _, [] => none
  | k, z :: zs => if D.eqv z y then some k else firstAt y (k + 1) zs
def piecesT : List (Option Tx) → List D → Option Tx
  | [], [] => some []
  | some x :: ps, ds => (piecesT ps ds).map (x ++ ·)
  | none :: ps, .int i :: ds => (piecesT ps ds).map (strI i ++ ·)
  | none :: ps, .str y :: ds => (piecesT ps ds).map (y ++ ·)
  | _, _ => none
def pairsD : List D → Option (List (Ky × D))
  | [] => some []
  | k :: v :: r => (match kyD k, pairsD r with
    | some k, some kvs => if D.pers v then some ((k, v) :: kvs) else none
    | _, _ => none)
  | _ => none
def bitLen (i : Int) : Nat := if i = 0 then 0 else i.natAbs.log2 + 1

structure Src where
  ds : List D
  gd : List (Nat × C)
def rangeL (lo : Int) (n : Nat) (st : Int) : List D := (List.range n).map fun (k : Nat) => D.int (lo + (k : Int) * st)
def rangeN (lo hi st : Int) : Nat := if st > 0 then (if lo < hi then ((hi - lo - 1) / st + 1).toNat else 0) else (if lo > hi then ((lo - hi - 1) / (-st) + 1).toNat else 0)
def smallD : D → Bool
  | .int i => decide (i.natAbs < 4611686018427387904)
  | _ => false
def rngS : List D → Option Src
  | [.int j] => some ⟨rangeL 0 (rangeN 0 j 1) 1, []⟩
  | [.int i, .int j] => some ⟨rangeL i (rangeN i j 1) 1, []⟩
  | [.int i, .int j, .int c] => if c ≠ 0 ∧ c.natAbs < bigD then some ⟨rangeL i (rangeN i j c) c, []⟩ else none
  | _ => none
def opApp (sub : Nat → Nat → Bool) (o : Op) (ds : List D) (h : Hh) : R D := match o, ds with
  | .add, [a, b] => opAdd h a b
  | .sub, [.int i, .int j] => intR (i - j) h
  | .iadd, [.int i, .int j] => intR (i + j) h
  | .iadd, [.str x, .str y] => whenR (decide (x.length + y.length ≤ cells)) (.ok (.str (x ++ y)) h)
  | .imul, [.int i, .int j] => whenR (mulOk i j) (intR (i * j) h)
  | .mul, [a, b] => opMul h a b
  | .fdiv, [.int i, .int j] => whenR (decide (j ≠ 0) && decide (j.natAbs < bigD)) (intR (i.fdiv j) h)
  | .mod, [.int i, .int j] => whenR (decide (j ≠ 0)) (intR (i.fmod j) h)
  | .pow, [.int i, .int j] => whenR (decide (0 ≤ j) && decide (j ≤ 1000000) && decide (i.natAbs < 18446744073709551616)) (intR (i ^ j.toNat) h)
  | .shl, [.int i, .int j] => whenR (decide (0 ≤ j) && decide (j ≤ 1000000) && decide (i.natAbs < big)) (intR (i * 2 ^ j.toNat) h)
  | .shr, [.int i, .int j] => whenR (decide (0 ≤ j)) (intR (i / 2 ^ j.toNat) h)
  | .neg, [.int i] => intR (-i) h
  | .lt, [a, b] => opCmp h (fun i j => decide (i < j)) (fun x y => ltL x y) a b
  | .le, [a, b] => opCmp h (fun i j => decide (i ≤ j)) (fun x y => !ltL y x) a b
  | .gt, [a, b] => opCmp h (fun i j => decide (j < i)) (fun x y => ltL y x) a b
  | .ge, [a, b] => opCmp h (fun i j => decide (j ≤ i)) (fun x y => !ltL x y) a b
  | .eq, [a, b] => (match eqD h a b with
    | some k => blR k h
    | none => .no)
  | .ne, [a, b] => (match eqD h a b with
    | some k => blR (!k) h
    | none => .no)
  | .isNone, [a] => blR (D.isNon a) h
  | .notNone, [a] => blR (!D.isNon a) h
  | .isB, [.bl a, .bl b] => blR (a == b) h
  | .notB, [.bl a, .bl b] => blR (!(a == b)) h
  | .isIn, [a, b] => opIn h false a b
  | .notIn, [a, b] => opIn h true a b
  | .idx, [a, b] => opIdx h a b
  | .slice false false, [a] => opSlice h a none none
  | .slice true false, [a, .int i] => opSlice h a (some i) none
  | .slice false true, [a, .int j] => opSlice h a none (some j)
  | .slice true true, [a, .int i, .int j] => opSlice h a (some i) (some j)
  | .sliceRev, [a] => (match lsD h a with
    | some xs => .ok (.lst xs.reverse) h
    | none => .no)
  | .tup, ds => whenR (persL ds && decide (ds.length ≤ cells)) (.ok (.tup ds) h)
  | .lst, ds => whenR (persL ds && decide (ds.length ≤ cells)) (.ok (.lst ds) h)
  | .dict, ds => (match pairsD ds with
    | some kvs => .ok (.dct (kvs.foldl (fun acc kv => kPut acc kv.1 kv.2) [])) h
    | none => .no)
  | .len, [.str x] => whenR (decide (x.length ≤ cells)) (intR x.length h)
  | .len, [a] => (match sqD h a with
    | some xs => intR xs.length h
    | none => match dcD h a with
      | some kvs => intR kvs.length h
      | none => .no)
  | .abs, [.int i] => intR (if i < 0 then -i else i) h
  | .int, [.int i] => intR i h
  | .int, [.bl b] => intR (if b then 1 else 0) h
  | .int, [.str x] => whenR (decide (x.length ≤ 640)) (match intT x with
    | some i => intR i h
    | none => .no)
  | .str, [.int i] => whenR (decide (i.natAbs.log2 < 1920)) (.ok (.str (strI i)) h)
  | .str, [.str x] => .ok (.str x) h
  | .bool, [.int i] => blR (i != 0) h
  | .bool, [.bl b] => blR b h
  | .tuple, [.tup xs] => .ok (.tup xs) h
  | .tuple, [a] => (match lsD h a with
    | some xs => .ok (.tup xs) h
    | none => .no)
  | .list, [a] => (match sqD h a with
    | some xs => .ok (.lst xs) h
    | none => .no)
  | .all, [a] => (match (lsD h a).bind boolsL with
    | some bs => blR (bs.all id) h
    | none => .no)
  | .any, [a] => (match (lsD h a).bind boolsL with
    | some bs => blR (bs.any id) h
    | none => .no)
  | .sum, [a] => (match (lsD h a).bind intsL with
    | some ns => intR ns.sum h
    | none => .no)
  | .min2, [.int i, .int j] => intR (if j < i then j else i) h
  | .max2, [.int i, .int j] => intR (if j > i then j else i) h
  | .minL, [a] => (match (lsD h a).bind intsL with
    | some (n :: ns) => intR (ns.foldl min n) h
    | _ => .no)
  | .maxL, [a] => (match (lsD h a).bind intsL with
    | some (n :: ns) => intR (ns.foldl max n) h
    | _ => .no)
  | .sorted, [a] => (match lsD h a with
    | some xs => (match intsL xs with
      | some ns => whenR (decide (ns.length ≤ cells)) (.ok (.lst ((sortI ns).map .int)) h)
      | none => .no)
    | none => .no)
  | .bits, [.int i] => intR (bitLen i) h
  | .isi ts, [a] => (match tyD h a with
    | some k => blR (ts.any (tyIs sub k)) h
    | none => .no)
  | .append, [.ref n, d] => (match h[n]? with
    | some (.lst xs) => whenR (D.pers d && decide (xs.length < cells)) (chg h n (xs ++ [d]) .non)
    | _ => .no)
  | .extend, [.ref n, a] => (match h[n]?, lmD h a with
    | some (.lst xs), some ys => whenR (decide (xs.length + ys.length ≤ cells)) (chg h n (xs ++ ys) .non)
    | _, _ => .no)
  | .pop, [.ref n] => (match h[n]? with
    | some (.lst xs) => (match xs[xs.length - 1]? with
      | some d => chg h n xs.dropLast d
      | none => .no)
    | _ => .no)
  | .popAt, [.ref n, .int i] => (match h[n]? with
    | some (.lst xs) => (match ixP xs.length i with
      | some k => (match xs[k]? with
        | some d => chg h n (xs.eraseIdx k) d
        | none => .no)
      | none => .no)
    | _ => .no)
  | .insert, [.ref n, .int i, d] => (match h[n]? with
    | some (.lst xs) => whenR (D.pers d && decide (xs.length < cells)) (chg h n (xs.take (clip xs.length 0 (some i)) ++ d :: xs.drop (clip xs.length 0 (some i))) .non)
    | _ => .no)
  | .reverse, [.ref n] => (match h[n]? with
    | some (.lst xs) => chg h n xs.reverse .non
    | _ => .no)
  | .index, [.str x, .str [c]] => (match x.idxOf? c with
    | some k => intR k h
    | none => .no)
  | .index, [a, b] => (match sqD h a with
    | some ys => if (flatD b && ys.all flatD) || (D.dat 60 b && ys.all (D.dat 60)) then (match firstAt b 0 ys with
      | some k => intR k h
      | none => .no) else .no
    | none => .no)
  | .count, [.str x, .str [c]] => intR (x.count c) h
  | .setItem, [d, .ref n, b] => (match h[n]?, b with
    | some (.lst xs), .int i => (match ixP xs.length i with
      | some k => whenR (D.pers d) (chg h n (xs.set k d) .non)
      | none => .no)
    | some (.dct kvs), b => (match kyD b with
      | some k => whenR (D.pers d && decide (kvs.length < cells)) (.ok .non (h.set n (.dct (kPut kvs k d))))
      | none => .no)
    | _, _ => .no)
  | .getF f, [.ref n] => (match h[n]? with
    | some (.ins _ fs) => (match fGet fs f with
      | some d => .ok d h
      | none => .no)
    | _ => .no)
  | .getF f, [.exc _ fs] => (match fGet fs f with
    | some d => .ok d h
    | none => .no)
  | .setF f, [d, .ref n] => (match h[n]? with
    | some (.ins c fs) => whenR (D.pers d && decide (fs.length < 900)) (.ok .non (h.set n (.ins c (fPut fs f d))))
    | _ => .no)
  | .get1, [a, b] => (match dcD h a, kyD b with
    | some kvs, some k => .ok ((kGet kvs k).getD .non) h
    | _, _ => .no)
  | .get2, [a, b, d] => (match dcD h a, kyD b with
    | some kvs, some k => whenR (D.pers d) (.ok ((kGet kvs k).getD d) h)
    | _, _ => .no)
  | .join, [.str x, a] => (match (sqD h a).bind strsL with
    | some ys => whenR (decide ((ys.map (·.length)).sum + ys.length * x.length ≤ cells)) (.ok (.str (joinT x ys)) h)
    | none => .no)
  | .split, [.str x, .str [c]] => whenR (decide (x.length + 2 ≤ cells)) (.ok (.lst ((splL c x).map .str)) h)
  | .startswith, [.str x, .str y] => blR (preL y x) h
  | .tupRng, ds => (match rngS ds with
    | some s => whenR (decide (s.ds.length ≤ cells)) (.ok (.tup s.ds) h)
    | none => .no)
  | .listRng, ds => (match rngS ds with
    | some s => whenR (decide (s.ds.length ≤ cells) && ds.all smallD) (.ok (.lst s.ds) h)
    | none => .no)
  | .tupRev, [a] => (match lsD h a with
    | some xs => .ok (.tup xs.reverse) h
    | none => .no)
  | .listRev, [a] => (match lsD h a with
    | some xs => .ok (.lst xs.reverse) h
    | none => .no)
  | .fstr ps, ds => (match piecesT ps ds with
    | some x => whenR (decide (x.length ≤ 100000)) (.ok (.str x) h)
    | none => .no)
  | _, _ => .no

/-! ### the language -/
inductive Tg where
  | name (i : Nat) | tup (ts : List Tg)
mutual
inductive Ex where
  | var (i : Nat) | lit (d : D) | glob (k : Nat)
  | op (o : Op) (es : List Ex)
  | box (e : Ex) | ck (k : Nat) (e : Ex)
  | call (f : Nat) (es : List Ex) (perm : List Nat)
  | mk (c f : Nat) (es : List Ex)
  | meth (c f : Nat) (m : Tx) (o : Ex) (es : List Ex)
  | and (a b : Ex) | or (a b : Ex) | not (t : Te) | ifx (t : Te) (a b : Ex)
  | chain (o p : Op) (a b c : Ex)
  | comp (own : List Nat) (t : Tg) (it : It) (cs : List Te) (e : Ex)
  | comp2 (own : List Nat) (t : Tg) (it : It) (cs : List Te) (own2 : List Nat) (t2 : Tg) (it2 : It) (cs2 : List Te) (e : Ex)
/-- tests -/
inductive Te where
  | ex (e : Ex) | and (a b : Te) | or (a b : Te) | not (a : Te)
/-- what a loop walks -/
inductive It where
  | seq (e : Ex) | rng (es : List Ex) | enum (e : Ex) | zip (a b : Ex) | rev (e : Ex) | items (e : Ex)
end
mutual
inductive St where
  | asg (t : Tg) (e : Ex) | augI (o : Op) (a i e : Ex) | augF (o : Op) (f : Tx) (a e : Ex)
  | ex (e : Ex) | ret (e : Ex) | retN
  | ite (c : Te) (a b : List St) | whl (c : Te) (b : List St) (ks : List Nat) | for (t : Tg) (it : It) (b : List St) (ks : List Nat)
  | raise (c : Nat) (fs : List Tx) (es : List Ex) | try (b : List St) (hs : List Hd) | thru (b : List St)
  | pass | brk | cont
inductive Hd where
  | mk (c : Nat) (i : Option Nat) (b : List St)
end
structure G where
  fn : Nat → List D → Hh → R D
  cs : Nat → D
  sub : Nat → Nat → Bool
  w : Nat

mutual
def putT : Tg → D → Sl → Option Sl
  | .name i, d, δ => if D.pers d then some (δ.set i (some d)) else none
  | .tup ts, .tup ds, δ => putTs ts ds δ
  | _, _, _ => none
def putTs : List Tg → List D → Sl → Option Sl
  | [], [], δ => some δ
  | t :: ts, d :: ds, δ => (match putT t d δ with
    | some δ' => putTs ts ds δ'
    | none => none)
  | _, _, _ => none
end
def wipeS (δ : Sl) : List Nat → Sl
  | [] => δ
  | i :: is => (wipeS δ is).set i none
def boxR : D → Hh → R D
  | .lst xs, h => .ok (.ref h.length) (h ++ [.lst xs])
  | .dct kvs, h => .ok (.ref h.length) (h ++ [.dct kvs])
  | d, h => .ok d h
/-- a checked int (0), list's cell (1), dict's cell (2) -/
def ckR (k : Nat) (d : D) (h : Hh) : R D := match d with
  | .int i => whenR (k == 0) (.ok (.int i) h)
  | .ref n => (match h[n]? with
    | some (.lst _) => whenR (k == 1) (.ok (.ref n) h)
    | some (.dct _) => whenR (k == 2) (.ok (.ref n) h)
    | _ => .no)
  | _ => .no
def truD (h : Hh) : D → R Bool
  | .non => .ok false h
  | .bl b => .ok b h
  | .int i => .ok (i != 0) h
  | .str x => whenR (decide (x.length ≤ cells)) (.ok (!x.isEmpty) h)
  | d => match sqD h d with
    | some xs => .ok (!xs.isEmpty) h
    | none => match dcD h d with
      | some kvs => .ok (!kvs.isEmpty) h
      | none => .no
def gdOk (h : Hh) : List (Nat × C) → Bool
  | [] => true
  | (n, c) :: r => (match h[n]? with
    | some c' => C.beq c c'
    | none => false) && gdOk h r
def srcL (h : Hh) : D → Option Src
  | .lst xs => some ⟨xs, []⟩
  | .rol xs => some ⟨xs, []⟩
  | .ref n => (match h[n]? with
    | some (.lst xs) => some ⟨xs, [(n, .lst xs)]⟩
    | _ => none)
  | _ => none
def srcD (h : Hh) : D → Option Src
  | .tup xs => some ⟨xs, []⟩
  | .str x => some ⟨x.map fun c => .str [c], []⟩
  | d => srcL h d
def srcT (h : Hh) : D → Option Src
  | .tup xs => some ⟨xs, []⟩
  | d => srcL h d
def enumL : Nat → List D → List D
  | _, [] => []
  | k, d :: ds => .tup [.int (k : Int), d] :: enumL (k + 1) ds
def zipL : List D → List D → List D
  | a :: as, b :: bs => .tup [a, b] :: zipL as bs
  | _, _ => []
def lpC (gd : List (Nat × C)) (step : D → Hh → R (Option D)) : List D → Hh → R (List D)
  | [], h => whenR (gdOk h gd) (.ok [] h)
  | x :: xs, h => whenR (gdOk h gd) (((step x h).calm).bind fun y h => (lpC gd step xs h).bind fun ys h => .ok (match y with
    | some y => y :: ys
    | none => ys) h)
def lpC2 (gd : List (Nat × C)) (step : D → Hh → R (List D)) : List D → Hh → R (List D)
  | [], h => whenR (gdOk h gd) (.ok [] h)
  | x :: xs, h => whenR (gdOk h gd) (((step x h).calm).bind fun y h => (lpC2 gd step xs h).bind fun ys h => .ok (y ++ ys) h)
def pick (ds : List D) (perm : List Nat) : List D := perm.filterMap fun i => ds[i]?

mutual
def evE (g : G) : Ex → Sl → Hh → R D
  | .var i, δ, h => (match δ[i]? with
    | some (some d) => .ok d h
    | _ => .no)
  | .lit d, _, h => .ok d h
  | .glob k, _, h => .ok (g.cs k) h
  | .op o es, δ, h => (evEs g es δ h).bind fun ds h => opApp g.sub o ds h
  | .box e, δ, h => (evE g e δ h).bind fun d h => boxR d h
  | .ck k e, δ, h => (evE g e δ h).bind fun d h => ckR k d h
  | .call f es perm, δ, h => (evEs g es δ h).bind fun ds h => whenR (persL ds) (g.fn f (match perm with
    | [] => ds
    | _ => pick ds perm) h)
  | .mk c f es, δ, h => (evEs g es δ h).bind fun ds h => whenR (persL ds) ((g.fn f (.ref h.length :: ds) (h ++ [.ins c []])).bind fun d h2 => match d with
    | .non => .ok (.ref h.length) h2
    | _ => .no)
  | .meth c f m o es, δ, h => (evE g o δ h).bind fun x h => match x with
    | .ref n => (match h[n]? with
      | some (.ins c' fs) => if c' = c ∧ (fGet fs m).isNone then (evEs g es δ h).bind fun ds h => whenR (persL ds) (g.fn f (.ref n :: ds) h) else .no
      | _ => .no)
    | _ => .no
  | .and a b, δ, h => (evE g a δ h).bind fun x h => match x with
    | .bl k => if k = true then evE g b δ h else .ok (.bl false) h
    | _ => .no
  | .or a b, δ, h => (evE g a δ h).bind fun x h => match x with
    | .bl k => if k = true then .ok (.bl true) h else evE g b δ h
    | _ => .no
  | .not t, δ, h => (evT g t δ h).bind fun k h => .ok (.bl (!k)) h
  | .ifx t a b, δ, h => (evT g t δ h).bind fun k h => if k = true then evE g a δ h else evE g b δ h
  | .chain o p a b c, δ, h => (evE g a δ h).bind fun x h => (evE g b δ h).bind fun y h => (opApp g.sub o [x, y] h).bind fun z h => match z with
    | .bl k => if k = true then (evE g c δ h).bind fun w h => opApp g.sub p [y, w] h else .ok (.bl false) h
    | _ => .no
  | .comp own t it cs e, δ, h => (evI g it δ h).bind fun src h => (lpC src.gd (fun x h => match putT t x (wipeS δ own) with
    | some δ' => (evTs g cs δ' h).bind fun k h => if k = true then (evE g e δ' h).bind fun y h => whenR (D.pers y) (.ok (some y) h) else .ok none h
    | none => .no) src.ds h).bind fun ys h => whenR (decide (ys.length ≤ cells)) (.ok (.lst ys) h)
  | .comp2 own t it cs own2 t2 it2 cs2 e, δ, h => (evI g it δ h).bind fun src h => (lpC2 src.gd (fun x h => match putT t x (wipeS δ own) with
    | some δ' => (evTs g cs δ' h).bind fun k h => if k = true then (evI g it2 δ' h).bind fun src2 h => lpC src2.gd (fun x h => match putT t2 x (wipeS δ' own2) with
      | some δ2 => (evTs g cs2 δ2 h).bind fun k h => if k = true then (evE g e δ2 h).bind fun y h => whenR (D.pers y) (.ok (some y) h) else .ok none h
      | none => .no) src2.ds h else .ok [] h
    | none => .no) src.ds h).bind fun ys h => whenR (decide (ys.length ≤ cells)) (.ok (.lst ys) h)
def evEs (g : G) : List Ex → Sl → Hh → R (List D)
  | [], _, h => .ok [] h
  | e :: es, δ, h => (evE g e δ h).bind fun x h => (evEs g es δ h).bind fun xs h => .ok (x :: xs) h
def evT (g : G) : Te → Sl → Hh → R Bool
  | .ex e, δ, h => (evE g e δ h).bind fun x h => truD h x
  | .and a b, δ, h => (evT g a δ h).bind fun k h => if k = true then evT g b δ h else .ok false h
  | .or a b, δ, h => (evT g a δ h).bind fun k h => if k = true then .ok true h else evT g b δ h
  | .not a, δ, h => (evT g a δ h).bind fun k h => .ok (!k) h
def evTs (g : G) : List Te → Sl → Hh → R Bool
  | [], _, h => .ok true h
  | t :: ts, δ, h => (evT g t δ h).bind fun k h => if k = true then evTs g ts δ h else .ok false h
def evI (g : G) : It → Sl → Hh → R Src
  | .seq e, δ, h => (evE g e δ h).bind fun x h => match srcD h x with
    | some s => .ok s h
    | none => .no
  | .rng es, δ, h => (evEs g es δ h).bind fun xs h => match rngS xs with
    | some s => .ok s h
    | none => .no
  | .enum e, δ, h => (evE g e δ h).bind fun x h => match srcT h x with
    | some s => .ok ⟨enumL 0 s.ds, s.gd⟩ h
    | none => .no
  | .zip a b, δ, h => (evE g a δ h).bind fun x h => (evE g b δ h).bind fun y h => match srcT h x, srcT h y with
    | some s, some s' => .ok ⟨zipL s.ds s'.ds, s.gd ++ s'.gd⟩ h
    | _, _ => .no
  | .rev e, δ, h => (evE g e δ h).bind fun x h => match srcT h x with
    | some s => .ok ⟨s.ds.reverse, s.gd⟩ h
    | none => .no
  | .items e, δ, h => .no
end

inductive Rs where
  | nx (δ : Sl) (h : Hh) | ret (d : D) (h : Hh) | brk (δ : Sl) (h : Hh) | cont (δ : Sl) (h : Hh)
  | err (c : Nat) (fs : List (Tx × D)) (δ : Sl) (h : Hh) | no
/-- an expression's answer, then more -/
def R.go {α : Type} (r : R α) (δ : Sl) (k : α → Hh → Rs) : Rs := match r with
  | .ok a h => k a h
  | .err c fs h => .err c fs δ h
  | .no => .no
def lpF (gd : List (Nat × C)) (t : Tg) (ks : List Nat) (body : Sl → Hh → Rs) : List D → Sl → Hh → Rs
  | [], δ, h => if gdOk h gd = true then .nx (wipeS δ ks) h else .no
  | x :: xs, δ, h => if gdOk h gd = true then (match putT t x δ with
    | some δ' => (match body δ' h with
      | .nx δ2 h2 => lpF gd t ks body xs (wipeS δ2 ks) h2
      | .cont δ2 h2 => lpF gd t ks body xs (wipeS δ2 ks) h2
      | .brk δ2 h2 => .nx (wipeS δ2 ks) h2
      | r => r)
    | none => .no) else .no
def lpW (test : Sl → Hh → R Bool) (ks : List Nat) (body : Sl → Hh → Rs) : Nat → Sl → Hh → Rs
  | 0, _, _ => .no
  | n + 1, δ, h => (test δ h).go δ fun k h => if k = true then (match body δ h with
    | .nx δ2 h2 => lpW test ks body n (wipeS δ2 ks) h2
    | .cont δ2 h2 => lpW test ks body n (wipeS δ2 ks) h2
    | .brk δ2 h2 => .nx (wipeS δ2 ks) h2
    | r => r) else .nx (wipeS δ ks) h
/-- a suite's end: the name of its exception goes -/
def offS (i : Option Nat) : Rs → Rs
  | .nx δ h => .nx (match i with | some i => δ.set i none | none => δ) h
  | .brk δ h => .brk (match i with | some i => δ.set i none | none => δ) h
  | .cont δ h => .cont (match i with | some i => δ.set i none | none => δ) h
  | r => r
mutual
def evS (g : G) : St → Sl → Hh → Rs
  | .asg t e, δ, h => (evE g e δ h).go δ fun x h => match putT t x δ with
    | some δ' => .nx δ' h
    | none => .no
  | .augI o a i e, δ, h => (evE g a δ h).go δ fun x h => (evE g i δ h).go δ fun y h => (opApp g.sub .idx [x, y] h).go δ fun z h => (evE g e δ h).go δ fun v h =>
    (opApp g.sub o [z, v] h).go δ fun r h => (opApp g.sub .setItem [r, x, y] h).go δ fun _ h => .nx δ h
  | .augF o f a e, δ, h => (evE g a δ h).go δ fun x h => (opApp g.sub (.getF f) [x] h).go δ fun z h => (evE g e δ h).go δ fun v h =>
    (opApp g.sub o [z, v] h).go δ fun r h => (opApp g.sub (.setF f) [r, x] h).go δ fun _ h => .nx δ h
  | .ex e, δ, h => (evE g e δ h).go δ fun _ h => .nx δ h
  | .ret e, δ, h => (evE g e δ h).go δ fun x h => .ret x h
  | .retN, _, h => .ret .non h
  | .ite c a b, δ, h => (evT g c δ h).go δ fun k h => if k = true then evSs g a δ h else evSs g b δ h
  | .whl c b ks, δ, h => lpW (evT g c) ks (evSs g b) g.w (wipeS δ ks) h
  | .for t it b ks, δ, h => (evI g it δ h).go δ fun s h => lpF s.gd t ks (evSs g b) s.ds (wipeS δ ks) h
  | .raise c fs es, δ, h => (evEs g es δ h).go δ fun ds h => if persL ds = true then .err c (fs.zip ds) δ h else .no
  | .try b hs, δ, h => (match evSs g b δ h with
    | .err c fs δ2 h2 => evH g hs c fs δ2 h2
    | r => r)
  | .thru b, δ, h => (match evSs g b δ h with
    | .err _ _ _ _ => .no
    | r => r)
  | .pass, δ, h => .nx δ h
  | .brk, δ, h => .brk δ h
  | .cont, δ, h => .cont δ h
def evSs (g : G) : List St → Sl → Hh → Rs
  | [], δ, h => .nx δ h
  | s :: ss, δ, h => (match evS g s δ h with
    | .nx δ2 h2 => evSs g ss δ2 h2
    | r => r)
def evH (g : G) : List Hd → Nat → List (Tx × D) → Sl → Hh → Rs
  | [], c, fs, δ, h => .err c fs δ h
  | .mk c i b :: hs, k, fs, δ, h => if g.sub k c = true then offS i (evSs g b (match i with | some i => δ.set i (some (.exc k fs)) | none => δ) h) else evH g hs k fs δ h
end
structure Fn where
  np : Nat
  ns : Nat
  body : List St
/-- what a def's body leaves -/
def endF (h : Hh) : Rs → R D
  | .nx _ g => finish h .non g
  | .ret d g => finish h d g
  | .err c fs _ g => finishX h c fs g
  | _ => .no
def startS (fn : Fn) (ds : List D) : Sl := ds.map some ++ List.replicate (fn.ns - ds.length) none
def runF (g : G) (fn : Fn) (ds : List D) (h : Hh) : R D := if ds.length = fn.np then endF h (evSs g fn.body (startS fn ds) h) else .no
structure Pg where
  fns : List Fn
  cs : Nat → D
  sub : Nat → Nat → Bool
  w : Nat
def callF (P : Pg) : Nat → Nat → List D → Hh → R D
  | 0, _, _, _ => .no
  | n + 1, f, ds, h => match P.fns[f]? with
    | some fn => runF ⟨callF P n, P.cs, P.sub, P.w⟩ fn ds h
    | none => .no
def Pg.g (P : Pg) (n : Nat) : G := ⟨callF P n, P.cs, P.sub, P.w⟩
end Ivy

/-! Ivy, part B: how plain data lies in the layer's heap. -/
namespace Ivy
open PySem PySem.Spec PyProof.Rows L2

def tx (x : Tx) : Str := ⟨x.toArray⟩
theorem tx_inj {x y : Tx} (h : tx x = tx y) : x = y := by
  have h2 : x.toArray = y.toArray := congrArg Str.cps h
  simpa using congrArg Array.toList h2
def kyV : Ky → Key
  | .inl i => .inl i
  | .inr x => .inr (tx x)
theorem kyV_inj {j k : Ky} (h : kyV j = kyV k) : j = k := by
  cases j <;> cases k <;> simp only [kyV, Sum.inl.injEq, Sum.inr.injEq, reduceCtorEq] at h
  · rw [h]
  · rw [tx_inj h]

/-- what is fixed: the written part, the classes' addresses, which of them have instances, the exception at hand (its object, its dict) -/
structure Ev where
  K : PySem.W.Frag
  ca : Nat → Addr
  ic : Nat → Bool
  xo : Option (Addr × Nat × Option Addr)

/-- a list that nobody changes -/
def RoL (K : PySem.W.Frag) (H : Hp) (a : Addr) (xs : List V) : Prop :=
  (∃ o, H a = some (.frz o (.lst xs))) ∨
    ∃ (o : Obj) (its : Array Value) (n : Nat), K.lookup a = some o ∧ o.cls = .type "list" ∧ o.dict = none ∧ o.data = .seq its n ∧ its.size ≤ sizeLine ∧ Vals xs its.toList
theorem RoL.sq {K : PySem.W.Frag} {H : Hp} {a : Addr} {xs : List V} (h : RoL K H a xs) : SqL K H a xs := by
  rcases h with ⟨o, h⟩ | h
  · exact .inl (.inr ⟨o, h⟩)
  · exact .inr h

mutual
/-- a lasting datum and its value -/
inductive RP (v : Ev) (ι : List Addr) (H : Hp) : D → V → Prop
  | non : RP v ι H .non .non
  | bl (b : Bool) : RP v ι H (.bl b) (.bl b)
  | int (i : Int) : RP v ι H (.int i) (.int i)
  | str (x : Tx) : RP v ι H (.str x) (.str (tx x))
  | tup {ds : List D} {a : Addr} {vs : List V} : SqT v.K H a vs → RPs v ι H ds vs → RP v ι H (.tup ds) (.ref a)
  | rol {ds : List D} {a : Addr} {vs : List V} : RoL v.K H a vs → RPs v ι H ds vs → RP v ι H (.rol ds) (.ref a)
  | ref {n : Nat} {a : Addr} : ι[n]? = some a → RP v ι H (.ref n) (.ref a)
  | exc {c : Nat} {fs : List (Tx × D)} {a : Addr} : v.xo = some (a, c, none) → RP v ι H (.exc c []) (.ref a)
  | exd {c : Nat} {fs : List (Tx × D)} {a d : Addr} {fvs : List (Str × V)} {vs : List V} : v.xo = some (a, c, some d) → H d = some (.xd fvs) →
      (∀ (k : Nat) (f : Tx) (x : D), fs[k]? = some (f, x) → fGet fs f = some x → ∃ y, vs[k]? = some y ∧ fvs.lookup (tx f) = some y) → RPs v ι H (fs.map (·.2)) vs → RP v ι H (.exc c fs) (.ref a)
inductive RPs (v : Ev) (ι : List Addr) (H : Hp) : List D → List V → Prop
  | nil : RPs v ι H [] []
  | cons {d : D} {ds : List D} {x : V} {xs : List V} : RP v ι H d x → RPs v ι H ds xs → RPs v ι H (d :: ds) (x :: xs)
end

/-- the kind of an object -/
def kd : HO → Nat
  | .lst _ => 0
  | .dK _ => 1
  | .ins _ _ _ => 2
  | .frz _ u => kd u
  | _ => 3
/-- what an expression may do: new cells behind the old ones; what is no changeable cell of ours stays -/
structure Ext (ι : List Addr) (H : Hp) (ι' : List Addr) (H' : Hp) : Prop where
  pre : ∃ more, ι' = ι ++ more ∧ ∀ b ∈ more, H b = none ∧ b ∉ ι
  fix : ∀ p o, H p = some o → (p ∈ ι → ¬ Mut (some o)) → H' p = some o
  kin : ∀ p o, p ∈ ι → H p = some o → ∃ o', H' p = some o' ∧ kd o' = kd o

section
variable {v : Ev} {ι ι' ι2 : List Addr} {H H' H2 : Hp}
theorem Ext.refl : Ext ι H ι H := ⟨⟨[], by simp, fun _ h => nomatch h⟩, fun _ _ h _ => h, fun _ o _ h => ⟨o, h, rfl⟩⟩
theorem Ext.trans (e : Ext ι H ι' H') (f : Ext ι' H' ι2 H2) : Ext ι H ι2 H2 := by
  obtain ⟨m1, rfl, h1⟩ := e.pre
  obtain ⟨m2, rfl, h2⟩ := f.pre
  refine ⟨⟨m1 ++ m2, by simp, fun b hb => ?_⟩, fun p o hp hm => ?_, fun p o hin hp => ?_⟩
  · rcases List.mem_append.mp hb with hb | hb
    · exact h1 b hb
    · have q := h2 b hb
      have nb : b ∉ ι := fun z => q.2 (List.mem_append_left _ z)
      refine ⟨?_, nb⟩
      cases r : H b with
      | none => rfl
      | some o =>
        have := e.fix b o r fun z => absurd z nb
        rw [q.1] at this; cases this
  · refine f.fix p o (e.fix p o hp hm) fun z => ?_
    rcases List.mem_append.mp z with z | z
    · exact hm z
    · rw [(h1 p z).1] at hp; cases hp
  · obtain ⟨o1, q1, k1⟩ := e.kin p o hin hp
    obtain ⟨o2, q2, k2⟩ := f.kin p o1 (List.mem_append_left _ hin) q1
    exact ⟨o2, q2, k2.trans k1⟩
theorem Ext.at {n : Nat} {a : Addr} (e : Ext ι H ι' H') (h : ι[n]? = some a) : ι'[n]? = some a := by
  obtain ⟨m, rfl, _⟩ := e.pre
  have hn : n < ι.length := (List.getElem?_eq_some_iff.mp h).1
  rw [List.getElem?_append_left hn]; exact h
theorem Ext.mem {a : Addr} (e : Ext ι H ι' H') (h : a ∈ ι) : a ∈ ι' := by
  obtain ⟨m, rfl, _⟩ := e.pre
  exact List.mem_append_left _ h
theorem Ext.sqT {K : PySem.W.Frag} {a : Addr} {xs : List V} (e : Ext ι H ι' H') (h : SqT K H a xs) : SqT K H' a xs := by
  rcases h with (h | ⟨o, h⟩) | h
  · exact .inl (.inl (e.fix a _ h fun _ z => z))
  · exact .inl (.inr ⟨o, e.fix a _ h fun _ z => z⟩)
  · exact .inr h
theorem Ext.roL {K : PySem.W.Frag} {a : Addr} {xs : List V} (e : Ext ι H ι' H') (h : RoL K H a xs) : RoL K H' a xs := by
  rcases h with ⟨o, h⟩ | h
  · exact .inl ⟨o, e.fix a _ h fun _ z => z⟩
  · exact .inr h
mutual
theorem RP.mono (e : Ext ι H ι' H') : ∀ {d : D} {x : V}, RP v ι H d x → RP v ι' H' d x
  | _, _, .non => .non
  | _, _, .bl b => .bl b
  | _, _, .int i => .int i
  | _, _, .str x => .str x
  | _, _, .tup h r => .tup (e.sqT h) (RPs.mono e r)
  | _, _, .rol h r => .rol (e.roL h) (RPs.mono e r)
  | _, _, .ref h => .ref (e.at h)
  | _, _, .exc (fs := fs) h => .exc (fs := fs) h
  | _, _, .exd h1 h2 h3 r => .exd h1 (e.fix _ _ h2 fun _ z => z) h3 (RPs.mono e r)
theorem RPs.mono (e : Ext ι H ι' H') : ∀ {ds : List D} {xs : List V}, RPs v ι H ds xs → RPs v ι' H' ds xs
  | _, _, .nil => .nil
  | _, _, .cons h r => .cons (RP.mono e h) (RPs.mono e r)
end
theorem RPs.length : ∀ {ds : List D} {xs : List V}, RPs v ι H ds xs → ds.length = xs.length
  | _, _, .nil => rfl
  | _, _, .cons _ r => congrArg (· + 1) r.length
theorem RPs.get : ∀ {ds : List D} {xs : List V} {i : Nat} {d : D}, RPs v ι H ds xs → ds[i]? = some d → ∃ x, xs[i]? = some x ∧ RP v ι H d x
  | _, _, _, _, .nil, e => by simp at e
  | _, _, 0, _, .cons r _, e => by simp at e; subst e; exact ⟨_, rfl, r⟩
  | _, _, i + 1, d, .cons _ t, e => by
    obtain ⟨x, h1, h2⟩ := RPs.get (i := i) (d := d) t (by simpa using e)
    exact ⟨x, by simpa using h1, h2⟩
theorem RPs.app : ∀ {ds es : List D} {xs ys : List V}, RPs v ι H ds xs → RPs v ι H es ys → RPs v ι H (ds ++ es) (xs ++ ys)
  | _, _, _, _, .nil, s => s
  | _, _, _, _, .cons r t, s => .cons r (RPs.app t s)
theorem RPs.set {d : D} {x : V} (r : RP v ι H d x) : ∀ {ds : List D} {xs : List V} (i : Nat), RPs v ι H ds xs → RPs v ι H (ds.set i d) (xs.set i x)
  | _, _, _, .nil => .nil
  | _, _, 0, .cons _ t => .cons r t
  | _, _, i + 1, .cons q t => .cons q (RPs.set r i t)
theorem RPs.take : ∀ {ds : List D} {xs : List V} (n : Nat), RPs v ι H ds xs → RPs v ι H (ds.take n) (xs.take n)
  | _, _, 0, _ => .nil
  | _, _, _ + 1, .nil => .nil
  | _, _, n + 1, .cons r t => .cons r (RPs.take n t)
theorem RPs.drop : ∀ {ds : List D} {xs : List V} (n : Nat), RPs v ι H ds xs → RPs v ι H (ds.drop n) (xs.drop n)
  | _, _, 0, r => r
  | _, _, _ + 1, .nil => .nil
  | _, _, n + 1, .cons _ t => RPs.drop n t
theorem RPs.rev {ds : List D} {xs : List V} (r : RPs v ι H ds xs) : RPs v ι H ds.reverse xs.reverse := by
  induction ds generalizing xs with
  | nil => cases r; exact .nil
  | cons d ds ih =>
    cases r with
    | cons h t => simp only [List.reverse_cons]; exact (ih t).app (.cons h .nil)
theorem RP.pers {d : D} {x : V} (r : RP v ι H d x) (h : D.pers d = true) : RP v ι H d x := r
end

/-- names and data of a dict, of an instance -/
def RK (v : Ev) (ι : List Addr) (H : Hp) (kvs : List (Ky × D)) (kvs' : List (Key × V)) : Prop := kvs'.map (·.1) = kvs.map (fun p => kyV p.1) ∧ RPs v ι H (kvs.map (·.2)) (kvs'.map (·.2))
def RF (v : Ev) (ι : List Addr) (H : Hp) (fs : List (Tx × D)) (fs' : List (Str × V)) : Prop := fs'.map (·.1) = fs.map (fun p => tx p.1) ∧ RPs v ι H (fs.map (·.2)) (fs'.map (·.2))
def CR (v : Ev) (ι : List Addr) (H : Hp) (a : Addr) : C → Prop
  | .lst ds => ∃ vs, H a = some (.lst vs) ∧ RPs v ι H ds vs
  | .dct kvs => ∃ kvs', H a = some (.dK kvs') ∧ RK v ι H kvs kvs'
  | .ins c fs => ∃ dx fs', v.ic c = true ∧ H a = some (.ins (v.ca c) dx fs') ∧ RF v ι H fs fs'
structure HR (v : Ev) (ι : List Addr) (H : Hp) (h : Hh) : Prop where
  len : ι.length = h.length
  nd : ι.Nodup
  cell : ∀ (n : Nat) (a : Addr) (c : C), ι[n]? = some a → h[n]? = some c → CR v ι H a c
/-- the names' values -/
def SR (v : Ev) (ι : List Addr) (H : Hp) (δ : Sl) (σ : L2.St) : Prop := δ.length = σ.length ∧ ∀ (i : Nat) (d : D), δ[i]? = some (some d) → ∃ x, σ[i]? = some (some x) ∧ RP v ι H d x
/-- an expression's answer -/
def RV (v : Ev) (ι : List Addr) (H : Hp) (d : D) (x : V) : Prop := match d with
  | .lst ds => ∃ a vs, x = .ref a ∧ a ∉ ι ∧ H a = some (.lst vs) ∧ RPs v ι H ds vs
  | .dct kvs => ∃ a kvs', x = .ref a ∧ a ∉ ι ∧ H a = some (.dK kvs') ∧ RK v ι H kvs kvs'
  | d => RP v ι H d x
/-- a fresh one is newer than H -/
def New (H : Hp) (d : D) (x : V) : Prop := match d with
  | .lst _ => ∀ a, x = .ref a → H a = none
  | .dct _ => ∀ a, x = .ref a → H a = none
  | _ => True

section
variable {v : Ev} {ι ι' ι2 : List Addr} {H H' H2 : Hp} {h : Hh}
theorem RK.mono (e : Ext ι H ι' H') {kvs : List (Ky × D)} {kvs' : List (Key × V)} (r : RK v ι H kvs kvs') : RK v ι' H' kvs kvs' := ⟨r.1, r.2.mono e⟩
theorem RF.mono (e : Ext ι H ι' H') {fs : List (Tx × D)} {fs' : List (Str × V)} (r : RF v ι H fs fs') : RF v ι' H' fs fs' := ⟨r.1, r.2.mono e⟩
theorem SR.mono (e : Ext ι H ι' H') {δ : Sl} {σ : L2.St} (r : SR v ι H δ σ) : SR v ι' H' δ σ := ⟨r.1, fun i d hd =>
  let ⟨x, h1, h2⟩ := r.2 i d hd
  ⟨x, h1, h2.mono e⟩⟩
theorem RV.of {d : D} {x : V} (r : RP v ι H d x) (hp : D.pers d = true ∨ D.pers d = false ∧ ∃ c fs, d = .exc c fs) : RV v ι H d x := by
  cases d <;> first | exact r | (rcases hp with hp | ⟨_, _, _, hp⟩ <;> cases hp)
theorem RV.rp {d : D} {x : V} (r : RV v ι H d x) (hp : D.pers d = true) : RP v ι H d x := by
  cases d <;> first | exact r | cases hp
theorem New.pers {d : D} {x : V} (hp : D.pers d = true) : New H d x := by
  cases d <;> first | trivial | cases hp
theorem HR.tracked {a : Addr} (r : HR v ι H h) (ha : a ∈ ι) : ∃ o, H a = some o ∧ Mut (some o) := by
  obtain ⟨n, hn, e⟩ := List.getElem_of_mem ha
  have e1 : ι[n]? = some a := by rw [List.getElem?_eq_getElem hn, e]
  have hl : n < h.length := by rw [← r.len]; exact hn
  have c := r.cell n a h[n] e1 (List.getElem?_eq_getElem hl)
  cases q : h[n] with
  | lst ds => rw [q] at c; obtain ⟨vs, z, _⟩ := c; exact ⟨_, z, trivial⟩
  | dct kvs => rw [q] at c; obtain ⟨vs, z, _⟩ := c; exact ⟨_, z, trivial⟩
  | ins c' fs => rw [q] at c; obtain ⟨dx, vs, _, z, _⟩ := c; exact ⟨_, z, trivial⟩
theorem HR.notIn {a : Addr} (r : HR v ι H h) (ha : H a = none) : a ∉ ι := fun z => by
  obtain ⟨o, e, _⟩ := r.tracked z
  rw [ha] at e; cases e
theorem Ext.back {a : Addr} (e : Ext ι H ι' H') (r : HR v ι' H' h) (ha : H' a = none) : H a = none := by
  cases q : H a with
  | none => rfl
  | some o =>
    by_cases z : a ∈ ι
    · obtain ⟨o', e', _⟩ := r.tracked (e.mem z)
      rw [ha] at e'; cases e'
    · have := e.fix a o q fun y => absurd y z
      rw [ha] at this; cases this
theorem RV.mono (e : Ext ι H ι' H') {d : D} {x : V} (r : RV v ι H d x) : RV v ι' H' d x := by
  have out : ∀ (a : Addr) (o : HO), a ∉ ι → H a = some o → a ∉ ι' := fun a o ha ho => by
    obtain ⟨m, rfl, hm⟩ := e.pre
    intro z
    rcases List.mem_append.mp z with z | z
    · exact ha z
    · rw [(hm a z).1] at ho; cases ho
  cases d with
  | lst ds =>
    obtain ⟨a, vs, h1, h2, h3, h4⟩ := r
    exact ⟨a, vs, h1, out a _ h2 h3, e.fix a _ h3 fun z => absurd z h2, h4.mono e⟩
  | dct ds =>
    obtain ⟨a, vs, h1, h2, h3, h4⟩ := r
    exact ⟨a, vs, h1, out a _ h2 h3, e.fix a _ h3 fun z => absurd z h2, h4.mono e⟩
  | non => exact RP.mono e (show RP v ι H .non x from r)
  | bl b => exact RP.mono e (show RP v ι H (.bl b) x from r)
  | int b => exact RP.mono e (show RP v ι H (.int b) x from r)
  | str b => exact RP.mono e (show RP v ι H (.str b) x from r)
  | tup b => exact RP.mono e (show RP v ι H (.tup b) x from r)
  | rol b => exact RP.mono e (show RP v ι H (.rol b) x from r)
  | ref b => exact RP.mono e (show RP v ι H (.ref b) x from r)
  | exc c b => exact RP.mono e (show RP v ι H (.exc c b) x from r)

/-! ### changes -/
theorem ext_new {p : Addr} {o : HO} (hp : H p = none) : Ext ι H ι (upd H p o) :=
  ⟨⟨[], by simp, fun _ z => nomatch z⟩, fun q o' hq _ => by rw [upd_ne (ne_of_none hq hp)]; exact hq, fun q o' _ hq => ⟨o', by rw [upd_ne (ne_of_none hq hp)]; exact hq, rfl⟩⟩
theorem ext_cell {n : Nat} {a : Addr} {o o0 : HO} (r : HR v ι H h) (ha : ι[n]? = some a) (h0 : H a = some o0) (hk : kd o = kd o0) : Ext ι H ι (upd H a o) :=
  ⟨⟨[], by simp, fun _ z => nomatch z⟩, fun q o' hq hm => by
    have hin : a ∈ ι := List.mem_of_getElem? ha
    have ne : q ≠ a := fun z => by
      subst z
      obtain ⟨o2, e2, m2⟩ := r.tracked hin
      rw [hq] at e2; cases e2
      exact hm hin m2
    rw [upd_ne ne]; exact hq, fun q o' _ hq => by
    by_cases z : q = a
    · subst z
      rw [h0] at hq; cases hq
      exact ⟨o, upd_same, hk⟩
    · exact ⟨o', by rw [upd_ne z]; exact hq, rfl⟩⟩
theorem HR.other (r : HR v ι H h) (e : Ext ι H ι H') (k : ∀ (n : Nat) (a : Addr), ι[n]? = some a → H' a = H a) : HR v ι H' h := ⟨r.len, r.nd, fun n a c h1 h2 => by
  have q := r.cell n a c h1 h2
  have ka := k n a h1
  cases c with
  | lst ds => obtain ⟨vs, z1, z2⟩ := q; exact ⟨vs, by rw [ka]; exact z1, z2.mono e⟩
  | dct ds => obtain ⟨vs, z1, z2⟩ := q; exact ⟨vs, by rw [ka]; exact z1, z2.mono e⟩
  | ins c' ds => obtain ⟨dx, vs, z0, z1, z2⟩ := q; exact ⟨dx, vs, z0, by rw [ka]; exact z1, z2.mono e⟩⟩
/-- a new object that is no cell -/
theorem HR.new {p : Addr} {o : HO} (r : HR v ι H h) (hp : H p = none) : HR v ι (upd H p o) h :=
  r.other (ext_new hp) fun n a ha => by
    rw [upd_ne]
    intro z
    subst z
    exact r.notIn hp (List.mem_of_getElem? ha)
theorem nodup_ixA {α : Type} {l : List α} (hN : l.Nodup) {i j : Nat} {x : α} (a : l[i]? = some x) (b : l[j]? = some x) : i = j := by
  obtain ⟨h1, e1⟩ := List.getElem?_eq_some_iff.mp a
  obtain ⟨h2, e2⟩ := List.getElem?_eq_some_iff.mp b
  exact (List.getElem_inj hN).mp (e1.trans e2.symm)
/-- a cell changed -/
theorem HR.set {n : Nat} {a : Addr} {o : HO} {c : C} (r : HR v ι H h) (ha : ι[n]? = some a) (e : Ext ι H ι (upd H a o)) (hc : CR v ι (upd H a o) a c) : HR v ι (upd H a o) (h.set n c) := by
  refine ⟨by rw [List.length_set]; exact r.len, r.nd, fun m b c' h1 h2 => ?_⟩
  by_cases hm : m = n
  · subst hm
    rw [ha] at h1; cases h1
    have hl : m < h.length := by rw [← r.len]; exact (List.getElem?_eq_some_iff.mp ha).1
    rw [List.getElem?_set_self hl] at h2; cases h2
    exact hc
  · have hb : b ≠ a := fun z => hm (nodup_ixA r.nd h1 (z ▸ ha))
    rw [List.getElem?_set_ne (Ne.symm hm)] at h2
    have q := r.cell m b c' h1 h2
    cases c' with
    | lst ds => obtain ⟨vs, z1, z2⟩ := q; exact ⟨vs, by rw [upd_ne hb]; exact z1, z2.mono e⟩
    | dct ds => obtain ⟨vs, z1, z2⟩ := q; exact ⟨vs, by rw [upd_ne hb]; exact z1, z2.mono e⟩
    | ins c' ds => obtain ⟨dx, vs, z0, z1, z2⟩ := q; exact ⟨dx, vs, z0, by rw [upd_ne hb]; exact z1, z2.mono e⟩
/-- a fresh object becomes a cell -/
theorem ext_box {H0 : Hp} {p : Addr} (e : Ext ι H0 ι' H) (hp : p ∉ ι') (h0 : H0 p = none) : Ext ι H0 (ι' ++ [p]) H := by
  obtain ⟨m, rfl, hm⟩ := e.pre
  refine ⟨⟨m ++ [p], by simp, fun b hb => ?_⟩, e.fix, e.kin⟩
  rcases List.mem_append.mp hb with hb | hb
  · exact hm b hb
  · have : b = p := by simpa using hb
    subst this
    exact ⟨h0, fun z => hp (List.mem_append_left _ z)⟩
mutual
theorem RP.more (key : ∀ (n : Nat) (a : Addr), ι[n]? = some a → ι'[n]? = some a) : ∀ {d : D} {x : V}, RP v ι H d x → RP v ι' H d x
  | _, _, .non => .non
  | _, _, .bl b => .bl b
  | _, _, .int i => .int i
  | _, _, .str x => .str x
  | _, _, .tup h r => .tup h (RPs.more key r)
  | _, _, .rol h r => .rol h (RPs.more key r)
  | _, _, .ref h => .ref (key _ _ h)
  | _, _, .exc (fs := fs) h => .exc (fs := fs) h
  | _, _, .exd h1 h2 h3 r => .exd h1 h2 h3 (RPs.more key r)
theorem RPs.more (key : ∀ (n : Nat) (a : Addr), ι[n]? = some a → ι'[n]? = some a) : ∀ {ds : List D} {xs : List V}, RPs v ι H ds xs → RPs v ι' H ds xs
  | _, _, .nil => .nil
  | _, _, .cons h r => .cons (RP.more key h) (RPs.more key r)
end
theorem key_app {p : Addr} : ∀ (n : Nat) (a : Addr), ι[n]? = some a → (ι ++ [p])[n]? = some a := fun n a ha => by
  rw [List.getElem?_append_left (List.getElem?_eq_some_iff.mp ha).1]; exact ha
theorem HR.box {p : Addr} {c : C} (r : HR v ι H h) (hp : p ∉ ι) (hc : CR v ι H p c) : HR v (ι ++ [p]) H (h ++ [c]) := by
  have wide : ∀ (a : Addr) (c : C), CR v ι H a c → CR v (ι ++ [p]) H a c := fun a c q => by
    cases c with
    | lst ds => obtain ⟨vs, z1, z2⟩ := q; exact ⟨vs, z1, z2.more key_app⟩
    | dct ds => obtain ⟨vs, z1, z2, z3⟩ := q; exact ⟨vs, z1, z2, z3.more key_app⟩
    | ins c' ds => obtain ⟨dx, vs, z0, z1, z2, z3⟩ := q; exact ⟨dx, vs, z0, z1, z2, z3.more key_app⟩
  refine ⟨by simp [r.len], ?_, fun n a c' h1 h2 => ?_⟩
  · rw [List.nodup_append]
    exact ⟨r.nd, by simp, fun a ha b hb => by simp at hb; subst hb; rintro rfl; exact hp ha⟩
  · by_cases hn : n < ι.length
    · rw [List.getElem?_append_left hn] at h1
      rw [List.getElem?_append_left (by rw [← r.len]; exact hn)] at h2
      exact wide a c' (r.cell n a c' h1 h2)
    · have hn2 : n = ι.length := by
        have := (List.getElem?_eq_some_iff.mp h1).1
        simp at this; omega
      subst hn2
      simp at h1
      rw [r.len] at h2
      simp at h2
      subst h1 h2
      exact wide _ _ hc
end
end Ivy

/-! Ivy, part C: readings by the evaluator; names, operators, tests. -/
namespace Ivy
open PySem PySem.Spec PyProof.Rows L2

/-! ### answers -/
theorem R.assoc {α β γ : Type} (r : R α) (k : α → Hh → R β) (l : β → Hh → R γ) : (r.bind k).bind l = r.bind fun a h => (k a h).bind l := by cases r <;> rfl
theorem R.okb {α β : Type} (a : α) (h : Hh) (k : α → Hh → R β) : (R.ok a h).bind k = k a h := rfl
/-- how an exception of ours lies -/
def XR (v : Ev) (ι : List Addr) (H : Hp) (c : Nat) (fs : List (Tx × D)) (cls : Value) (dd : Option Addr) : Prop :=
  cls = .ref (v.ca c) ∧ match dd with
    | none => fs = []
    | some d => ∃ fvs vs, H d = some (.xd fvs) ∧ (∀ (k : Nat) (f : Tx) (x : D), fs[k]? = some (f, x) → fGet fs f = some x → ∃ y, vs[k]? = some y ∧ fvs.lookup (tx f) = some y) ∧ RPs v ι H (fs.map (·.2)) vs
abbrev RRel (α β : Type) := List Addr → Hp → Hp → α → β → Prop
def rrE (v : Ev) : RRel D V := fun ι H0 H d x => RV v ι H d x ∧ New H0 d x
inductive rrL (v : Ev) (ι : List Addr) (H0 H : Hp) : List D → List V → Prop
  | nil : rrL v ι H0 H [] []
  | cons {d : D} {ds : List D} {x : V} {xs : List V} : rrE v ι H0 H d x → rrL v ι H0 H ds xs → rrL v ι H0 H (d :: ds) (x :: xs)
def rrB : RRel Bool Bool := fun _ _ _ a b => b = a
class Back {α β : Type} (RR : RRel α β) : Prop where
  back : ∀ {ι : List Addr} {H0 H1 H : Hp} {a : α} {b : β}, (∀ p, H1 p = none → H0 p = none) → RR ι H1 H a b → RR ι H0 H a b
theorem New.back {H0 H1 : Hp} {d : D} {x : V} (k : ∀ p, H1 p = none → H0 p = none) (n : New H1 d x) : New H0 d x := by
  cases d <;> first | trivial | exact fun a e => k a (n a e)
instance {v : Ev} : Back (rrE v) := ⟨fun k r => ⟨r.1, r.2.back k⟩⟩
theorem rrL.back {v : Ev} {ι : List Addr} {H0 H1 H : Hp} (k : ∀ p, H1 p = none → H0 p = none) : ∀ {ds : List D} {xs : List V}, rrL v ι H1 H ds xs → rrL v ι H0 H ds xs
  | _, _, .nil => .nil
  | _, _, .cons a t => .cons ⟨a.1, a.2.back k⟩ (t.back k)
instance {v : Ev} : Back (rrL v) := ⟨fun k r => r.back k⟩
instance : Back rrB := ⟨fun _ r => r⟩

def Go {α β : Type} (RR : RRel α β) (v : Ev) (ι : List Addr) (H : Hp) (r : R α) (Q : β → Hp → Prop) (E : XK) : Prop := match r with
  | .ok d h' => ∀ ι' H' x, Ext ι H ι' H' → HR v ι' H' h' → RR ι' H H' d x → Q x H'
  | .err c fs h' => ∀ ι' H' cls dd, Ext ι H ι' H' → HR v ι' H' h' → XR v ι' H' c fs cls dd → E cls dd H'
  | .no => False

section
variable {v : Ev} {ι ι1 : List Addr} {H H1 : Hp} {h h1 : Hh} {α β γ ζ : Type} {RR : RRel α β} {SS : RRel γ ζ} {Q : β → Hp → Prop} {E : XK}
theorem Go.shift [Back RR] {r : R α} (e : Ext ι H ι1 H1) (hr : HR v ι1 H1 h1) (g : Go RR v ι H r Q E) : Go RR v ι1 H1 r Q E := by
  cases r with
  | ok d h' => exact fun ι' H' x e' r' q => g ι' H' x (e.trans e') r' (Back.back (fun p hp => e.back hr hp) q)
  | err c fs h' => exact fun ι' H' cls dd e' r' q => g ι' H' cls dd (e.trans e') r' q
  | no => exact g
/-- an answer, then more -/
theorem Go.bind [Back RR] {r : R γ} {k : γ → Hh → R α} {Q' : ζ → Hp → Prop} (g : Go RR v ι H (r.bind k) Q E)
    (step : ∀ d h1 ι1 H1 x, r = .ok d h1 → Ext ι H ι1 H1 → HR v ι1 H1 h1 → SS ι1 H H1 d x → Go RR v ι1 H1 (k d h1) Q E → Q' x H1) : Go SS v ι H r Q' E := by
  cases r with
  | ok d h1 => exact fun ι1 H1 x e r' q => step d h1 ι1 H1 x rfl e r' q (Go.shift e r' g)
  | err c fs h1 => exact g
  | no => exact g
theorem Go.imp {r : R α} {Q' : β → Hp → Prop} {E' : XK} (g : Go RR v ι H r Q E) (q : ∀ x H, Q x H → Q' x H) (e : ∀ c d H, E c d H → E' c d H) : Go RR v ι H r Q' E' := by
  cases r with
  | ok d h' => exact fun ι' H' x a b c => q _ _ (g ι' H' x a b c)
  | err c fs h' => exact fun ι' H' x y a b c => e _ _ _ (g ι' H' x y a b c)
  | no => exact g
/-- the answer at hand -/
theorem Go.here {d : α} {x : β} (g : Go RR v ι H (.ok d h) Q E) (hr : HR v ι H h) (q : RR ι H H d x) : Q x H := g ι H x .refl hr q
end

/-! ### the readings -/
section
variable (v : Ev) (g : G) (W : WX)
def tE (e : Ex) : TE := fun σ H Q => ∃ ι δ h, HR v ι H h ∧ SR v ι H δ σ ∧ Go (rrE v) v ι H (evE g e δ h) Q (fun c d H' => W c d σ H')
def tL (es : List Ex) : TA := fun σ H Q => ∃ ι δ h, HR v ι H h ∧ SR v ι H δ σ ∧ Go (rrL v) v ι H (evEs g es δ h) Q (fun c d H' => W c d σ H')
def tT (t : Te) : TT := fun σ H Q => ∃ ι δ h, HR v ι H h ∧ SR v ι H δ σ ∧ Go rrB v ι H (evT g t δ h) Q (fun c d H' => W c d σ H')
def tTs (t : List Te) : TT := fun σ H Q => ∃ ι δ h, HR v ι H h ∧ SR v ι H δ σ ∧ Go rrB v ι H (evTs g t δ h) Q (fun c d H' => W c d σ H')
end
/-- what every place has -/
structure Cb (X : Cx) (v : Ev) (W : WX) : Prop where
  hK : X.K = v.K
  tk : Takes X W
  nd : X.N.Nodup
  hu : X.A.units + 80 < cLine
theorem Cb.hu64 {X : Cx} {v : Ev} {W : WX} (h : Cb X v W) : X.A.units + 64 < cLine := by have := h.hu; omega
/-- outside an except suite -/
structure Cc (X : Cx) (v : Ev) (W : WX) : Prop extends Cb X v W where
  calm : X.calm = true
  po : PassesOwn (model X.prog X.w) X.A X.env X.xe

theorem PE.imp {X : Cx} {e : Expr} {t t' : TE} (h : PE X e t) (k : ∀ σ H Q, t' σ H Q → t σ H Q) : PE X e t' := ⟨fun pins s σ H Q I q => h.run pins s σ H Q I (k σ H Q q)⟩
theorem PT.imp {X : Cx} {e : Expr} {t t' : TT} (h : PT X e t) (k : ∀ σ H Q, t' σ H Q → t σ H Q) : PT X e t' := ⟨fun pins s σ H Q I q => h.run pins s σ H Q I (k σ H Q q)⟩
theorem PA.imp {X : Cx} {e : List Expr} {t t' : TA} (h : PA X e t) (k : ∀ σ H Q, t' σ H Q → t σ H Q) : PA X e t' := ⟨fun pos pins s σ H Q I q => h.run pos pins s σ H Q I (k σ H Q q)⟩
theorem PS.imp {X : Cx} {e : Stmt} {t t' : TS} (h : PS X e t) (k : ∀ D σ H, t' D σ H → t D σ H) : PS X e t' := ⟨fun pins s σ H D I q => h.run pins s σ H D I (k D σ H q)⟩
theorem PSs.imp {X : Cx} {e : List Stmt} {t t' : TS} (h : PSs X e t) (k : ∀ D σ H, t' D σ H → t D σ H) : PSs X e t' := ⟨fun pins s σ H D I q => h.run pins s σ H D I (k D σ H q)⟩
theorem PE.or {X : Cx} {e : Expr} {t t' : TE} (h : PE X e t) (h' : PE X e t') : PE X e (fun σ H Q => t σ H Q ∨ t' σ H Q) :=
  ⟨fun pins s σ H Q I q => q.elim (h.run pins s σ H Q I) (h'.run pins s σ H Q I)⟩
theorem opr_or {X : Cx} {f : Value → Value → Sem Value} {r r' : R2} (h : OpR X f r) (h' : OpR X f r') : OpR X f (fun x y H Q => r x y H Q ∨ r' x y H Q) :=
  fun pins s σ H x y v u Q I rx ry q => q.elim (h pins s σ H x y v u Q I rx ry) (h' pins s σ H x y v u Q I rx ry)

section
variable {X : Cx} {v : Ev} {g : G} {W : WX} {a b c : Expr} {e1 e2 e3 : Ex} {pos : Pos}

theorem evE_op1 {o : Op} {δ : Sl} {h : Hh} : evE g (.op o [e1]) δ h = (evE g e1 δ h).bind fun x h => opApp g.sub o [x] h := by
  simp only [evE, evEs, R.assoc, R.okb]
theorem evE_op2 {o : Op} {δ : Sl} {h : Hh} : evE g (.op o [e1, e2]) δ h = (evE g e1 δ h).bind fun x h => (evE g e2 δ h).bind fun y h => opApp g.sub o [x, y] h := by
  simp only [evE, evEs, R.assoc, R.okb]
theorem evE_op3 {o : Op} {δ : Sl} {h : Hh} : evE g (.op o [e1, e2, e3]) δ h = (evE g e1 δ h).bind fun x h => (evE g e2 δ h).bind fun y h => (evE g e3 δ h).bind fun z h => opApp g.sub o [x, y, z] h := by
  simp only [evE, evEs, R.assoc, R.okb]

/-! ### names, constants -/
theorem e_var {i : Nat} {x : Str} (hN : X.N[i]? = some x := by rfl) (hv : Vis X.env.scope x := by first | exact Or.inl rfl | exact Or.inr (Or.inl rfl) | exact Or.inr (Or.inr rfl))
    (hd : (x == ("__debug__" : Str)) = false := by decide) (hcd : (x == ("__classdict__" : Str)) = false := by decide) : PE X (.Name x pos) (tE v g W (.var i)) := by
  refine PE.imp (pe_var hN hv hd hcd) fun σ H Q ⟨ι, δ, h, hr, hs, go⟩ => ?_
  unfold evE at go
  cases q : δ[i]? with
  | none => rw [q] at go; exact go.elim
  | some o =>
    cases o with
    | none => rw [q] at go; exact go.elim
    | some d =>
      rw [q] at go
      obtain ⟨x, h1, h2⟩ := hs.2 i d q
      refine ⟨x, h1, go.here hr ?_⟩
      cases d with
      | lst ds => cases h2
      | dct ds => cases h2
      | _ => exact ⟨h2, trivial⟩
theorem e_int {i : Int} {j : Nat} : PE X (.Constant (.int i) j pos) (tE v g W (.lit (.int i))) := PE.imp pe_int fun σ H Q ⟨ι, δ, h, hr, hs, go⟩ => go.here hr ⟨.int i, trivial⟩
theorem e_bl {i : Bool} {j : Nat} : PE X (.Constant (.bool i) j pos) (tE v g W (.lit (.bl i))) := PE.imp pe_bl fun σ H Q ⟨ι, δ, h, hr, hs, go⟩ => go.here hr ⟨.bl i, trivial⟩
theorem e_non {j : Nat} : PE X (.Constant .none j pos) (tE v g W (.lit .non)) := PE.imp pe_non fun σ H Q ⟨ι, δ, h, hr, hs, go⟩ => go.here hr ⟨.non, trivial⟩
theorem e_str {x : Str} {i : Tx} {j : Nat} (hx : x = tx i := by rfl) : PE X (.Constant (.str x) j pos) (tE v g W (.lit (.str i))) := by
  subst hx
  exact PE.imp pe_str fun σ H Q ⟨ι, δ, h, hr, hs, go⟩ => go.here hr ⟨.str i, trivial⟩

/-! ### operators -/
/-- an operator's rule, and what it asks of our data -/
def Op2 (v : Ev) (g : G) (o : Op) (r : R2) : Prop := ∀ (ι : List Addr) (H H0 H1 : Hp) (h : Hh) (d e : D) (x y : V) (Q : VK) (E : XK), HR v ι H h → rrE v ι H0 H d x → rrE v ι H1 H e y → Go (rrE v) v ι H (opApp g.sub o [d, e] h) Q E → r x y H Q
def Op1 (v : Ev) (g : G) (o : Op) (r : V → Hp → VK → Prop) : Prop := ∀ (ι : List Addr) (H H0 : Hp) (h : Hh) (d : D) (x : V) (Q : VK) (E : XK), HR v ι H h → rrE v ι H0 H d x → Go (rrE v) v ι H (opApp g.sub o [d] h) Q E → r x H Q
theorem rrE.mono {ι ι' : List Addr} {H0 H H' : Hp} {d : D} {x : V} (e : Ext ι H ι' H') (r : rrE v ι H0 H d x) : rrE v ι' H0 H' d x := ⟨r.1.mono e, r.2⟩
theorem l_op2 {o : Op} {r : R2} (val : Op2 v g o r) {σ : L2.St} {H : Hp} {Q : VK} (t : tE v g W (.op o [e1, e2]) σ H Q) : tOp r (tE v g W e1) (tE v g W e2) σ H Q := by
  obtain ⟨ι, δ, h, hr, hs, go⟩ := t
  rw [evE_op2] at go
  refine ⟨ι, δ, h, hr, hs, Go.bind (SS := rrE v) go fun d h1 ι1 H1 x _ ex1 hr1 rx1 go1 => ?_⟩
  refine ⟨ι1, δ, h1, hr1, hs.mono ex1, Go.bind (SS := rrE v) go1 fun e h2 ι2 H2 y _ ex2 hr2 ry2 go2 => ?_⟩
  exact val ι2 H2 H H1 h2 d e x y Q _ hr2 (rx1.mono ex2) ry2 go2
theorem l_op1 {o : Op} {r : V → Hp → VK → Prop} (val : Op1 v g o r) {σ : L2.St} {H : Hp} {Q : VK} (t : tE v g W (.op o [e1]) σ H Q) : tUn r (tE v g W e1) σ H Q := by
  obtain ⟨ι, δ, h, hr, hs, go⟩ := t
  rw [evE_op1] at go
  refine ⟨ι, δ, h, hr, hs, Go.bind (SS := rrE v) go fun d h1 ι1 H1 x _ ex1 hr1 rx1 go1 => ?_⟩
  exact val ι1 H1 H h1 d x Q _ hr1 rx1 go1
theorem e_bin {op : Operator} {o : Op} {r : R2} (ho : OpR X (binaryOp op) r) (val : Op2 v g o r) (ha : PE X a (tE v g W e1)) (hb : PE X b (tE v g W e2)) : PE X (.BinOp a op b pos) (tE v g W (.op o [e1, e2])) :=
  PE.imp (pe_op ho ha hb) fun σ H Q t => l_op2 val t
theorem e_un {op : UnaryOp} {o : Op} {r : V → Hp → VK → Prop} (ho : UnR X (unaryOp op) r) (val : Op1 v g o r) (ha : PE X a (tE v g W e1)) : PE X (.UnaryOp op a pos) (tE v g W (.op o [e1])) :=
  PE.imp (pe_un ho ha) fun σ H Q t => l_op1 val t
theorem PC.imp {op : CmpOp} {t t' : TE} (h : PC X op a b t) (k : ∀ σ H Q, t' σ H Q → t σ H Q) : PC X op a b t' := ⟨fun pins s σ H Q I q => h.run pins s σ H Q I (k σ H Q q)⟩
theorem PC.or {op : CmpOp} {t t' : TE} (h : PC X op a b t) (h' : PC X op a b t') : PC X op a b (fun σ H Q => t σ H Q ∨ t' σ H Q) :=
  ⟨fun pins s σ H Q I q => q.elim (h.run pins s σ H Q I) (h'.run pins s σ H Q I)⟩
theorem pc_opr {op : CmpOp} {r : R2} {ta tb : TE} (ho : OpR X (compareOp op) r) (ha : PE X a ta) (hb : PE X b tb) : PC X op a b (tOp r ta tb) :=
  ⟨fun pins s σ H Q I q => L2.bin ha hb I q fun u1 u2 s2 x y H2 I2 r1 r2 z => ho pins s2 σ H2 x y u1 u2 Q I2 r1 r2 z⟩
theorem c_cmp {op : CmpOp} {o : Op} {r : R2} (ho : OpR X (compareOp op) r) (val : Op2 v g o r) (ha : PE X a (tE v g W e1)) (hb : PE X b (tE v g W e2)) : PC X op a b (tE v g W (.op o [e1, e2])) :=
  PC.imp (pc_opr ho ha hb) fun σ H Q t => l_op2 val t
theorem e_c {op : CmpOp} {e : Ex} (h : PC X op a b (tE v g W e)) (hm : behindInMarks op b = false := by first | exact nobehind _ (by decide) (by decide) | rfl) : PE X (.Compare a [op] [b] pos) (tE v g W e) := pe_cmp h hm
end
end Ivy

/-! Ivy, part D: the operations, by values. -/
namespace Ivy
open PySem PySem.Spec PyProof.Rows L2

section
variable {v : Ev} {g : G} {ι : List Addr} {H H0 : Hp} {h : Hh} {d : D} {ds : List D} {x : V} {vs : List V} {Q : VK} {E : XK}

theorem go_when {α β : Type} {RR : RRel α β} {b : Bool} {r : R α} {Q : β → Hp → Prop} (go : Go RR v ι H (whenR b r) Q E) : b = true ∧ Go RR v ι H r Q E := by
  cases b with
  | true => exact ⟨rfl, go⟩
  | false => exact go.elim
theorem go_fresh {p : Addr} (go : Go (rrE v) v ι H (.ok (.lst ds) h) Q E) (hr : HR v ι H h) (r : RPs v ι H ds vs) (hp : H p = none) : Q (.ref p) (upd H p (.lst vs)) :=
  go ι _ _ (ext_new hp) (hr.new hp) ⟨⟨p, vs, rfl, hr.notIn hp, upd_same, r.mono (ext_new hp)⟩, fun a e => by cases e; exact hp⟩
theorem go_tup {p : Addr} (go : Go (rrE v) v ι H (.ok (.tup ds) h) Q E) (hr : HR v ι H h) (r : RPs v ι H ds vs) (hp : H p = none) : Q (.ref p) (upd H p (.tup vs)) :=
  go ι _ _ (ext_new hp) (hr.new hp) ⟨.tup (SqT.of upd_same) (r.mono (ext_new hp)), trivial⟩
theorem go_tupS {a : Addr} (go : Go (rrE v) v ι H (.ok (.tup ds) h) Q E) (hr : HR v ι H h) (r : RPs v ι H ds vs) (ht : SqT v.K H a vs) : Q (.ref a) H := go.here hr ⟨.tup ht r, trivial⟩
theorem go_int {i : Int} (go : Go (rrE v) v ι H (intR i h) Q E) (hr : HR v ι H h) : Q (.int i) H := go.here hr ⟨.int i, trivial⟩
theorem go_bl {i : Bool} (go : Go (rrE v) v ι H (blR i h) Q E) (hr : HR v ι H h) : Q (.bl i) H := go.here hr ⟨.bl i, trivial⟩
theorem go_str {i : Tx} (go : Go (rrE v) v ι H (.ok (.str i) h) Q E) (hr : HR v ι H h) : Q (.str (tx i)) H := go.here hr ⟨.str i, trivial⟩
theorem go_rp (go : Go (rrE v) v ι H (.ok d h) Q E) (hr : HR v ι H h) (r : RP v ι H d x) (hp : D.pers d = true) : Q x H :=
  go.here hr ⟨RV.of r (.inl hp), New.pers hp⟩

theorem rv_int {i : Int} (r : rrE v ι H0 H (.int i) x) : x = .int i := by cases (show RP v ι H (.int i) x from r.1); rfl
theorem rv_bl {i : Bool} (r : rrE v ι H0 H (.bl i) x) : x = .bl i := by cases (show RP v ι H (.bl i) x from r.1); rfl
theorem rv_str {i : Tx} (r : rrE v ι H0 H (.str i) x) : x = .str (tx i) := by cases (show RP v ι H (.str i) x from r.1); rfl
theorem rv_non (r : rrE v ι H0 H .non x) : x = .non := by cases (show RP v ι H .non x from r.1); rfl
theorem rv_tup (r : rrE v ι H0 H (.tup ds) x) : ∃ a vs, x = .ref a ∧ SqT v.K H a vs ∧ RPs v ι H ds vs := by
  cases (show RP v ι H (.tup ds) x from r.1) with
  | tup h1 h2 => exact ⟨_, _, rfl, h1, h2⟩
theorem rv_ref {n : Nat} (r : rrE v ι H0 H (.ref n) x) : ∃ a, x = .ref a ∧ ι[n]? = some a := by
  cases (show RP v ι H (.ref n) x from r.1) with
  | ref h1 => exact ⟨_, rfl, h1⟩
theorem rp_pers {d : D} {x : V} (r : RP v ι H d x) : D.pers d = true ∨ ∃ c fs, d = .exc c fs := by
  cases r <;> first | exact .inl rfl | exact .inr ⟨_, _, rfl⟩
theorem lm_ok (hr : HR v ι H h) (r : rrE v ι H0 H d x) (e : lmD h d = some ds) : ∃ a vs, x = .ref a ∧ H a = some (.lst vs) ∧ RPs v ι H ds vs := by
  unfold lmD at e
  split at e
  · cases e
    obtain ⟨a, vs, h1, _, h3, h4⟩ := (show RV v ι H (.lst _) x from r.1)
    exact ⟨a, vs, h1, h3, h4⟩
  · rename_i n
    obtain ⟨a, rfl, ha⟩ := rv_ref r
    split at e
    · rename_i xs q
      cases e
      obtain ⟨vs, h1, h2⟩ := (show CR v ι H a (.lst _) from hr.cell n a _ ha q)
      exact ⟨a, vs, rfl, h1, h2⟩
    · cases e
  · cases e
theorem ls_ok (hr : HR v ι H h) (r : rrE v ι H0 H d x) (e : lsD h d = some ds) : ∃ a vs, x = .ref a ∧ SqL v.K H a vs ∧ RPs v ι H ds vs := by
  unfold lsD at e
  split at e
  · cases e
    obtain ⟨a, vs, h1, _, h3, h4⟩ := (show RV v ι H (.lst _) x from r.1)
    exact ⟨a, vs, h1, SqL.of h3, h4⟩
  · cases e
    cases (show RP v ι H (.rol _) x from r.1) with
    | rol h1 h2 => exact ⟨_, _, rfl, h1.sq, h2⟩
  · rename_i n
    obtain ⟨a, rfl, ha⟩ := rv_ref r
    split at e
    · rename_i xs q
      cases e
      obtain ⟨vs, h1, h2⟩ := (show CR v ι H a (.lst _) from hr.cell n a _ ha q)
      exact ⟨a, vs, rfl, SqL.of h1, h2⟩
    · cases e
  · cases e
theorem sq_ok (hr : HR v ι H h) (r : rrE v ι H0 H d x) (e : sqD h d = some ds) : ∃ a vs, x = .ref a ∧ (SqL v.K H a vs ∨ SqT v.K H a vs) ∧ RPs v ι H ds vs := by
  unfold sqD at e
  split at e
  · cases e
    obtain ⟨a, vs, h1, h2, h3⟩ := rv_tup r
    exact ⟨a, vs, h1, .inr h2, h3⟩
  · obtain ⟨a, vs, h1, h2, h3⟩ := ls_ok hr r e
    exact ⟨a, vs, h1, .inl h2, h3⟩
theorem dc_ok {kvs : List (Ky × D)} (hr : HR v ι H h) (r : rrE v ι H0 H d x) (e : dcD h d = some kvs) : ∃ a kvs', x = .ref a ∧ H a = some (.dK kvs') ∧ RK v ι H kvs kvs' := by
  unfold dcD at e
  split at e
  · cases e
    obtain ⟨a, vs, h1, _, h3, h4⟩ := (show RV v ι H (.dct _) x from r.1)
    exact ⟨a, vs, h1, h3, h4⟩
  · rename_i n
    obtain ⟨a, rfl, ha⟩ := rv_ref r
    split at e
    · rename_i xs q
      cases e
      obtain ⟨vs, h1, h2⟩ := (show CR v ι H a (.dct _) from hr.cell n a _ ha q)
      exact ⟨a, vs, rfl, h1, h2⟩
    · cases e
  · cases e
theorem cells_eq : cells = sizeLine := by rw [sizeLine_eq]
theorem tx_len (x : Tx) : (tx x).length = x.length := by show x.toArray.size = _; simp
theorem tx_app (x y : Tx) : tx x ++ tx y = tx (x ++ y) := by show Str.append _ _ = _; simp [Str.append, tx]

/-! ### arithmetic -/
def rAdd4 (K : PySem.W.Frag) : R2 := fun x y H Q => rI0 (fun i j => .int (i + j)) x y H Q ∨ ((∃ i j, x = .str i ∧ y = .str j ∧ i.length + j.length ≤ sizeLine ∧ Q (.str (i ++ j)) H) ∨ (rCatA K x y H Q ∨ rCat x y H Q))
theorem o_add {X : Cx} (hK : X.K = v.K) : OpR X (binaryOp .Add) (rAdd4 v.K) := by
  rw [← hK]
  exact opr_or op_add (opr_or op_add_str (opr_or op_catA op_cat))
theorem v_add : Op2 v g .add (rAdd4 v.K) := by
  intro ι H H0 H1 h d e x y Q E hr rx ry go
  have go : Go (rrE v) v ι H (opAdd h d e) Q E := go
  unfold opAdd at go
  split at go
  · rw [rv_int rx, rv_int ry]
    exact .inl ⟨_, _, rfl, rfl, go_int go hr⟩
  · obtain ⟨c, go⟩ := go_when go
    rw [rv_str rx, rv_str ry]
    refine .inr (.inl ⟨_, _, rfl, rfl, ?_, ?_⟩)
    · rw [tx_len, tx_len, ← cells_eq]; exact of_decide_eq_true c
    · rw [tx_app]; exact go_str go hr
  · obtain ⟨c, go⟩ := go_when go
    obtain ⟨a, xs, rfl, h1, h2⟩ := rv_tup rx
    obtain ⟨b, ys, rfl, h3, h4⟩ := rv_tup ry
    refine .inr (.inr (.inl ⟨a, b, xs, ys, rfl, rfl, h1, h3, ?_, fun e => ?_, fun _ e => ?_, fun _ _ p hp => go_tup go hr (h2.app h4) hp⟩))
    · rw [← h2.length, ← h4.length, ← cells_eq]; exact of_decide_eq_true c
    · subst e; cases h2; exact go_tupS go hr h4 h3
    · subst e; cases h4
      rw [List.append_nil] at go
      exact go_tupS go hr h2 h1
  · split at go
    · rename_i e1 e2
      obtain ⟨c, go⟩ := go_when go
      obtain ⟨a, xs, rfl, h1, h2⟩ := lm_ok hr rx e1
      obtain ⟨b, ys, rfl, h3, h4⟩ := lm_ok hr ry e2
      refine .inr (.inr (.inr ⟨a, b, xs, ys, rfl, rfl, h1, h3, ?_, fun p hp => go_fresh go hr (h2.app h4) hp⟩))
      rw [← h2.length, ← h4.length, ← cells_eq]; exact of_decide_eq_true c
    · exact go.elim
theorem v_sub : Op2 v g .sub (rI0 fun i j => .int (i - j)) := by
  intro ι H H0 H1 h d e x y Q E hr rx ry go
  cases d <;> cases e <;> first | exact go.elim | skip
  rw [rv_int rx, rv_int ry]
  exact ⟨_, _, rfl, rfl, go_int (show Go _ _ _ _ (intR _ _) _ _ from go) hr⟩
theorem big_log {i : Int} (h : i.natAbs < big) : i.natAbs.log2 < 500000 := by
  by_cases z : i.natAbs = 0
  · rw [z]; decide
  · exact (Nat.log2_lt z).mpr h
def CMul3 (i j : Int) : Prop := CMul i j ∨ CMulW i j
theorem o_mulI {X : Cx} : OpR X (binaryOp .Mult) (rI CMul3 fun i j => .int (i * j)) := fun pins s σ H x y v u Q I rx ry ⟨i, j, ex, ey, hc, q⟩ =>
  hc.elim (fun c => op_mul pins s σ H x y v u Q I rx ry ⟨i, j, ex, ey, c, q⟩) fun c => op_mulW pins s σ H x y v u Q I rx ry ⟨i, j, ex, ey, c, q⟩
theorem mul_ok {i j : Int} (h : mulOk i j = true) : CMul3 i j := by
  unfold mulOk at h
  rw [Bool.or_eq_true, Bool.or_eq_true, Bool.and_eq_true] at h
  rcases h with (h | h) | h
  · have := of_decide_eq_true h
    exact .inl (.inl ⟨by omega, by omega⟩)
  · have := of_decide_eq_true h
    exact .inl (.inr ⟨by omega, by omega⟩)
  · have h1 := big_log (of_decide_eq_true h.1)
    have h2 := big_log (of_decide_eq_true h.2)
    exact .inr (show _ + _ < 1000000 by omega)
theorem RPs.rep (r : RPs v ι H ds vs) : ∀ n : Nat, RPs v ι H (List.replicate n ds).flatten (List.replicate n vs).flatten
  | 0 => .nil
  | n + 1 => by
    rw [List.replicate_succ, List.replicate_succ, List.flatten_cons, List.flatten_cons]
    exact r.app (RPs.rep r n)
def rMul3 (K : PySem.W.Frag) : R2 := fun x y H Q => rI CMul3 (fun i j => .int (i * j)) x y H Q ∨ (rRep x y H Q ∨ rRepT K x y H Q)
theorem o_mul {X : Cx} (hK : X.K = v.K) : OpR X (binaryOp .Mult) (rMul3 v.K) := by
  rw [← hK]
  exact opr_or o_mulI (opr_or op_rep op_repT)
theorem v_mul : Op2 v g .mul (rMul3 v.K) := by
  intro ι H H0 H1 h d e x y Q E hr rx ry go
  have go : Go (rrE v) v ι H (opMul h d e) Q E := go
  unfold opMul at go
  split at go
  · obtain ⟨c, go⟩ := go_when go
    rw [rv_int rx, rv_int ry]
    exact .inl ⟨_, _, rfl, rfl, mul_ok c, go_int go hr⟩
  · split at go
    · rename_i k _ xs e1
      obtain ⟨c, go⟩ := go_when go
      rw [Bool.and_eq_true, Bool.and_eq_true] at c
      obtain ⟨a, vs, rfl, h1, h2⟩ := lm_ok hr rx e1
      rw [rv_int ry]
      have c1 := of_decide_eq_true c.1.1
      have c2 := of_decide_eq_true c.1.2
      have c3 := of_decide_eq_true c.2
      refine .inr (.inl ⟨a, _, vs, rfl, rfl, h1, by omega, by omega, ?_, fun p hp => go_fresh go hr (h2.rep _) hp⟩)
      rw [← h2.length, ← cells_eq]; exact c3
    · split at go
      · rename_i k _ _ xs
        obtain ⟨c, go⟩ := go_when go
        rw [Bool.and_eq_true, Bool.and_eq_true, Bool.and_eq_true] at c
        obtain ⟨a, vs, rfl, h1, h2⟩ := rv_tup rx
        rw [rv_int ry]
        refine .inr (.inr ⟨a, _, vs, rfl, rfl, h1, ?_, of_decide_eq_true c.1.1.2, of_decide_eq_true c.1.2, ?_, fun p hp => go_tup go hr (h2.rep _) hp⟩)
        · intro z
          subst z
          cases h2
          cases c.1.1.1
        · rw [← h2.length]; exact of_decide_eq_true c.2
      · exact go.elim
  · exact go.elim
def CDivB (i j : Int) : Prop := j ≠ 0 ∧ j.natAbs.log2 < 9000
theorem o_fdiv {X : Cx} : OpR X (binaryOp .FloorDiv) (rI CDivB fun i j => .int (i.fdiv j)) := opI fun i j _ _ _ _ _ hc q => floordiv_int hc.1 q (.inl (PyProof.noPylong_of_log2 hc.2))
theorem v_fdiv : Op2 v g .fdiv (rI CDivB fun i j => .int (i.fdiv j)) := by
  intro ι H H0 H1 h d e x y Q E hr rx ry go
  cases d <;> cases e <;> first | exact go.elim | skip
  rename_i i j
  obtain ⟨c, go⟩ := go_when (show Go _ _ _ _ (whenR _ (intR (i.fdiv j) h)) _ _ from go)
  rw [Bool.and_eq_true] at c
  rw [rv_int rx, rv_int ry]
  have c1 := of_decide_eq_true c.1
  refine ⟨_, _, rfl, rfl, ⟨c1, ?_⟩, go_int go hr⟩
  exact (Nat.log2_lt (by omega)).mpr (of_decide_eq_true c.2)
theorem v_mod : Op2 v g .mod (rI (fun _ j => j ≠ 0) fun i j => .int (i.fmod j)) := by
  intro ι H H0 H1 h d e x y Q E hr rx ry go
  cases d <;> cases e <;> first | exact go.elim | skip
  rename_i i j
  obtain ⟨c, go⟩ := go_when (show Go _ _ _ _ (whenR _ (intR (i.fmod j) h)) _ _ from go)
  rw [rv_int rx, rv_int ry]
  exact ⟨_, _, rfl, rfl, of_decide_eq_true c, go_int go hr⟩
theorem v_pow : Op2 v g .pow (rI CPow fun i j => .int (i ^ j.toNat)) := by
  intro ι H H0 H1 h d e x y Q E hr rx ry go
  cases d <;> cases e <;> first | exact go.elim | skip
  rename_i i j
  obtain ⟨c, go⟩ := go_when (show Go _ _ _ _ (whenR _ (intR (i ^ j.toNat) h)) _ _ from go)
  rw [Bool.and_eq_true, Bool.and_eq_true] at c
  rw [rv_int rx, rv_int ry]
  have c3 := of_decide_eq_true c.2
  exact ⟨_, _, rfl, rfl, ⟨of_decide_eq_true c.1.1, of_decide_eq_true c.1.2, by omega⟩, go_int go hr⟩
theorem v_shl : Op2 v g .shl (rI CShl fun i j => .int (i * 2 ^ j.toNat)) := by
  intro ι H H0 H1 h d e x y Q E hr rx ry go
  cases d <;> cases e <;> first | exact go.elim | skip
  rename_i i j
  obtain ⟨c, go⟩ := go_when (show Go _ _ _ _ (whenR _ (intR (i * 2 ^ j.toNat) h)) _ _ from go)
  rw [Bool.and_eq_true, Bool.and_eq_true] at c
  rw [rv_int rx, rv_int ry]
  have c1 := of_decide_eq_true c.1.1
  have c2 := of_decide_eq_true c.1.2
  have c3 := big_log (of_decide_eq_true c.2)
  refine ⟨_, _, rfl, rfl, ⟨c1, ?_⟩, go_int go hr⟩
  have b : Builtin.Int.intBits i ≤ i.natAbs.log2 + 1 := by
    unfold Builtin.Int.intBits
    split <;> omega
  omega
theorem v_shr : Op2 v g .shr (rI (fun _ j => 0 ≤ j) fun i j => .int (i / 2 ^ j.toNat)) := by
  intro ι H H0 H1 h d e x y Q E hr rx ry go
  cases d <;> cases e <;> first | exact go.elim | skip
  rename_i i j
  obtain ⟨c, go⟩ := go_when (show Go _ _ _ _ (whenR _ (intR (i / 2 ^ j.toNat) h)) _ _ from go)
  rw [rv_int rx, rv_int ry]
  exact ⟨_, _, rfl, rfl, of_decide_eq_true c, go_int go hr⟩
theorem v_neg : Op1 v g .neg (rU fun i => .int (-i)) := by
  intro ι H H0 h d x Q E hr rx go
  cases d <;> first | exact go.elim | skip
  rw [rv_int rx]
  exact ⟨_, rfl, go_int (show Go _ _ _ _ (intR _ _) _ _ from go) hr⟩

/-! ### order -/
theorem ltL_iff : ∀ x y : List Nat, ltL x y = decide (x < y)
  | [], [] => rfl
  | [], _ :: _ => by simp [ltL]
  | _ :: _, [] => by simp [ltL]
  | a :: as, b :: bs => by
    unfold ltL
    rw [ltL_iff as bs]
    by_cases e : a = b
    · rw [if_pos e]; subst e; simp [List.cons_lt_cons_iff]
    · rw [if_neg e]; simp [List.cons_lt_cons_iff, e]
theorem tx_list (x : Tx) : (tx x).cps.toList = x := by simp [tx]
def rCmp (f : Int → Int → Bool) (g : Tx → Tx → Bool) : R2 := fun x y H Q => rI0 (fun i j => .bl (f i j)) x y H Q ∨ ∃ i j, x = .str i ∧ y = .str j ∧ Q (.bl (g i.cps.toList j.cps.toList)) H
theorem o_lt {X : Cx} : OpR X (compareOp .Lt) (rCmp (fun i j => decide (i < j)) fun x y => ltL x y) := opr_or op_lt fun pins s σ H x y v u Q I rx ry ⟨i, j, ex, ey, q⟩ => op_lt_str pins s σ H x y v u Q I rx ry ⟨i, j, ex, ey, by simp only [ltL_iff] at q; exact q⟩
theorem o_le {X : Cx} : OpR X (compareOp .LtE) (rCmp (fun i j => decide (i ≤ j)) fun x y => !ltL y x) := opr_or op_le fun pins s σ H x y v u Q I rx ry ⟨i, j, ex, ey, q⟩ => op_le_str pins s σ H x y v u Q I rx ry ⟨i, j, ex, ey, by simp only [ltL_iff] at q; exact q⟩
theorem o_gt {X : Cx} : OpR X (compareOp .Gt) (rCmp (fun i j => decide (j < i)) fun x y => ltL y x) := opr_or op_gt fun pins s σ H x y v u Q I rx ry ⟨i, j, ex, ey, q⟩ => op_gt_str pins s σ H x y v u Q I rx ry ⟨i, j, ex, ey, by simp only [ltL_iff] at q; exact q⟩
theorem o_ge {X : Cx} : OpR X (compareOp .GtE) (rCmp (fun i j => decide (j ≤ i)) fun x y => !ltL x y) := opr_or op_ge fun pins s σ H x y v u Q I rx ry ⟨i, j, ex, ey, q⟩ => op_ge_str pins s σ H x y v u Q I rx ry ⟨i, j, ex, ey, by simp only [ltL_iff] at q; exact q⟩
theorem v_cmp {o : Op} {f : Int → Int → Bool} {k : Tx → Tx → Bool} (he : ∀ (d e : D) (h : Hh), opApp g.sub o [d, e] h = opCmp h f k d e) : Op2 v g o (rCmp f k) := by
  intro ι H H0 H1 h d e x y Q E hr rx ry go
  rw [he] at go
  cases d <;> cases e <;> first | exact go.elim | skip
  · rw [rv_int rx, rv_int ry]
    exact .inl ⟨_, _, rfl, rfl, go_bl (show Go _ _ _ _ (blR _ _) _ _ from go) hr⟩
  · rw [rv_str rx, rv_str ry]
    refine .inr ⟨_, _, rfl, rfl, ?_⟩
    rw [tx_list, tx_list]
    exact go_bl (show Go _ _ _ _ (blR _ _) _ _ from go) hr
theorem v_lt : Op2 v g .lt (rCmp (fun i j => decide (i < j)) fun x y => ltL x y) := v_cmp fun _ _ _ => rfl
theorem v_le : Op2 v g .le (rCmp (fun i j => decide (i ≤ j)) fun x y => !ltL y x) := v_cmp fun _ _ _ => rfl
theorem v_gt : Op2 v g .gt (rCmp (fun i j => decide (j < i)) fun x y => ltL y x) := v_cmp fun _ _ _ => rfl
theorem v_ge : Op2 v g .ge (rCmp (fun i j => decide (j ≤ i)) fun x y => !ltL x y) := v_cmp fun _ _ _ => rfl

/-! ### equality -/
mutual
def pyD : D → PyData
  | .bl b => .bool b
  | .int i => .int i
  | .str x => .str (tx x)
  | .tup xs => .tuple (pyL xs)
  | .rol xs => .list (pyL xs)
  | .lst xs => .list (pyL xs)
  | _ => .none
def pyL : List D → List PyData
  | [] => []
  | d :: ds => pyD d :: pyL ds
end
theorem beq_dec {α : Type} [BEq α] [LawfulBEq α] [DecidableEq α] (a b : α) : (a == b) = decide (a = b) := by
  by_cases e : a = b
  · subst e; simp
  · simp [e]
theorem tx_beq (x y : Tx) : (tx x == tx y) = decide (x = y) := by
  rw [beq_dec]
  by_cases e : x = y
  · subst e; simp
  · rw [decide_eq_false e, decide_eq_false fun z => e (tx_inj z)]
mutual
theorem eqv_py : ∀ {k j : Nat} (d e : D), D.dat k d = true → D.dat j e = true → D.eqv d e = PyData.eqv (pyD d) (pyD e)
  | k, j, d, e, hd, he => by
    cases d with
    | tup xs =>
      cases k with
      | zero => cases hd
      | succ k =>
        cases e with
        | tup ys =>
          cases j with
          | zero => cases he
          | succ j => exact eqvL_py xs ys hd he
        | _ => first | rfl | (cases j <;> cases he)
    | rol xs =>
      cases k with
      | zero => cases hd
      | succ k =>
        cases e with
        | rol ys =>
          cases j with
          | zero => cases he
          | succ j => exact eqvL_py xs ys hd he
        | lst ys =>
          cases j with
          | zero => cases he
          | succ j => exact eqvL_py xs ys hd he
        | _ => first | rfl | (cases j <;> cases he)
    | lst xs =>
      cases k with
      | zero => cases hd
      | succ k =>
        cases e with
        | rol ys =>
          cases j with
          | zero => cases he
          | succ j => exact eqvL_py xs ys hd he
        | lst ys =>
          cases j with
          | zero => cases he
          | succ j => exact eqvL_py xs ys hd he
        | _ => first | rfl | (cases j <;> cases he)
    | non => cases e <;> first | rfl | (cases j <;> cases he)
    | bl b => cases e <;> first | rfl | (cases j <;> cases he) | exact (beq_dec _ _).symm
    | int b => cases e <;> first | rfl | (cases j <;> cases he) | exact (beq_dec _ _).symm
    | str b => cases e <;> first | rfl | (cases j <;> cases he) | exact (tx_beq _ _).symm
    | dct b => cases k <;> cases hd
    | ref b => cases k <;> cases hd
    | exc a b => cases k <;> cases hd
theorem eqvL_py : ∀ {k j : Nat} (d e : List D), D.datL k d = true → D.datL j e = true → D.eqvL d e = PyData.eqvAll (pyL d) (pyL e)
  | k, j, [], [], hd, he => by rfl
  | k, j, [], y :: ys, hd, he => by rfl
  | k, j, x :: xs, [], hd, he => by rfl
  | k, j, x :: xs, y :: ys, hd, he => by
    have h1 := Bool.and_eq_true_iff.mp (show (D.dat k x && D.datL k xs) = true by rw [← hd]; cases k <;> rfl)
    have h2 := Bool.and_eq_true_iff.mp (show (D.dat j y && D.datL j ys) = true by rw [← he]; cases j <;> rfl)
    show (D.eqv x y && D.eqvL xs ys) = (PyData.eqv (pyD x) (pyD y) && PyData.eqvAll (pyL xs) (pyL ys))
    rw [eqv_py x y h1.1 h2.1, eqvL_py xs ys h1.2 h2.2]
end
mutual
theorem lay_ok : ∀ {k : Nat} (d : D), D.dat k d = true → PyData.canLay0 (pyD d) = true ∧ PyData.depth (pyD d) ≤ k
  | k, .non, _ => ⟨rfl, Nat.zero_le _⟩
  | k, .bl _, _ => ⟨rfl, Nat.zero_le _⟩
  | k, .int _, _ => ⟨rfl, Nat.zero_le _⟩
  | k, .str x, h => ⟨by
      have h2 : okTx x = true := by cases k <;> exact h
      show (tx x).cps.all (fun c => decide (c < 0x110000)) = true
      unfold tx
      unfold okTx at h2
      rw [← Array.all_toList]
      exact h2, Nat.zero_le _⟩
  | 0, .tup xs, h => by cases h
  | k + 1, .tup xs, h => let q := layL_ok (k := k) xs h; ⟨q.1, Nat.succ_le_succ q.2⟩
  | 0, .rol xs, h => by cases h
  | k + 1, .rol xs, h => let q := layL_ok (k := k) xs h; ⟨q.1, Nat.succ_le_succ q.2⟩
  | 0, .lst xs, h => by cases h
  | k + 1, .lst xs, h => let q := layL_ok (k := k) xs h; ⟨q.1, Nat.succ_le_succ q.2⟩
  | k, .dct _, h => by cases k <;> cases h
  | k, .ref _, h => by cases k <;> cases h
  | k, .exc _ _, h => by cases k <;> cases h
theorem layL_ok : ∀ {k : Nat} (ds : List D), D.datL k ds = true → PyData.canLayAll0 (pyL ds) = true ∧ PyData.depthAll (pyL ds) ≤ k
  | k, [], _ => ⟨rfl, Nat.zero_le _⟩
  | k, d :: ds, h => by
    have h1 := Bool.and_eq_true_iff.mp (show (D.dat k d && D.datL k ds) = true by rw [← h]; cases k <;> rfl)
    have q1 := lay_ok d h1.1
    have q2 := layL_ok ds h1.2
    refine ⟨?_, Nat.max_le.mpr ⟨q1.2, q2.2⟩⟩
    show (PyData.canLay0 (pyD d) && PyData.canLayAll0 (pyL ds)) = true
    rw [q1.1, q2.1]; rfl
end
theorem shaped_ok {d : D} (h : D.dat 60 d = true) : SeqAt.shaped (pyD d) = true := by
  have q := lay_ok d h
  unfold SeqAt.shaped
  rw [q.1, decide_eq_true (show PyData.depth (pyD d) ≤ 64 by omega)]; rfl
mutual
theorem dp_rp : ∀ {k : Nat} {d : D} {x : V}, RP v ι H d x → D.dat k d = true → Dp v.K H x (pyD d)
  | _, _, _, .non, _ => .non
  | _, _, _, .bl b, _ => .bl b
  | _, _, _, .int b, _ => .int b
  | _, _, _, .str b, _ => .str _
  | 0, _, _, .tup h r, q => by cases q
  | k + 1, _, _, .tup h r, q => .tup h (dp_rps (k := k) r q)
  | 0, _, _, .rol h r, q => by cases q
  | k + 1, _, _, .rol h r, q => .lst h.sq (dp_rps (k := k) r q)
  | k, _, _, .ref _, q => by cases k <;> cases q
  | k, _, _, .exc _, q => by cases k <;> cases q
  | k, _, _, .exd _ _ _ _, q => by cases k <;> cases q
theorem dp_rps : ∀ {k : Nat} {ds : List D} {xs : List V}, RPs v ι H ds xs → D.datL k ds = true → DpAll v.K H xs (pyL ds)
  | _, _, _, .nil, _ => .nil
  | k, d :: ds, _, .cons r t, q => by
    have h1 := Bool.and_eq_true_iff.mp (show (D.dat k d && D.datL k ds) = true by rw [← q]; cases k <;> rfl)
    exact .cons (dp_rp r h1.1) (dp_rps t h1.2)
end
theorem dp_told (hr : HR v ι H h) : ∀ (j : Nat) {k : Nat} {d : D} {x : V}, RP v ι H d x → D.dat k (told j h d) = true → Dp v.K H x (pyD (told j h d))
  | 0, k, d, x, r, q => by
    have e : told 0 h d = d := by unfold told; rfl
    rw [e] at q ⊢
    exact dp_rp r q
  | j + 1, k, d, x, r, q => by
    cases r with
    | @ref n a ha =>
      cases e : h[n]? with
      | none =>
        have e2 : told (j + 1) h (.ref n) = .ref n := by unfold told; rw [e]
        rw [e2] at q; cases k <;> cases q
      | some c =>
        cases c with
        | lst ds =>
          have e2 : told (j + 1) h (.ref n) = .lst (ds.map (told j h)) := by unfold told; rw [e]
          rw [e2] at q ⊢
          obtain ⟨vs, h1, h2⟩ := (show CR v ι H a (.lst ds) from hr.cell n a _ ha e)
          cases k with
          | zero => cases q
          | succ k =>
            refine .lst (SqL.of h1) ?_
            have q2 : D.datL k (ds.map (told j h)) = true := q
            clear e e2 q h1
            induction ds generalizing vs with
            | nil => cases h2; exact .nil
            | cons d ds ih =>
              cases h2 with
              | cons r t =>
                have h3 := Bool.and_eq_true_iff.mp (show (D.dat k (told j h d) && D.datL k (ds.map (told j h))) = true by rw [← q2]; cases k <;> rfl)
                exact .cons (dp_told hr j r h3.1) (ih _ t h3.2)
        | dct ds =>
          have e2 : told (j + 1) h (.ref n) = .ref n := by unfold told; rw [e]
          rw [e2] at q; cases k <;> cases q
        | ins c ds =>
          have e2 : told (j + 1) h (.ref n) = .ref n := by unfold told; rw [e]
          rw [e2] at q; cases k <;> cases q
    | non => exact dp_rp (k := k) (RP.non (ι := ι)) q
    | bl b => exact dp_rp (k := k) (RP.bl (ι := ι) b) q
    | int b => exact dp_rp (k := k) (RP.int (ι := ι) b) q
    | str b => exact dp_rp (k := k) (RP.str (ι := ι) b) q
    | tup h1 h2 => exact dp_rp (k := k) (.tup h1 h2) q
    | rol h1 h2 => exact dp_rp (k := k) (.rol h1 h2) q
    | exc h1 => cases k <;> cases q
    | exd h1 h2 h3 h4 => cases k <;> cases q
theorem dp_any (hr : HR v ι H h) (r : rrE v ι H0 H d x) (q : D.dat 60 (told 3 h d) = true) : Dp v.K H x (pyD (told 3 h d)) := by
  by_cases hp : D.pers d = true
  · exact dp_told hr 3 (r.1.rp hp) q
  · cases d with
    | lst ds =>
      obtain ⟨a, vs, rfl, _, h1, h2⟩ := (show RV v ι H (.lst ds) x from r.1)
      refine .lst (SqL.of h1) ?_
      have q2 : D.datL 59 (ds.map (told 2 h)) = true := q
      clear q r hp h1
      induction ds generalizing vs with
      | nil => cases h2; exact .nil
      | cons d ds ih =>
        cases h2 with
        | cons r t =>
          have h3 := Bool.and_eq_true_iff.mp (show (D.dat 59 (told 2 h d) && D.datL 59 (ds.map (told 2 h))) = true from q2)
          exact .cons (dp_told hr 2 r h3.1) (ih _ t h3.2)
    | dct ds => cases q
    | exc c fs => cases q
    | _ => exact absurd rfl hp
def rEq2 (K : PySem.W.Frag) : R2 := fun x y H Q => rEq x y H Q ∨ rEqD K x y H Q
def rNe2 (K : PySem.W.Frag) : R2 := fun x y H Q => rNe x y H Q ∨ rNeD K x y H Q
theorem o_eq {X : Cx} (hK : X.K = v.K) (hu : X.A.units + 64 < cLine) : OpR X (compareOp .Eq) (rEq2 v.K) := by
  rw [← hK]
  exact opr_or op_eq (op_eqD hu)
theorem o_ne {X : Cx} (hK : X.K = v.K) (hu : X.A.units + 64 < cLine) : OpR X (compareOp .NotEq) (rNe2 v.K) := by
  rw [← hK]
  exact opr_or op_ne (op_neD hu)
theorem scal_ok {ι1 : List Addr} {H1 : Hp} {e : D} {y : V} (rx : rrE v ι H0 H d x) (ry : rrE v ι H1 H e y) (c : scalD d e = true) : scal x y = true ∧ decide (x = y) = D.eqv d e := by
  cases d <;> cases e <;> first | cases c | skip
  all_goals first
    | (rw [rv_non rx, rv_non ry]; exact ⟨rfl, rfl⟩)
    | (rw [rv_non rx, rv_bl ry]; exact ⟨rfl, rfl⟩)
    | (rw [rv_non rx, rv_int ry]; exact ⟨rfl, rfl⟩)
    | (rw [rv_non rx, rv_str ry]; exact ⟨rfl, rfl⟩)
    | (rw [rv_bl rx, rv_non ry]; exact ⟨rfl, rfl⟩)
    | (rw [rv_int rx, rv_non ry]; exact ⟨rfl, rfl⟩)
    | (rw [rv_str rx, rv_non ry]; exact ⟨rfl, rfl⟩)
    | (rw [rv_int rx, rv_int ry]; exact ⟨rfl, by simp [D.eqv]⟩)
    | (rw [rv_bl rx, rv_bl ry]; exact ⟨rfl, by simp [D.eqv, beq_dec]⟩)
    | (rw [rv_int rx, rv_str ry]; exact ⟨rfl, rfl⟩)
    | (rw [rv_str rx, rv_int ry]; exact ⟨rfl, rfl⟩)
    | (rw [rv_bl rx, rv_str ry]; exact ⟨rfl, rfl⟩)
    | (rw [rv_str rx, rv_bl ry]; exact ⟨rfl, rfl⟩)
    | (rw [rv_str rx, rv_str ry]
       refine ⟨rfl, ?_⟩
       show decide (V.str (tx _) = V.str (tx _)) = decide _
       apply decide_eq_decide.mpr
       exact ⟨fun z => tx_inj (V.str.inj z), fun z => by rw [z]⟩)
theorem eqD_ok {ι1 : List Addr} {H1 : Hp} {e : D} {y : V} {k : Bool} (hr : HR v ι H h) (rx : rrE v ι H0 H d x) (ry : rrE v ι H1 H e y) (c : eqD h d e = some k) :
    (scal x y = true ∧ decide (x = y) = k) ∨ ∃ p q, Dp v.K H x p ∧ Dp v.K H y q ∧ SeqAt.shaped p = true ∧ SeqAt.shaped q = true ∧ PyData.eqv p q = k := by
  unfold eqD at c
  split at c
  · rename_i z
    cases c
    exact .inl (scal_ok (ι1 := ι1) rx ry z)
  · split at c
    · rename_i z
      cases c
      obtain ⟨z1, z2⟩ := Bool.and_eq_true_iff.mp z
      exact .inr ⟨_, _, dp_any hr rx z1, dp_any hr ry z2, shaped_ok z1, shaped_ok z2, (eqv_py _ _ z1 z2).symm⟩
    · cases c
theorem v_eq : Op2 v g .eq (rEq2 v.K) := by
  intro ι H H0 H1 h d e x y Q E hr rx ry go
  have go : Go (rrE v) v ι H (match eqD h d e with | some k => blR k h | none => .no) Q E := go
  cases c : eqD h d e with
  | none => rw [c] at go; exact go.elim
  | some k =>
    rw [c] at go
    have q := go_bl go hr
    rcases eqD_ok (ι1 := ι) hr rx ry c with ⟨h1, h2⟩ | ⟨p, r, h1, h2, h3, h4, h5⟩
    · exact .inl ⟨h1, by rw [h2]; exact q⟩
    · exact .inr ⟨p, r, h1, h2, h3, h4, by rw [h5]; exact q⟩
theorem v_ne : Op2 v g .ne (rNe2 v.K) := by
  intro ι H H0 H1 h d e x y Q E hr rx ry go
  have go : Go (rrE v) v ι H (match eqD h d e with | some k => blR (!k) h | none => .no) Q E := go
  cases c : eqD h d e with
  | none => rw [c] at go; exact go.elim
  | some k =>
    rw [c] at go
    have q := go_bl go hr
    rcases eqD_ok (ι1 := ι) hr rx ry c with ⟨h1, h2⟩ | ⟨p, r, h1, h2, h3, h4, h5⟩
    · exact .inl ⟨h1, by rw [h2]; exact q⟩
    · exact .inr ⟨p, r, h1, h2, h3, h4, by rw [h5]; exact q⟩
end
end Ivy

/-! Ivy, part E: expressions of each form. -/
namespace Ivy
open PySem PySem.Spec PyProof.Rows L2

section
variable {X : Cx} {v : Ev} {g : G} {W : WX} {a b c : Expr} {e1 e2 e3 : Ex} {pos : Pos}

/-! ### is -/
theorem rr_isnon {ι : List Addr} {H0 H : Hp} {d : D} {x : V} (r : rrE v ι H0 H d x) : decide (x = .non) = D.isNon d := by
  cases d with
  | non => cases rv_non r; rfl
  | bl b => cases rv_bl r; rfl
  | int b => cases rv_int r; rfl
  | str b => cases rv_str r; rfl
  | tup b => obtain ⟨a, vs, rfl, _⟩ := rv_tup r; rfl
  | rol b => cases (show RP v ι H (.rol b) x from r.1); rfl
  | lst b => obtain ⟨a, vs, rfl, _⟩ := (show RV v ι H (.lst b) x from r.1); rfl
  | dct b => obtain ⟨a, vs, rfl, _⟩ := (show RV v ι H (.dct b) x from r.1); rfl
  | ref b => obtain ⟨a, rfl, _⟩ := rv_ref r; rfl
  | exc c b => cases (show RP v ι H (.exc c b) x from r.1) <;> rfl
theorem c_isN {j : Nat} {pos' : Pos} (ha : PE X a (tE v g W e1)) : PC X .Is a (.Constant .none j pos') (tE v g W (.op .isNone [e1])) :=
  PC.imp (pc_isN ha) fun σ H Q t => l_op1 (r := fun x H Q => Q (.bl (decide (x = .non))) H) (fun ι H H0 h d x Q E hr rx go => by
    show Q (.bl (decide (x = .non))) H
    rw [rr_isnon rx]; exact go_bl (show Go _ _ _ _ (blR _ _) _ _ from go) hr) t
theorem c_notN {j : Nat} {pos' : Pos} (ha : PE X a (tE v g W e1)) : PC X .IsNot a (.Constant .none j pos') (tE v g W (.op .notNone [e1])) :=
  PC.imp (pc_notN ha) fun σ H Q t => l_op1 (r := fun x H Q => Q (.bl (!decide (x = .non))) H) (fun ι H H0 h d x Q E hr rx go => by
    show Q (.bl (!decide (x = .non))) H
    rw [rr_isnon rx]; exact go_bl (show Go _ _ _ _ (blR _ _) _ _ from go) hr) t
theorem v_isB : Op2 v g .isB rIsB := by
  intro ι H H0 H1 h d e x y Q E hr rx ry go
  cases d <;> cases e <;> first | exact go.elim | skip
  rw [rv_bl rx, rv_bl ry]
  have q := go_bl (show Go _ _ _ _ (blR _ _) _ _ from go) hr
  rw [beq_dec] at q
  exact ⟨_, _, rfl, rfl, q⟩
theorem v_notB : Op2 v g .notB rNotB := by
  intro ι H H0 H1 h d e x y Q E hr rx ry go
  cases d <;> cases e <;> first | exact go.elim | skip
  rw [rv_bl rx, rv_bl ry]
  have q := go_bl (show Go _ _ _ _ (blR _ _) _ _ from go) hr
  rw [beq_dec] at q
  exact ⟨_, _, rfl, rfl, q⟩

/-! ### items -/
theorem ixP_eq (n : Nat) (i : Int) : ixP n i = ixN n i := rfl
theorem atP_get {α : Type} {xs : List α} {i : Int} {x : α} (h : atP xs i = some x) : ∃ j, ixN xs.length i = some j ∧ xs[j]? = some x := by
  unfold atP at h
  rw [ixP_eq] at h
  cases e : ixN xs.length i with
  | none => rw [e] at h; cases h
  | some j => rw [e] at h; exact ⟨j, rfl, h⟩
theorem at_rps {ι : List Addr} {H : Hp} {ds : List D} {vs : List V} {i : Int} {d : D} (r : RPs v ι H ds vs) (h : atP ds i = some d) : ∃ x, atI vs i = some x ∧ RP v ι H d x := by
  obtain ⟨j, h1, h2⟩ := atP_get h
  obtain ⟨x, h3, h4⟩ := r.get h2
  refine ⟨x, ?_, h4⟩
  unfold atI
  rw [← r.length, h1]
  exact h3
theorem rp_flat {ι : List Addr} {H : Hp} {d : D} {x : V} (r : RP v ι H d x) : D.pers d = true ∨ D.pers d = false := by cases D.pers d <;> simp
theorem go_item {ι : List Addr} {H : Hp} {h : Hh} {d : D} {x : V} {Q : VK} {E : XK} (go : Go (rrE v) v ι H (.ok d h) Q E) (hr : HR v ι H h) (r : RP v ι H d x) : Q x H := by
  refine go.here hr ?_
  cases d with
  | lst ds => cases r
  | dct ds => cases r
  | _ => exact ⟨r, trivial⟩
theorem val_k {ι : List Addr} {H : Hp} {kvs : List (Ky × D)} {kvs' : List (Key × V)} {k : Ky} (r : RK v ι H kvs kvs') :
    match kGet kvs k with
    | some d => ∃ x, valV kvs' (kyV k) = some x ∧ RP v ι H d x
    | none => valV kvs' (kyV k) = none := by
  obtain ⟨r1, r2⟩ := r
  induction kvs generalizing kvs' with
  | nil =>
    cases kvs' with
    | nil => rfl
    | cons p q => simp at r1
  | cons p kvs ih =>
    cases kvs' with
    | nil => simp at r1
    | cons p' kvs' =>
      obtain ⟨j, d⟩ := p
      obtain ⟨j', x⟩ := p'
      simp only [List.map_cons, List.cons.injEq] at r1
      obtain ⟨e, r1⟩ := r1
      subst e
      cases r2 with
      | cons ra rb =>
        unfold kGet
        by_cases z : j = k
        · rw [if_pos z]; subst z
          exact ⟨x, by simp [valV], ra⟩
        · rw [if_neg z]
          have z2 : ¬ kyV j = kyV k := fun q => z (kyV_inj q)
          have key : valV ((kyV j, x) :: kvs') (kyV k) = valV kvs' (kyV k) := by simp [valV, List.find?_cons, z2]
          rw [key]
          exact ih r1 rb
theorem ky_rr {ι : List Addr} {H0 H : Hp} {d : D} {k : Ky} {x : V} (e : kyD d = some k) (r : rrE v ι H0 H d x) : x = kV (kyV k) := by
  cases d <;> first | cases e | skip
  · exact rv_int r
  · exact rv_str r
def rIxD : R2 := fun x y H Q => ∃ a z, x = .ref a ∧ DGet H a y (some z) ∧ Q z H
theorem e_idx (hb : Cb X v W) (ha : PE X a (tE v g W e1)) (hi : PE X b (tE v g W e2)) (hs : PlainIx b := by exact fun _ _ => rfl) : PE X (.Subscript a b pos) (tE v g W (.op .idx [e1, e2])) := by
  refine PE.imp (PE.or (pe_ix (ix_seq) ha hi hs) (pe_dget (by have := hb.hu; omega) ha hi hs)) fun σ H Q ⟨ι, δ, h, hr, hs, go⟩ => ?_
  rw [evE_op2] at go
  by_cases isd : ∃ d1 h1 d2 h2 kvs, evE g e1 δ h = .ok d1 h1 ∧ evE g e2 δ h1 = .ok d2 h2 ∧ dcD h2 d1 = some kvs
  · obtain ⟨d1, h1, d2, h2, kvs, q1, q2, q3⟩ := isd
    refine .inr ⟨ι, δ, h, hr, hs, Go.bind (SS := rrE v) go fun d h1' ι1 H1 x r1 ex1 hr1 rx1 go1 => ?_⟩
    rw [q1] at r1; cases r1
    refine ⟨ι1, δ, _, hr1, hs.mono ex1, Go.bind (SS := rrE v) go1 fun e h2' ι2 H2 y r2 ex2 hr2 ry2 go2 => ?_⟩
    rw [q2] at r2; cases r2
    obtain ⟨p, kvs', rfl, h3, h4⟩ := dc_ok hr2 (rx1.mono ex2) q3
    have go2 : Go (rrE v) v ι2 H2 (opIdx _ d1 d2) Q _ := go2
    unfold opIdx at go2
    split at go2
    · cases q3
    · rw [q3] at go2
      simp only at go2
      split at go2
      · rename_i k ek
        have kk := val_k (k := k) h4
        split at go2
        · rename_i d ed
          rw [ed] at kk
          obtain ⟨x, h5, h6⟩ := kk
          rw [ky_rr ek ry2]
          exact ⟨p, x, rfl, .inl ⟨kvs', kyV k, .inl h3, rfl, h5.symm⟩, go_item go2 hr2 h6⟩
        · exact go2.elim
      · exact go2.elim
  · refine .inl ⟨ι, δ, h, hr, hs, Go.bind (SS := rrE v) go fun d h1 ι1 H1 x r1 ex1 hr1 rx1 go1 => ?_⟩
    refine ⟨ι1, δ, h1, hr1, hs.mono ex1, Go.bind (SS := rrE v) go1 fun e h2 ι2 H2 y r2 ex2 hr2 ry2 go2 => ?_⟩
    have rx2 := rx1.mono ex2
    have go2 : Go (rrE v) v ι2 H2 (opIdx h2 d e) Q _ := go2
    unfold opIdx at go2
    rw [hb.hK]
    split at go2
    · obtain ⟨cz, go2⟩ := go_when go2
      split at go2
      · rename_i c ec
        rw [rv_str rx2, rv_int ry2]
        obtain ⟨j, z1, z2⟩ := atP_get ec
        refine .inr (.inr ⟨_, _, c, rfl, rfl, ?_, ?_, go_str (i := [c]) go2 hr2⟩)
        · rw [tx_len, ← cells_eq]; exact of_decide_eq_true cz
        · rw [tx_list]
          unfold atI
          rw [z1]; exact z2
      · exact go2.elim
    · split at go2
      · rename_i kvs q
        exact absurd ⟨d, h1, e, h2, kvs, r1, r2, q⟩ isd
      · split at go2
        · split at go2
          · rename_i z ez
            obtain ⟨p, vs, rfl, h3, h4⟩ := sq_ok hr2 rx2 ‹sqD h2 d = some _›
            obtain ⟨x, h5, h6⟩ := at_rps h4 ez
            rw [rv_int ry2]
            rcases h3 with h3 | h3
            · exact .inl ⟨p, vs, _, x, rfl, rfl, h3, h5, go_item go2 hr2 h6⟩
            · exact .inr (.inl ⟨p, vs, _, x, rfl, rfl, h3, h5, go_item go2 hr2 h6⟩)
          · exact go2.elim
        · exact go2.elim

/-! ### in -/
theorem flat_rp {ι : List Addr} {H : Hp} {d : D} {x : V} (r : RP v ι H d x) (hf : flatD d = true) : flatV x = true := by
  cases r <;> first | rfl | cases hf
theorem eqv_flat {ι : List Addr} {H : Hp} {d e : D} {x y : V} (r : RP v ι H d x) (q : RP v ι H e y) (hd : flatD d = true) (he : flatD e = true) : eqV x y = D.eqv d e := by
  cases r <;> cases q <;> first | rfl | exact (beq_dec _ _) | exact tx_beq _ _ | cases hd | cases he
theorem any_flat {ι : List Addr} {H : Hp} {d : D} {x : V} (r : RP v ι H d x) (hd : flatD d = true) : ∀ {ds : List D} {xs : List V}, RPs v ι H ds xs → ds.all flatD = true →
    xs.all flatV = true ∧ inV x xs = ds.any fun y => D.eqv y d
  | _, _, .nil, _ => ⟨rfl, rfl⟩
  | _, _, .cons q t, h => by
    rw [List.all_cons, Bool.and_eq_true] at h
    obtain ⟨h1, h2⟩ := any_flat r hd t h.2
    refine ⟨by rw [List.all_cons, flat_rp q h.1, h1]; rfl, ?_⟩
    unfold inV at h2 ⊢
    rw [List.any_cons, List.any_cons, h2, eqv_flat q r h.1 hd]
theorem any_dat {d : D} {k : Nat} (hd : D.dat k d = true) : ∀ {j : Nat} {ds : List D}, D.datL j ds = true → ((pyL ds).any fun z => PyData.eqv z (pyD d)) = ds.any fun y => D.eqv y d
  | _, [], _ => rfl
  | j, e :: ds, h => by
    have h1 := Bool.and_eq_true_iff.mp (show (D.dat j e && D.datL j ds) = true by rw [← h]; cases j <;> rfl)
    show (PyData.eqv (pyD e) (pyD d) || (pyL ds).any _) = _
    rw [List.any_cons, any_dat hd h1.2, eqv_py e d h1.1 hd]
def rIn4 (K : PySem.W.Frag) (n : Bool) : R2 := fun x y H Q => (∃ (c : Nat) (z : Str), x = .str ⟨#[c]⟩ ∧ y = .str z ∧ Q (.bl (if n then !decide (c ∈ z.cps.toList) else decide (c ∈ z.cps.toList))) H) ∨ (rIn K n x y H Q ∨
  ∃ d ds, Dp K H x d ∧ Dp K H y (.list ds) ∧ SeqAt.shaped d = true ∧ SeqAt.shaped (.list ds) = true ∧ Q (.bl (if n then !(ds.any fun z => PyData.eqv z d) else ds.any fun z => PyData.eqv z d)) H)
theorem o_in (hb : Cb X v W) : OpR X (compareOp .In) (rIn4 v.K false) := by
  rw [← hb.hK]
  exact opr_or op_in_sign (opr_or op_in_seq (op_inD (by have := hb.hu; omega)))
theorem o_notIn (hb : Cb X v W) : OpR X (compareOp .NotIn) (rIn4 v.K true) := by
  rw [← hb.hK]
  exact opr_or op_notIn_sign (opr_or op_notIn_seq (op_notInD (by have := hb.hu; omega)))
theorem in_val {o : Op} {n : Bool} (he : ∀ (d e : D) (h : Hh), opApp g.sub o [d, e] h = opIn h n d e) {ι : List Addr} {H H0 H1 : Hp} {h : Hh} {d e : D} {x y : V} {Q : VK} {E : XK} (hr : HR v ι H h) (rx : rrE v ι H0 H d x) (ry : rrE v ι H1 H e y)
    (go : Go (rrE v) v ι H (opApp g.sub o [d, e] h) Q E) (nd : dcD h e = none) : rIn4 v.K n x y H Q := by
  rw [he] at go
  unfold opIn at go
  split at go
  · split at go
    · rename_i c
      rw [rv_str rx, rv_str ry]
      refine .inl ⟨c, _, rfl, rfl, ?_⟩
      rw [tx_list]
      exact go_bl go hr
    · exact go.elim
  · rw [nd] at go
    simp only at go
    split at go
    · rename_i ys q
      split at go
      · rename_i c
        rw [Bool.and_eq_true] at c
        obtain ⟨p, vs, rfl, h3, h4⟩ := sq_ok hr ry q
        have rx2 : RP v ι H d x := rx.1.rp (by cases d <;> first | rfl | cases c.1)
        obtain ⟨h5, h6⟩ := any_flat rx2 c.1 h4 c.2
        refine .inr (.inl ⟨p, vs, rfl, h3, flat_rp rx2 c.1, h5, ?_⟩)
        rw [h6]
        exact go_bl go hr
      · split at go
        · rename_i ys2 q2
          split at go
          · rename_i c
            rw [Bool.and_eq_true, Bool.and_eq_true] at c
            obtain ⟨cp, c⟩ := c
            obtain ⟨p, vs, rfl, h3, h4⟩ := ls_ok hr ry q2
            have rx2 : RP v ι H d x := rx.1.rp cp
            refine .inr (.inr ⟨pyD d, pyL ys2, dp_rp rx2 c.1, .lst h3 (dp_rps h4 c.2), shaped_ok c.1, ?_, ?_⟩)
            · have := shaped_ok (d := .lst ys2) (show D.dat 60 (.lst ys2) = true from c.2)
              exact this
            · rw [any_dat c.1 c.2]
              exact go_bl go hr
          · exact go.elim
        · exact go.elim
    · exact go.elim
theorem c_inG {op : CmpOp} {o : Op} {n : Bool} (hb : Cb X v W) (he : ∀ (d e : D) (h : Hh), opApp g.sub o [d, e] h = opIn h n d e) (h1 : PC X op a b (tOp (rIn4 v.K n) (tE v g W e1) (tE v g W e2)))
    (h2 : PC X op a b (fun σ H Q => tE v g W e1 σ H fun y H1 => tE v g W e2 σ H1 fun x H2 => ∃ a o, x = .ref a ∧ DGet H2 a y o ∧ Q (.bl (if n then !o.isSome else o.isSome)) H2)) :
    PC X op a b (tE v g W (.op o [e1, e2])) := by
  refine PC.imp (PC.or h1 h2) fun σ H Q ⟨ι, δ, h, hr, hs, go⟩ => ?_
  rw [evE_op2] at go
  by_cases isd : ∃ d1 h1 d2 h2 kvs, evE g e1 δ h = .ok d1 h1 ∧ evE g e2 δ h1 = .ok d2 h2 ∧ dcD h2 d2 = some kvs
  · obtain ⟨d1, h1, d2, h2, kvs, q1, q2, q3⟩ := isd
    refine .inr ⟨ι, δ, h, hr, hs, Go.bind (SS := rrE v) go fun d h1' ι1 H1 x r1 ex1 hr1 rx1 go1 => ?_⟩
    rw [q1] at r1; cases r1
    refine ⟨ι1, δ, _, hr1, hs.mono ex1, Go.bind (SS := rrE v) go1 fun e h2' ι2 H2 y r2 ex2 hr2 ry2 go2 => ?_⟩
    rw [q2] at r2; cases r2
    obtain ⟨p, kvs', rfl, h3, h4⟩ := dc_ok hr2 ry2 q3
    rw [he] at go2
    unfold opIn at go2
    split at go2
    · cases q3
    · rw [q3] at go2
      simp only at go2
      split at go2
      · rename_i k ek
        have kk := val_k (k := k) h4
        have rx2 := rx1.mono ex2
        rw [ky_rr ek rx2]
        refine ⟨p, (valV kvs' (kyV k)), rfl, .inl ⟨kvs', kyV k, .inl h3, rfl, rfl⟩, ?_⟩
        have e : (valV kvs' (kyV k)).isSome = (kGet kvs k).isSome := by
          cases z : kGet kvs k with
          | none => rw [z] at kk; rw [kk]; rfl
          | some d => rw [z] at kk; obtain ⟨x, h5, _⟩ := kk; rw [h5]; rfl
        rw [e]
        exact go_bl go2 hr2
      · exact go2.elim
  · refine .inl ⟨ι, δ, h, hr, hs, Go.bind (SS := rrE v) go fun d h1 ι1 H1 x r1 ex1 hr1 rx1 go1 => ?_⟩
    refine ⟨ι1, δ, h1, hr1, hs.mono ex1, Go.bind (SS := rrE v) go1 fun e h2 ι2 H2 y r2 ex2 hr2 ry2 go2 => ?_⟩
    refine in_val he hr2 (rx1.mono ex2) ry2 go2 ?_
    cases q : dcD h2 e with
    | none => rfl
    | some kvs => exact absurd ⟨d, h1, e, h2, kvs, r1, r2, q⟩ isd
theorem c_in (hb : Cb X v W) (ha : PE X a (tE v g W e1)) (hi : PE X b (tE v g W e2)) : PC X .In a b (tE v g W (.op .isIn [e1, e2])) :=
  c_inG hb (fun _ _ _ => rfl) (pc_opr (o_in hb) ha hi) (PC.imp (pc_din (by have := hb.hu; omega) ha hi) fun σ H Q t => t)
theorem c_notIn (hb : Cb X v W) (ha : PE X a (tE v g W e1)) (hi : PE X b (tE v g W e2)) : PC X .NotIn a b (tE v g W (.op .notIn [e1, e2])) :=
  c_inG hb (fun _ _ _ => rfl) (pc_opr (o_notIn hb) ha hi) (PC.imp (pc_dnotin (by have := hb.hu; omega) ha hi) fun σ H Q t => t)

/-! ### slices -/
theorem clip_eq (n d : Nat) (o : Option Int) : clip n d o = HT.sIx n d o := by cases o <;> rfl
theorem RPs.cut {ι : List Addr} {H : Hp} {ds : List D} {vs : List V} (r : RPs v ι H ds vs) (lo hi : Option Int) : RPs v ι H (cut ds lo hi) (cutV vs lo hi) := by
  unfold Ivy.cut cutV
  rw [clip_eq, clip_eq, r.length]
  exact (r.drop _).take _
def rSl3 (K : PySem.W.Frag) : V → Option Int → Option Int → Hp → VK → Prop := fun x lo hi H Q => rSlS x lo hi H Q ∨ (rSlA K x lo hi H Q ∨ rSlL K x lo hi H Q)
theorem slr_or {r r' : V → Option Int → Option Int → Hp → VK → Prop} (h : SlR X r) (h' : SlR X r') : SlR X (fun x l u H Q => r x l u H Q ∨ r' x l u H Q) :=
  fun pins s σ H x v vl vu lo hi sl Q I rx is pl pu q => q.elim (h pins s σ H x v vl vu lo hi sl Q I rx is pl pu) (h' pins s σ H x v vl vu lo hi sl Q I rx is pl pu)
theorem o_sl (hb : Cb X v W) : SlR X (rSl3 v.K) := by
  rw [← hb.hK]
  exact slr_or sl_str (slr_or sl_tupA sl_list)
theorem v_sl {ι : List Addr} {H H0 : Hp} {h : Hh} {d : D} {x : V} {lo hi : Option Int} {Q : VK} {E : XK} (hr : HR v ι H h) (rx : rrE v ι H0 H d x) (go : Go (rrE v) v ι H (opSlice h d lo hi) Q E) : rSl3 v.K x lo hi H Q := by
  unfold opSlice at go
  split at go
  · obtain ⟨c, go⟩ := go_when go
    rw [rv_str rx]
    refine .inl ⟨_, rfl, ?_, ?_⟩
    · rw [tx_len, ← cells_eq]; exact of_decide_eq_true c
    · have e : ∀ z : Tx, cutS (tx z) lo hi = tx (Ivy.cut z lo hi) := fun z => by
        unfold cutS Ivy.cut
        rw [tx_list, tx_len, clip_eq, clip_eq]; rfl
      rw [e]
      exact go_str go hr
  · obtain ⟨a, vs, rfl, h1, h2⟩ := rv_tup rx
    refine .inr (.inl ⟨a, vs, rfl, h1, fun z => ?_, fun _ p hp => go_tup go hr (h2.cut lo hi) hp⟩)
    rename_i ds
    have e : Ivy.cut ds lo hi = ds := by
      unfold Ivy.cut
      rw [clip_eq, clip_eq, h2.length, z.1, z.2, List.drop_zero, Nat.sub_zero, ← h2.length, List.take_length]
    rw [e] at go
    exact go_tupS go hr h2 h1
  · split at go
    · obtain ⟨a, vs, rfl, h1, h2⟩ := ls_ok hr rx ‹lsD h d = some _›
      exact .inr (.inr ⟨a, vs, rfl, h1, fun p hp => go_fresh go hr (h2.cut lo hi) hp⟩)
    · exact go.elim
theorem e_sl00 {p2 : Pos} (hb : Cb X v W) (ha : PE X a (tE v g W e1)) : PE X (.Subscript a (.Slice none none none p2) pos) (tE v g W (.op (.slice false false) [e1])) :=
  PE.imp (pe_slice (o_sl hb) ha po_none po_none) fun σ H Q ⟨ι, δ, h, hr, hs, go⟩ => by
    rw [evE_op1] at go
    exact ⟨ι, δ, h, hr, hs, Go.bind (SS := rrE v) go fun d h1 ι1 H1 x r1 ex1 hr1 rx1 go1 => v_sl hr1 rx1 go1⟩
theorem e_sl10 {p2 : Pos} (hb : Cb X v W) (ha : PE X a (tE v g W e1)) (hi : PE X b (tE v g W e2)) : PE X (.Subscript a (.Slice (some b) none none p2) pos) (tE v g W (.op (.slice true false) [e1, e2])) :=
  PE.imp (pe_slice (o_sl hb) ha (po_some hi) po_none) fun σ H Q ⟨ι, δ, h, hr, hs, go⟩ => by
    rw [evE_op2] at go
    refine ⟨ι, δ, h, hr, hs, Go.bind (SS := rrE v) go fun d h1 ι1 H1 x r1 ex1 hr1 rx1 go1 => ?_⟩
    refine ⟨ι1, δ, h1, hr1, hs.mono ex1, Go.bind (SS := rrE v) go1 fun e h2 ι2 H2 y r2 ex2 hr2 ry2 go2 => ?_⟩
    cases e <;> first | exact go2.elim | skip
    exact ⟨_, rv_int ry2, v_sl hr2 (rx1.mono ex2) (show Go _ _ _ _ (opSlice h2 d (some _) none) _ _ from go2)⟩
theorem e_sl01 {p2 : Pos} (hb : Cb X v W) (ha : PE X a (tE v g W e1)) (hi : PE X b (tE v g W e2)) : PE X (.Subscript a (.Slice none (some b) none p2) pos) (tE v g W (.op (.slice false true) [e1, e2])) :=
  PE.imp (pe_slice (o_sl hb) ha po_none (po_some hi)) fun σ H Q ⟨ι, δ, h, hr, hs, go⟩ => by
    rw [evE_op2] at go
    refine ⟨ι, δ, h, hr, hs, Go.bind (SS := rrE v) go fun d h1 ι1 H1 x r1 ex1 hr1 rx1 go1 => ?_⟩
    refine ⟨ι1, δ, h1, hr1, hs.mono ex1, Go.bind (SS := rrE v) go1 fun e h2 ι2 H2 y r2 ex2 hr2 ry2 go2 => ?_⟩
    cases e <;> first | exact go2.elim | skip
    exact ⟨_, rv_int ry2, v_sl hr2 (rx1.mono ex2) (show Go _ _ _ _ (opSlice h2 d none (some _)) _ _ from go2)⟩
theorem ck_int (d : D) (h : Hh) : ckR 0 d h = (match d with
    | .int i => .ok (.int i) h
    | _ => .no) := by
  cases d <;> first | rfl | skip
  rename_i n
  show (match h[n]? with
    | some (.lst _) => whenR (0 == 1) (.ok (D.ref n) h)
    | some (.dct _) => whenR (0 == 2) (.ok (D.ref n) h)
    | _ => .no : R D) = _
  cases q : h[n]? with
  | none => rfl
  | some c => cases c <;> rfl
theorem e_sl11 {p2 : Pos} (hb : Cb X v W) (ha : PE X a (tE v g W e1)) (hi : PE X b (tE v g W e2)) (hj : PE X c (tE v g W e3)) : PE X (.Subscript a (.Slice (some b) (some c) none p2) pos) (tE v g W (.op (.slice true true) [e1, .ck 0 e2, e3])) :=
  PE.imp (pe_slice (o_sl hb) ha (po_some hi) (po_some hj)) fun σ H Q ⟨ι, δ, h, hr, hs, go⟩ => by
    rw [evE_op3] at go
    refine ⟨ι, δ, h, hr, hs, Go.bind (SS := rrE v) go fun d h1 ι1 H1 x r1 ex1 hr1 rx1 go1 => ?_⟩
    have e : evE g (.ck 0 e2) δ h1 = (evE g e2 δ h1).bind fun d h => ckR 0 d h := by simp only [evE]
    rw [e, R.assoc] at go1
    refine ⟨ι1, δ, h1, hr1, hs.mono ex1, Go.bind (SS := rrE v) go1 fun e h2 ι2 H2 y r2 ex2 hr2 ry2 go2 => ?_⟩
    rw [ck_int] at go2
    cases e <;> first | exact go2.elim | skip
    refine ⟨_, rv_int ry2, ι2, δ, h2, hr2, (hs.mono ex1).mono ex2, Go.bind (SS := rrE v) go2 fun w h3 ι3 H3 z r3 ex3 hr3 rz3 go3 => ?_⟩
    cases w <;> first | exact go3.elim | skip
    exact ⟨_, rv_int rz3, v_sl hr3 ((rx1.mono ex2).mono ex3) (show Go _ _ _ _ (opSlice h3 d (some _) (some _)) _ _ from go3)⟩
end
end Ivy

/-! Ivy, part F: displays, tests, calls of built-ins. -/
namespace Ivy
open PySem PySem.Spec PyProof.Rows L2

section
variable {X : Cx} {v : Ev} {g : G} {W : WX} {a b c : Expr} {e1 e2 e3 : Ex} {es rest : List Expr} {fs : List Ex} {pos : Pos} {t1 t2 : Te}

/-! ### lists of expressions -/
theorem rrL.mono {ι ι' : List Addr} {H0 H H' : Hp} (e : Ext ι H ι' H') : ∀ {ds : List D} {xs : List V}, rrL v ι H0 H ds xs → rrL v ι' H0 H' ds xs
  | _, _, .nil => .nil
  | _, _, .cons a t => .cons (a.mono e) (t.mono e)
theorem rrL.rps {ι : List Addr} {H0 H : Hp} : ∀ {ds : List D} {xs : List V}, rrL v ι H0 H ds xs → persL ds = true → RPs v ι H ds xs
  | _, _, .nil, _ => .nil
  | _, _, .cons a t, h => by
    unfold persL at h
    rw [List.all_cons, Bool.and_eq_true] at h
    exact .cons (a.1.rp h.1) (t.rps h.2)
theorem a_nil : PA X [] (tL v g W []) := PA.imp pa_nil fun σ H Q ⟨ι, δ, h, hr, hs, go⟩ => go.here hr .nil
theorem l_cons {σ : L2.St} {H : Hp} {Q : List V → Hp → Prop} (t : tL v g W (e1 :: fs) σ H Q) : tCons (tE v g W e1) (tL v g W fs) σ H Q := by
  obtain ⟨ι, δ, h, hr, hs, go⟩ := t
  have e : evEs g (e1 :: fs) δ h = (evE g e1 δ h).bind fun x h => (evEs g fs δ h).bind fun xs h => .ok (x :: xs) h := by simp only [evEs]
  rw [e] at go
  refine ⟨ι, δ, h, hr, hs, Go.bind (SS := rrE v) go fun d h1 ι1 H1 x r1 ex1 hr1 rx1 go1 => ?_⟩
  refine ⟨ι1, δ, h1, hr1, hs.mono ex1, Go.bind (SS := rrL v) go1 fun ds h2 ι2 H2 xs r2 ex2 hr2 rx2 _ => ?_⟩
  rw [r1, R.okb, r2, R.okb] at go
  exact go ι2 H2 _ (ex1.trans ex2) hr2 (.cons ⟨rx1.1.mono ex2, rx1.2⟩ (rx2.back fun p hp => ex1.back hr1 hp))
theorem a_cons (ha : PE X a (tE v g W e1)) (hr : PA X es (tL v g W fs)) (hs : starEach (a :: es) X.env = (false, eval a X.env) :: starEach es X.env := by rfl) : PA X (a :: es) (tL v g W (e1 :: fs)) :=
  PA.imp (pa_cons ha hr hs) fun σ H Q t => l_cons t

/-! ### displays -/
theorem evE_op {o : Op} {δ : Sl} {h : Hh} : evE g (.op o fs) δ h = (evEs g fs δ h).bind fun ds h => opApp g.sub o ds h := by simp only [evE]
/-- an operation over arguments: what a rule for it asks -/
def OpN (v : Ev) (g : G) (o : Op) (r : List V → Hp → VK → Prop) : Prop := ∀ (ι : List Addr) (H H0 : Hp) (h : Hh) (ds : List D) (xs : List V) (Q : VK) (E : XK), HR v ι H h → rrL v ι H0 H ds xs → Go (rrE v) v ι H (opApp g.sub o ds h) Q E → r xs H Q
theorem l_opN {o : Op} {r : List V → Hp → VK → Prop} (val : OpN v g o r) {σ : L2.St} {H : Hp} {Q : VK} (t : tE v g W (.op o fs) σ H Q) : tL v g W fs σ H fun xs H1 => r xs H1 Q := by
  obtain ⟨ι, δ, h, hr, hs, go⟩ := t
  rw [evE_op] at go
  exact ⟨ι, δ, h, hr, hs, Go.bind (SS := rrL v) go fun ds h1 ι1 H1 xs r1 ex1 hr1 rx1 go1 => val ι1 H1 H h1 ds xs Q _ hr1 rx1 go1⟩
theorem v_tup : OpN v g .tup (fun xs H Q => xs.length ≤ sizeLine ∧ ∀ p, H p = none → Q (.ref p) (upd H p (.tup xs))) := by
  intro ι H H0 h ds xs Q E hr rx go
  have go : Go (rrE v) v ι H (whenR (persL ds && decide (ds.length ≤ cells)) (.ok (.tup ds) h)) Q E := go
  obtain ⟨c, go⟩ := go_when go
  rw [Bool.and_eq_true] at c
  have r := rx.rps c.1
  refine ⟨?_, fun p hp => go_tup go hr r hp⟩
  rw [← r.length, ← cells_eq]; exact of_decide_eq_true c.2
theorem v_lst : OpN v g .lst (fun xs H Q => xs.length ≤ sizeLine ∧ ∀ p, H p = none → Q (.ref p) (upd H p (.lst xs))) := by
  intro ι H H0 h ds xs Q E hr rx go
  have go : Go (rrE v) v ι H (whenR (persL ds && decide (ds.length ≤ cells)) (.ok (.lst ds) h)) Q E := go
  obtain ⟨c, go⟩ := go_when go
  rw [Bool.and_eq_true] at c
  have r := rx.rps c.1
  refine ⟨?_, fun p hp => go_fresh go hr r hp⟩
  rw [← r.length, ← cells_eq]; exact of_decide_eq_true c.2
theorem e_tup {j : Nat} (h : PA X es (tL v g W fs)) : PE X (.Tuple es j pos) (tE v g W (.op .tup fs)) := PE.imp (pe_tup h) fun σ H Q t => l_opN v_tup t
theorem e_lst (h : PA X es (tL v g W fs)) : PE X (.List es pos) (tE v g W (.op .lst fs)) := PE.imp (pe_lst h) fun σ H Q t => l_opN v_lst t

/-! ### a fresh list or dict gets its cell; a checked int -/
theorem l_box {σ : L2.St} {H : Hp} {Q : VK} (t : tE v g W (.box e1) σ H Q) : tE v g W e1 σ H Q := by
  obtain ⟨ι, δ, h, hr, hs, go⟩ := t
  have e : evE g (.box e1) δ h = (evE g e1 δ h).bind fun d h => boxR d h := by simp only [evE]
  rw [e] at go
  refine ⟨ι, δ, h, hr, hs, ?_⟩
  cases q : evE g e1 δ h with
  | no => rw [q] at go; exact go
  | err c fs h' => rw [q] at go; exact go
  | ok d h' =>
    rw [q] at go
    intro ι' H' x ex hr' rx
    have go : Go (rrE v) v ι H (boxR d h') Q _ := go
    cases d with
    | lst xs =>
      obtain ⟨p, vs, rfl, h2, h3, h4⟩ := (show RV v ι' H' (.lst xs) x from rx.1)
      refine go (ι' ++ [p]) H' _ (ext_box ex h2 (rx.2 p rfl)) (hr'.box h2 ⟨vs, h3, h4⟩) ⟨.ref ?_, trivial⟩
      rw [← hr'.len]; simp
    | dct xs =>
      obtain ⟨p, vs, rfl, h2, h3, h4⟩ := (show RV v ι' H' (.dct xs) x from rx.1)
      refine go (ι' ++ [p]) H' _ (ext_box ex h2 (rx.2 p rfl)) (hr'.box h2 ⟨vs, h3, h4⟩) ⟨.ref ?_, trivial⟩
      rw [← hr'.len]; simp
    | _ => exact go ι' H' x ex hr' rx
theorem e_box (h : PE X a (tE v g W e1)) : PE X a (tE v g W (.box e1)) := PE.imp h fun σ H Q t => l_box t

/-! ### and, or, not, if, chains: as values -/
theorem evE_and {δ : Sl} {h : Hh} : evE g (.and e1 e2) δ h = (evE g e1 δ h).bind fun x h => match x with
    | .bl k => if k = true then evE g e2 δ h else .ok (.bl false) h
    | _ => .no := by simp only [evE] <;> rfl
theorem evE_or {δ : Sl} {h : Hh} : evE g (.or e1 e2) δ h = (evE g e1 δ h).bind fun x h => match x with
    | .bl k => if k = true then .ok (.bl true) h else evE g e2 δ h
    | _ => .no := by simp only [evE] <;> rfl
theorem e_and (ha : PE X a (tE v g W e1)) (hb : PE X (.BoolOp .And (b :: rest) pos) (tE v g W e2)) : PE X (.BoolOp .And (a :: b :: rest) pos) (tE v g W (.and e1 e2)) :=
  PE.imp (pe_and ha hb) fun σ H Q ⟨ι, δ, h, hr, hs, go⟩ => by
    rw [evE_and] at go
    refine ⟨ι, δ, h, hr, hs, Go.bind (SS := rrE v) go fun d h1 ι1 H1 x r1 ex1 hr1 rx1 go1 => ?_⟩
    cases d <;> first | exact go1.elim | skip
    rename_i k
    refine ⟨k, rv_bl rx1, ?_⟩
    cases k with
    | true => exact ⟨ι1, δ, h1, hr1, hs.mono ex1, go1⟩
    | false => exact go_bl (show Go _ _ _ _ (blR false h1) _ _ from go1) hr1
theorem e_or (ha : PE X a (tE v g W e1)) (hb : PE X (.BoolOp .Or (b :: rest) pos) (tE v g W e2)) : PE X (.BoolOp .Or (a :: b :: rest) pos) (tE v g W (.or e1 e2)) :=
  PE.imp (pe_or ha hb) fun σ H Q ⟨ι, δ, h, hr, hs, go⟩ => by
    rw [evE_or] at go
    refine ⟨ι, δ, h, hr, hs, Go.bind (SS := rrE v) go fun d h1 ι1 H1 x r1 ex1 hr1 rx1 go1 => ?_⟩
    cases d <;> first | exact go1.elim | skip
    rename_i k
    refine ⟨k, rv_bl rx1, ?_⟩
    cases k with
    | true => exact go_bl (show Go _ _ _ _ (blR true h1) _ _ from go1) hr1
    | false => exact ⟨ι1, δ, h1, hr1, hs.mono ex1, go1⟩
theorem e_one {op : PySem.BoolOp} (h : PE X a (tE v g W e1)) : PE X (.BoolOp op [a] pos) (tE v g W e1) := pe_one h
theorem tru_ok2 {ι : List Addr} {H H0 : Hp} {h : Hh} {d : D} {x : V} {Q : Bool → Hp → Prop} {E : XK} (hb : Cb X v W) (hr : HR v ι H h) (rx : rrE v ι H0 H d x) (go : Go rrB v ι H (truD h d) Q E) : ∃ k, TruV X.K x H k ∧ Q k H := by
  rw [hb.hK]
  have seq : ∀ {d : D}, rrE v ι H0 H d x → (∀ ds, sqD h d = some ds → Go rrB v ι H (.ok (!ds.isEmpty) h) Q E) → (sqD h d = none → ∀ ds, dcD h d = some ds → Go rrB v ι H (.ok (!ds.isEmpty) h) Q E) → (sqD h d = none → dcD h d = none → False) → ∃ k, TruV v.K x H k ∧ Q k H := by
    intro d rx h1 h2 h3
    cases q : sqD h d with
    | some ds =>
      obtain ⟨p, vs, rfl, s, r⟩ := sq_ok hr rx q
      have e : (!ds.isEmpty) = !vs.isEmpty := by cases r <;> rfl
      refine ⟨!vs.isEmpty, ?_, (by rw [← e]; exact (h1 ds q).here hr rfl)⟩
      rcases s with s | s
      · exact .inl ⟨vs, s, rfl⟩
      · exact .inr (.inl ⟨vs, s, rfl⟩)
    | none =>
      cases q2 : dcD h d with
      | some ds =>
        obtain ⟨p, vs, rfl, s, r⟩ := dc_ok hr rx q2
        have e : (!ds.isEmpty) = !vs.isEmpty := by
          have := r.1
          cases ds <;> cases vs <;> first | rfl | simp at this
        exact ⟨!vs.isEmpty, .inr (.inr ⟨vs, s, rfl⟩), (by rw [← e]; exact (h2 q ds q2).here hr rfl)⟩
      | none => exact (h3 q q2).elim
  cases d with
  | non => rw [rv_non rx]; exact ⟨false, rfl, go.here hr rfl⟩
  | bl k => rw [rv_bl rx]; exact ⟨k, rfl, go.here hr rfl⟩
  | int i => rw [rv_int rx]; exact ⟨_, rfl, go.here hr rfl⟩
  | str x =>
    obtain ⟨c, go⟩ := go_when (show Go rrB v ι H (whenR _ (.ok (!x.isEmpty) h)) Q E from go)
    rw [rv_str rx]
    refine ⟨!x.isEmpty, ⟨?_, ?_⟩, go.here hr rfl⟩
    · rw [tx_len, ← cells_eq]; exact of_decide_eq_true c
    · rw [tx_len]; cases x <;> simp <;> omega
  | exc c fs => exact go.elim
  | _ =>
    refine seq rx (fun ds q => ?_) (fun q1 ds q => ?_) fun q1 q2 => ?_
    · unfold truD at go; simp only [q] at go; exact go
    · unfold truD at go; simp only [q1, q] at go; exact go
    · unfold truD at go; simp only [q1, q2] at go; exact go
theorem e_notE (hb : Cb X v W) (h : PE X a (tE v g W e1)) : PE X (.UnaryOp .Not a pos) (tE v g W (.not (.ex e1))) :=
  PE.imp (pe_notT h) fun σ H Q ⟨ι, δ, h, hr, hs, go⟩ => by
    have e : evE g (.not (.ex e1)) δ h = (evE g e1 δ h).bind fun x h => (truD h x).bind fun k h => .ok (.bl (!k)) h := by simp only [evE, evT, R.assoc]
    rw [e] at go
    refine ⟨ι, δ, h, hr, hs, Go.bind (SS := rrE v) go fun d h1 ι1 H1 x r1 ex1 hr1 rx1 go1 => ?_⟩
    exact tru_ok2 (E := fun c d H' => W c d σ H') hb hr1 rx1 (Go.bind (SS := rrB) go1 fun k h2 ι2 H2 z r2 ex2 hr2 rz go2 => by
      cases (show z = k from rz)
      exact go_bl (show Go _ _ _ _ (blR (!k) h2) _ _ from go2) hr2)
theorem e_ifx {c : Expr} (hc : PT X c (tT v g W t1)) (ha : PE X a (tE v g W e1)) (hb : PE X b (tE v g W e2)) : PE X (.IfExp c a b pos) (tE v g W (.ifx t1 e1 e2)) :=
  PE.imp (pe_ifExp hc ha hb) fun σ H Q ⟨ι, δ, h, hr, hs, go⟩ => by
    have e : evE g (.ifx t1 e1 e2) δ h = (evT g t1 δ h).bind fun k h => if k = true then evE g e1 δ h else evE g e2 δ h := by simp only [evE]
    rw [e] at go
    refine ⟨ι, δ, h, hr, hs, Go.bind (SS := rrB) go fun d h1 ι1 H1 x r1 ex1 hr1 rx1 go1 => ?_⟩
    cases (show x = d from rx1)
    cases d with
    | true => exact ⟨ι1, δ, h1, hr1, hs.mono ex1, go1⟩
    | false => exact ⟨ι1, δ, h1, hr1, hs.mono ex1, go1⟩
theorem l_chain {o o' : Op} {r r' : R2} (val : Op2 v g o r) (val' : Op2 v g o' r') {σ : L2.St} {H : Hp} {Q : VK} (t : tE v g W (.chain o o' e1 e2 e3) σ H Q) : tChain r r' (tE v g W e1) (tE v g W e2) (tE v g W e3) σ H Q := by
  obtain ⟨ι, δ, h, hr, hs, go⟩ := t
  have e : evE g (.chain o o' e1 e2 e3) δ h = (evE g e1 δ h).bind fun x h => (evE g e2 δ h).bind fun y h => (opApp g.sub o [x, y] h).bind fun z h => match z with
    | .bl k => if k = true then (evE g e3 δ h).bind fun w h => opApp g.sub o' [y, w] h else .ok (.bl false) h
    | _ => .no := by simp only [evE] <;> rfl
  rw [e] at go
  refine ⟨ι, δ, h, hr, hs, Go.bind (SS := rrE v) go fun d h1 ι1 H1 x r1 ex1 hr1 rx1 go1 => ?_⟩
  refine ⟨ι1, δ, h1, hr1, hs.mono ex1, Go.bind (SS := rrE v) go1 fun e h2 ι2 H2 y r2 ex2 hr2 ry2 go2 => ?_⟩
  refine val ι2 H2 H H1 h2 d e x y _ _ hr2 (rx1.mono ex2) ry2 (Go.bind (SS := rrE v) go2 fun z h3 ι3 H3 u r3 ex3 hr3 rz3 go3 => ?_)
  cases z <;> first | exact go3.elim | skip
  rename_i k
  refine ⟨k, rv_bl rz3, ?_⟩
  cases k with
  | true =>
    simp only [↓reduceIte] at go3 ⊢
    refine ⟨ι3, δ, h3, hr3, ((hs.mono ex1).mono ex2).mono ex3, Go.bind (SS := rrE v) go3 fun w h4 ι4 H4 q r4 ex4 hr4 rw4 go4 => ?_⟩
    exact val' ι4 H4 H1 H3 h4 e w y q Q _ hr4 ((ry2.mono ex3).mono ex4) rw4 go4
  | false => exact go_bl (show Go _ _ _ _ (blR false h3) _ _ from go3) hr3
theorem e_chain {op op' : CmpOp} {o o' : Op} {r r' : R2} (ho : OpR X (compareOp op) r) (ho' : OpR X (compareOp op') r') (val : Op2 v g o r) (val' : Op2 v g o' r') (ha : PE X a (tE v g W e1)) (hb : PE X b (tE v g W e2)) (hc : PE X c (tE v g W e3))
    (hm : lastMarks [op, op'] [b, c] = false := by with_unfolding_all rfl) : PE X (.Compare a [op, op'] [b, c] pos) (tE v g W (.chain o o' e1 e2 e3)) := PE.imp (pe_chain ho ho' ha hb hc hm) fun σ H Q t => l_chain val val' t

/-! ### tests -/
theorem t_ex (hb : Cb X v W) (ha : PE X a (tE v g W e1)) (he : ∀ whole, isTrue a X.env whole = (do let v ← whole; standAt a.pos; holding [v] (truthy v)) := by intro _; rfl) : PT X a (tT v g W (.ex e1)) :=
  PT.imp (pt_truth ha he) fun σ H Q ⟨ι, δ, h, hr, hs, go⟩ => by
    have e : evT g (.ex e1) δ h = (evE g e1 δ h).bind fun x h => truD h x := by simp only [evT]
    rw [e] at go
    exact ⟨ι, δ, h, hr, hs, Go.bind (SS := rrE v) go fun d h1 ι1 H1 x r1 ex1 hr1 rx1 go1 => tru_ok2 hb hr1 rx1 go1⟩
/-- an operation that answers with a bool -/
def OpB (g : G) (o : Op) : Prop := ∀ ds h d h', opApp g.sub o ds h = .ok d h' → ∃ k, d = .bl k
theorem t_c {op : CmpOp} {o : Op} (ob : OpB g o) (h : PC X op a b (tE v g W (.op o fs))) (h1 : behindInMarks op b = false := by first | exact nobehind _ (by decide) (by decide) | rfl) : PT X (.Compare a [op] [b] pos) (tT v g W (.ex (.op o fs))) :=
  PT.imp (pt_cmp h h1) fun σ H Q ⟨ι, δ, h, hr, hs, go⟩ => by
    have e : evT g (.ex (.op o fs)) δ h = (evE g (.op o fs) δ h).bind fun x h => truD h x := by simp only [evT]
    rw [e] at go
    refine ⟨ι, δ, h, hr, hs, Go.bind (SS := rrE v) go fun d h1 ι1 H1 x r1 ex1 hr1 rx1 go1 => ?_⟩
    have ek : ∃ k, d = .bl k := by
      rw [evE_op] at r1
      cases q : evEs g fs δ h with
      | ok ds h2 => rw [q] at r1; exact ob ds h2 d h1 r1
      | err _ _ _ => rw [q] at r1; cases r1
      | no => rw [q] at r1; cases r1
    obtain ⟨k, rfl⟩ := ek
    exact ⟨k, rv_bl rx1, Go.here (RR := rrB) (show Go rrB v ι1 H1 (.ok k h1) Q _ from go1) hr1 rfl⟩
theorem t_chain {op op' : CmpOp} {o o' : Op} {r r' : R2} (ob : OpB g o') (ho : OpR X (compareOp op) r) (ho' : OpR X (compareOp op') r') (val : Op2 v g o r) (val' : Op2 v g o' r') (ha : PE X a (tE v g W e1)) (hb : PE X b (tE v g W e2)) (hc : PE X c (tE v g W e3))
    (hm : lastMarks [op, op'] [b, c] = false := by with_unfolding_all rfl) : PT X (.Compare a [op, op'] [b, c] pos) (tT v g W (.ex (.chain o o' e1 e2 e3))) :=
  PT.imp (pt_chain ho ho' ha hb hc hm) fun σ H Q ⟨ι, δ, h, hr, hs, go⟩ => by
    have e : evT g (.ex (.chain o o' e1 e2 e3)) δ h = (evE g (.chain o o' e1 e2 e3) δ h).bind fun x h => truD h x := by simp only [evT]
    rw [e] at go
    refine l_chain val val' ⟨ι, δ, h, hr, hs, Go.bind (SS := rrE v) go fun d h1 ι1 H1 x r1 ex1 hr1 rx1 go1 => ?_⟩
    have ek : ∃ k, d = .bl k := by
      have e : evE g (.chain o o' e1 e2 e3) δ h = (evE g e1 δ h).bind fun x h => (evE g e2 δ h).bind fun y h => (opApp g.sub o [x, y] h).bind fun z h => match z with
        | .bl k => if k = true then (evE g e3 δ h).bind fun w h => opApp g.sub o' [y, w] h else .ok (.bl false) h
        | _ => .no := by simp only [evE] <;> rfl
      rw [e] at r1
      cases q : evE g e1 δ h with
      | err _ _ _ => rw [q] at r1; cases r1
      | no => rw [q] at r1; cases r1
      | ok y1 g1 =>
      rw [q, R.okb] at r1
      cases q : evE g e2 δ g1 with
      | err _ _ _ => rw [q] at r1; cases r1
      | no => rw [q] at r1; cases r1
      | ok y2 g2 =>
      rw [q, R.okb] at r1
      cases q : opApp g.sub o [y1, y2] g2 with
      | err _ _ _ => rw [q] at r1; cases r1
      | no => rw [q] at r1; cases r1
      | ok y3 g3 =>
      rw [q, R.okb] at r1
      cases y3 <;> first | cases r1 | skip
      rename_i k
      cases k with
      | false => cases r1; exact ⟨_, rfl⟩
      | true =>
        cases q : evE g e3 δ g3 with
        | err _ _ _ => simp only [q, if_true] at r1; cases r1
        | no => simp only [q, if_true] at r1; cases r1
        | ok y4 g4 => simp only [q, if_true] at r1; exact ob _ _ _ _ r1
    obtain ⟨k, rfl⟩ := ek
    exact ⟨k, rv_bl rx1, Go.here (RR := rrB) (show Go rrB v ι1 H1 (.ok k h1) Q _ from go1) hr1 rfl⟩
theorem w_one {op : PySem.BoolOp} (h : PT X a (tT v g W t1)) : PW X (.BoolOp op [a] pos) (tT v g W t1) := by
  cases op with
  | And => exact pw_and1 h
  | Or => exact pw_or1 h
theorem PW.imp {X : Cx} {e : Expr} {t t' : TT} (h : PW X e t) (k : ∀ σ H Q, t' σ H Q → t σ H Q) : PW X e t' := ⟨fun w pins s σ H Q I q => h.run w pins s σ H Q I (k σ H Q q)⟩
theorem w_and (ha : PT X a (tT v g W t1)) (hb : PW X (.BoolOp .And (b :: rest) pos) (tT v g W t2)) : PW X (.BoolOp .And (a :: b :: rest) pos) (tT v g W (.and t1 t2)) :=
  PW.imp (pw_and ha hb) fun σ H Q ⟨ι, δ, h, hr, hs, go⟩ => by
    have e : evT g (.and t1 t2) δ h = (evT g t1 δ h).bind fun k h => if k = true then evT g t2 δ h else .ok false h := by simp only [evT]
    rw [e] at go
    refine ⟨ι, δ, h, hr, hs, Go.bind (SS := rrB) go fun d h1 ι1 H1 x r1 ex1 hr1 rx1 go1 => ?_⟩
    cases (show x = d from rx1)
    cases d with
    | true => exact ⟨ι1, δ, h1, hr1, hs.mono ex1, go1⟩
    | false => exact Go.here (RR := rrB) (show Go rrB v ι1 H1 (.ok false h1) Q _ from go1) hr1 rfl
theorem w_or (ha : PT X a (tT v g W t1)) (hb : PW X (.BoolOp .Or (b :: rest) pos) (tT v g W t2)) : PW X (.BoolOp .Or (a :: b :: rest) pos) (tT v g W (.or t1 t2)) :=
  PW.imp (pw_or ha hb) fun σ H Q ⟨ι, δ, h, hr, hs, go⟩ => by
    have e : evT g (.or t1 t2) δ h = (evT g t1 δ h).bind fun k h => if k = true then .ok true h else evT g t2 δ h := by simp only [evT]
    rw [e] at go
    refine ⟨ι, δ, h, hr, hs, Go.bind (SS := rrB) go fun d h1 ι1 H1 x r1 ex1 hr1 rx1 go1 => ?_⟩
    cases (show x = d from rx1)
    cases d with
    | true => exact Go.here (RR := rrB) (show Go rrB v ι1 H1 (.ok true h1) Q _ from go1) hr1 rfl
    | false => exact ⟨ι1, δ, h1, hr1, hs.mono ex1, go1⟩
theorem t_w (h : PW X a (tT v g W t1)) : PT X a (tT v g W t1) := h.pt
theorem t_not (ha : PT X a (tT v g W t1)) : PT X (.UnaryOp .Not a pos) (tT v g W (.not t1)) :=
  PT.imp (pt_not ha) fun σ H Q ⟨ι, δ, h, hr, hs, go⟩ => by
    have e : evT g (.not t1) δ h = (evT g t1 δ h).bind fun k h => .ok (!k) h := by simp only [evT]
    rw [e] at go
    refine ⟨ι, δ, h, hr, hs, Go.bind (SS := rrB) go fun d h1 ι1 H1 x r1 ex1 hr1 rx1 go1 => ?_⟩
    cases (show x = d from rx1)
    exact Go.here (RR := rrB) go1 hr1 rfl
end
end Ivy

/-! Ivy, part G: calls of built-ins. -/
namespace Ivy
open PySem PySem.Spec PyProof.Rows L2

section
variable {X : Cx} {v : Ev} {g : G} {W : WX} {a b c : Expr} {e1 e2 e3 : Ex} {es rest : List Expr} {fs : List Ex} {pos p : Pos} {t1 t2 : Te} {o : Op} {x : Str} {id : String}

theorem e_callB {r : List V → Hp → VK → Prop} (hc : CallR X (.builtin id) r) (val : OpN v g o r) (hg : Gl X x) (hm : X.mg x = none) (hv : bootBuiltins x = some (.builtin id)) (ha : PA X (a :: es) (tL v g W fs))
    (hn : x ≠ "__name__" := by decide) (hdb : (x == ("__debug__" : Str)) = false := by decide) (he : starEach (a :: es) X.env = (false, eval a X.env) :: starEach es X.env := by rfl) (hpl : (backTo pos (starEach es X.env)).any (·.1) = false := by rfl) :
    PE X (.Call (.Name x p) (a :: es) [] pos) (tE v g W (.op o fs)) := PE.imp (pe_callB hc hg hm hv ha hn hdb he hpl) fun σ H Q t => l_opN val t
theorem e_callT {r : List V → Hp → VK → Prop} (hc : CallR X (.type id) r) (val : OpN v g o r) (hg : Gl X x) (hm : X.mg x = none) (hv : bootBuiltins x = some (.type id)) (ha : PA X (a :: es) (tL v g W fs))
    (hn : x ≠ "__name__" := by decide) (hdb : (x == ("__debug__" : Str)) = false := by decide) (he : starEach (a :: es) X.env = (false, eval a X.env) :: starEach es X.env := by rfl) (hpl : (backTo pos (starEach es X.env)).any (·.1) = false := by rfl) :
    PE X (.Call (.Name x p) (a :: es) [] pos) (tE v g W (.op o fs)) := PE.imp (pe_callTy hc hg hm hv ha hn hdb he hpl) fun σ H Q t => l_opN val t

/-- one argument -/
theorem one_arg' {r : List V → Hp → VK → Prop} (h0 : ∀ h, opApp g.sub o [] h = .no) (h2 : ∀ d e ds h, opApp g.sub o (d :: e :: ds) h = .no)
    (h1 : ∀ (ι : List Addr) (H H0 : Hp) (h : Hh) (d : D) (x : V) (Q : VK) (E : XK), HR v ι H h → rrE v ι H0 H d x → Go (rrE v) v ι H (opApp g.sub o [d] h) Q E → r [x] H Q) : OpN v g o r := by
  intro ι H H0 h ds xs Q E hr rx go
  cases rx with
  | nil => rw [h0] at go; exact go.elim
  | cons r1 t =>
    cases t with
    | nil => exact h1 ι H H0 h _ _ Q E hr r1 go
    | cons _ _ => rw [h2] at go; exact go.elim
theorem n_len (hK : X.K = v.K) : OpN v g .len (fun xs H Q => (∃ x n, xs = [x] ∧ LenV X.K x H n ∧ Q (.int n) H) ∨ ∃ a kvs, xs = [V.ref a] ∧ H a = some (.dK kvs) ∧ Q (.int kvs.length) H) := by
  refine one_arg' (fun _ => rfl) (fun d _ _ _ => by cases d <;> rfl) fun ι H H0 h d x Q E hr rx go => ?_
  rw [hK]
  have seq : (opApp g.sub .len [d] h = match sqD h d with
    | some xs => intR xs.length h
    | none => match dcD h d with
      | some kvs => intR kvs.length h
      | none => .no) → (∃ z n, [x] = [z] ∧ LenV v.K z H n ∧ Q (.int n) H) ∨ ∃ a kvs, [x] = [V.ref a] ∧ H a = some (.dK kvs) ∧ Q (.int kvs.length) H := fun e => by
    rw [e] at go
    split at go
    · rename_i ds q
      obtain ⟨p, vs, rfl, s, r⟩ := sq_ok hr rx q
      refine .inl ⟨_, vs.length, rfl, ?_, by rw [← r.length]; exact go_int go hr⟩
      rcases s with s | s
      · exact .inl ⟨vs, s, rfl⟩
      · exact .inr ⟨vs, s, rfl⟩
    · split at go
      · rename_i ds q
        obtain ⟨p, vs, rfl, s, r⟩ := dc_ok hr rx q
        have e : ds.length = vs.length := by
          have := congrArg List.length r.1
          simpa using this.symm
        exact .inr ⟨p, vs, rfl, s, by rw [← e]; exact go_int go hr⟩
      · exact go.elim
  cases d with
  | str y =>
    obtain ⟨c, go⟩ := go_when (show Go (rrE v) v ι H (whenR _ (intR y.length h)) Q E from go)
    rw [rv_str rx]
    refine .inl ⟨_, y.length, rfl, ⟨?_, (tx_len y).symm⟩, go_int go hr⟩
    rw [tx_len, ← cells_eq]; exact of_decide_eq_true c
  | _ => exact seq rfl
theorem n_abs : OpN v g .abs (fun xs H Q => ∃ i, xs = [.int i] ∧ Q (.int (if i < 0 then -i else i)) H) := by
  refine one_arg' (fun _ => rfl) (fun d _ _ _ => by cases d <;> rfl) fun ι H H0 h d x Q E hr rx go => ?_
  cases d <;> first | exact go.elim | skip
  rw [rv_int rx]
  exact ⟨_, rfl, go_int (show Go _ _ _ _ (intR _ _) _ _ from go) hr⟩
theorem n_bool : OpN v g .bool (fun xs H Q => (∃ i, xs = [.int i] ∧ Q (.bl (i != 0)) H) ∨ ∃ k, xs = [.bl k] ∧ Q (.bl k) H) := by
  refine one_arg' (fun _ => rfl) (fun d _ _ _ => by cases d <;> rfl) fun ι H H0 h d x Q E hr rx go => ?_
  cases d <;> first | exact go.elim | skip
  · rw [rv_bl rx]
    exact .inr ⟨_, rfl, go_bl (show Go _ _ _ _ (blR _ _) _ _ from go) hr⟩
  · rw [rv_int rx]
    exact .inl ⟨_, rfl, go_bl (show Go _ _ _ _ (blR _ _) _ _ from go) hr⟩
theorem n_int1 : OpN v g .int (fun xs H Q => ((∃ i, xs = [.int i] ∧ Q (.int i) H) ∨ ∃ k, xs = [.bl k] ∧ Q (.int (if k then 1 else 0)) H) ∨ ∃ (y : Tx) (i : Int), xs = [.str (tx y)] ∧ y.length ≤ 640 ∧ intT y = some i ∧ Q (.int i) H) := by
  refine one_arg' (fun _ => rfl) (fun d _ _ _ => by cases d <;> rfl) fun ι H H0 h d x Q E hr rx go => ?_
  cases d <;> first | exact go.elim | skip
  · rw [rv_bl rx]
    exact .inl (.inr ⟨_, rfl, go_int (show Go _ _ _ _ (intR _ _) _ _ from go) hr⟩)
  · rw [rv_int rx]
    exact .inl (.inl ⟨_, rfl, go_int (show Go _ _ _ _ (intR _ _) _ _ from go) hr⟩)
  · rename_i y
    rw [rv_str rx]
    obtain ⟨c, go⟩ := go_when (show Go (rrE v) v ι H (whenR _ (match intT y with
      | some i => intR i h
      | none => .no)) Q E from go)
    split at go
    · rename_i i q
      exact .inr ⟨y, i, rfl, of_decide_eq_true c, q, go_int go hr⟩
    · exact go.elim
/-! ### str of an int -/
theorem str_ext {a b : Str} (h : a.cps.toList = b.cps.toList) : a = b := by
  cases a; cases b
  simp only [Str.mk.injEq]
  exact Array.toList_inj.mp h
theorem str_of_string (s : String) : (Str.ofString s).cps.toList = s.toList.map Char.toNat := by
  rw [Str.ofString_eq_toList]
theorem strI_eq (i : Int) : Str.ofString (toString i) = tx (strI i) := by
  apply str_ext
  rw [str_of_string, tx_list, Int.toString_eq_repr, Int.repr_eq_if]
  unfold strI
  by_cases h : 0 ≤ i
  · have e : i.toNat = i.natAbs := by omega
    rw [if_pos h, if_neg (by omega), e, Nat.toList_repr]
  · have e : (-i).toNat = i.natAbs := by omega
    rw [if_neg h, if_pos (by omega), e, String.toList_append, List.map_append, Nat.toList_repr]
    rfl
theorem n_str : OpN v g .str (fun xs H Q => (∃ i : Int, xs = [.int i] ∧ i.natAbs.log2 < 1920 ∧ Q (.str (Str.ofString (toString i))) H) ∨ ∃ a, xs = [.str a] ∧ Q (.str a) H) := by
  refine one_arg' (fun _ => rfl) (fun d _ _ _ => by cases d <;> rfl) fun ι H H0 h d x Q E hr rx go => ?_
  cases d <;> first | exact go.elim | skip
  · rename_i i
    rw [rv_int rx]
    obtain ⟨c, go⟩ := go_when (show Go (rrE v) v ι H (whenR _ (.ok (.str (strI i)) h)) Q E from go)
    refine .inl ⟨i, rfl, of_decide_eq_true c, ?_⟩
    rw [strI_eq]
    exact go_str go hr
  · rw [rv_str rx]
    exact .inr ⟨_, rfl, go_str go hr⟩
theorem c_str : CallR X (.type "str") (fun xs H Q => (∃ i : Int, xs = [.int i] ∧ i.natAbs.log2 < 1920 ∧ Q (.str (Str.ofString (toString i))) H) ∨ ∃ a, xs = [.str a] ∧ Q (.str a) H) := CallR.or call_str_int SkE.call_str_str
theorem c_int : CallR X (.type "int") (fun xs H Q => ((∃ i, xs = [.int i] ∧ Q (.int i) H) ∨ ∃ k, xs = [.bl k] ∧ Q (.int (if k then 1 else 0)) H) ∨ ∃ (y : Tx) (i : Int), xs = [.str (tx y)] ∧ y.length ≤ 640 ∧ intT y = some i ∧ Q (.int i) H) :=
  CallR.or call_int1 fun pins s σ H xs us Q I rs ⟨y, i, e, h1, h2, q⟩ => call_int_str pins s σ H xs us Q I rs ⟨tx y, i, e, h2, by rw [tx_len]; exact h1, q⟩
theorem c_len : CallR X (.builtin "len") (fun xs H Q => (∃ x n, xs = [x] ∧ LenV X.K x H n ∧ Q (.int n) H) ∨ ∃ a kvs, xs = [V.ref a] ∧ H a = some (.dK kvs) ∧ Q (.int kvs.length) H) := CallR.or call_len call_lenD

/-! ### lists out of lists -/
theorem n_list (hK : X.K = v.K) : OpN v g .list (fun xs H Q => ∃ p ys, xs = [.ref p] ∧ (SqL X.K H p ys ∨ SqT X.K H p ys) ∧ ∀ l, H l = none → Q (.ref l) (upd H l (.lst ys))) := by
  rw [hK]
  refine one_arg' (fun _ => rfl) (fun d _ _ _ => by cases d <;> rfl) fun ι H H0 h d x Q E hr rx go => ?_
  have go : Go (rrE v) v ι H (match sqD h d with
    | some xs => .ok (.lst xs) h
    | none => .no) Q E := go
  split at go
  · rename_i ds q
    obtain ⟨p, vs, rfl, s, r⟩ := sq_ok hr rx q
    exact ⟨p, vs, rfl, s, fun l hl => go_fresh go hr r hl⟩
  · exact go.elim
theorem n_tuple (hK : X.K = v.K) : OpN v g .tuple (fun xs H Q => ∃ p ys, xs = [.ref p] ∧ ((SqL X.K H p ys ∧ ∀ l, H l = none → Q (.ref l) (upd H l (.tup ys))) ∨ (SqT X.K H p ys ∧ Q (.ref p) H))) := by
  rw [hK]
  refine one_arg' (fun _ => rfl) (fun d _ _ _ => by cases d <;> rfl) fun ι H H0 h d x Q E hr rx go => ?_
  have seq : Go (rrE v) v ι H (match lsD h d with
    | some xs => .ok (.tup xs) h
    | none => .no) Q E → ∃ p ys, [x] = [V.ref p] ∧ ((SqL v.K H p ys ∧ ∀ l, H l = none → Q (.ref l) (upd H l (.tup ys))) ∨ (SqT v.K H p ys ∧ Q (.ref p) H)) := fun go => by
    split at go
    · rename_i ds q
      obtain ⟨p, vs, rfl, s, r⟩ := ls_ok hr rx q
      exact ⟨p, vs, rfl, .inl ⟨s, fun l hl => go_tup go hr r hl⟩⟩
    · exact go.elim
  cases d with
  | tup ds =>
    obtain ⟨p, vs, rfl, s, r⟩ := rv_tup rx
    exact ⟨p, vs, rfl, .inr ⟨s, go_tupS (show Go (rrE v) v ι H (.ok (.tup ds) h) Q E from go) hr r s⟩⟩
  | rol ds => exact seq go
  | lst ds => exact seq go
  | ref n =>
    refine seq ?_
    have go : Go (rrE v) v ι H (match lsD h (.ref n) with
    | some xs => .ok (.tup xs) h
    | none => .no) Q E := go
    exact go
  | _ => exact go.elim

/-! ### all, any, sum, min, max -/
theorem bools_v {ι : List Addr} {H : Hp} : ∀ {ds : List D} {vs : List V} {bs : List Bool}, RPs v ι H ds vs → boolsL ds = some bs → vs = bs.map V.bl
  | _, _, bs, .nil, e => by cases e; rfl
  | _, _, bs, .cons (d := d) (ds := ds) r t, e => by
    cases d <;> first | cases e | skip
    rename_i k
    have e : (boolsL ds).map (k :: ·) = some bs := e
    cases q : boolsL ds with
    | none => rw [q] at e; cases e
    | some cs =>
      rw [q] at e
      cases e
      cases r
      rw [bools_v t q]; rfl
theorem ints_v {ι : List Addr} {H : Hp} : ∀ {ds : List D} {vs : List V} {bs : List Int}, RPs v ι H ds vs → intsL ds = some bs → vs = bs.map V.int
  | _, _, bs, .nil, e => by cases e; rfl
  | _, _, bs, .cons (d := d) (ds := ds) r t, e => by
    cases d <;> first | cases e | skip
    rename_i k
    have e : (intsL ds).map (k :: ·) = some bs := e
    cases q : intsL ds with
    | none => rw [q] at e; cases e
    | some cs =>
      rw [q] at e
      cases e
      cases r
      rw [ints_v t q]; rfl
theorem strs_v {ι : List Addr} {H : Hp} : ∀ {ds : List D} {vs : List V} {bs : List Tx}, RPs v ι H ds vs → strsL ds = some bs → vs = bs.map fun x => V.str (tx x)
  | _, _, bs, .nil, e => by cases e; rfl
  | _, _, bs, .cons (d := d) (ds := ds) r t, e => by
    cases d <;> first | cases e | skip
    rename_i k
    have e : (strsL ds).map (k :: ·) = some bs := e
    cases q : strsL ds with
    | none => rw [q] at e; cases e
    | some cs =>
      rw [q] at e
      cases e
      cases r
      rw [strs_v t q]; rfl
theorem bind_some {α β : Type} {a : Option α} {f : α → Option β} {b : β} (h : a.bind f = some b) : ∃ x, a = some x ∧ f x = some b := by
  cases a with
  | none => cases h
  | some x => exact ⟨x, rfl, h⟩
theorem n_bools (f : List Bool → Bool) (hK : X.K = v.K) (h0 : ∀ h, opApp g.sub o [] h = .no) (h2 : ∀ d e ds h, opApp g.sub o (d :: e :: ds) h = .no)
    (h1 : ∀ d h, opApp g.sub o [d] h = match (lsD h d).bind boolsL with
      | some bs => blR (f bs) h
      | none => .no) : OpN v g o (fun vs H Q => ∃ (a : Addr) (bs : List Bool), vs = [V.ref a] ∧ SqL X.K H a (bs.map V.bl) ∧ Q (.bl (f bs)) H) := by
  rw [hK]
  refine one_arg' h0 h2 fun ι H H0 h d x Q E hr rx go => ?_
  rw [h1] at go
  split at go
  · rename_i bs q
    obtain ⟨ds, q1, q2⟩ := bind_some q
    obtain ⟨p, vs, rfl, s, r⟩ := ls_ok hr rx q1
    rw [bools_v r q2] at s
    exact ⟨p, bs, rfl, s, go_bl go hr⟩
  · exact go.elim
theorem n_all (hK : X.K = v.K) : OpN v g .all (rAll X.K) := n_bools _ hK (fun _ => rfl) (fun d _ _ _ => by cases d <;> rfl) fun d h => by cases d <;> rfl
theorem n_any (hK : X.K = v.K) : OpN v g .any (rAny X.K) := n_bools _ hK (fun _ => rfl) (fun d _ _ _ => by cases d <;> rfl) fun d h => by cases d <;> rfl
theorem n_sum (hK : X.K = v.K) : OpN v g .sum (rSum X.K) := by
  rw [hK]
  refine one_arg' (fun _ => rfl) (fun d _ _ _ => by cases d <;> rfl) fun ι H H0 h d x Q E hr rx go => ?_
  have go : Go (rrE v) v ι H (match (lsD h d).bind intsL with
    | some ns => intR ns.sum h
    | none => .no) Q E := by cases d <;> exact go
  split at go
  · rename_i bs q
    obtain ⟨ds, q1, q2⟩ := bind_some q
    obtain ⟨p, vs, rfl, s, r⟩ := ls_ok hr rx q1
    rw [ints_v r q2] at s
    exact ⟨p, bs, rfl, s, go_int go hr⟩
  · exact go.elim
theorem fold_max : ∀ (l : List Int) (n m : Int), (m = n ∨ m ∈ l) → (n ≤ m ∧ ∀ y ∈ l, y ≤ m) → l.foldl max n = m
  | [], n, m, h, _ => by
    rcases h with h | h
    · exact h.symm
    · cases h
  | y :: l, n, m, h, k => by
    rw [List.foldl_cons]
    refine fold_max l (max n y) m ?_ ⟨?_, fun z hz => k.2 z (List.mem_cons_of_mem _ hz)⟩
    · rcases h with h | h
      · have := k.2 y (List.mem_cons_self ..)
        exact .inl (by omega)
      · rcases List.mem_cons.mp h with h | h
        · have := k.1
          exact .inl (by omega)
        · exact .inr h
    · have := k.2 y (List.mem_cons_self ..)
      have := k.1
      omega
theorem fold_min : ∀ (l : List Int) (n m : Int), (m = n ∨ m ∈ l) → (m ≤ n ∧ ∀ y ∈ l, m ≤ y) → l.foldl min n = m
  | [], n, m, h, _ => by
    rcases h with h | h
    · exact h.symm
    · cases h
  | y :: l, n, m, h, k => by
    rw [List.foldl_cons]
    refine fold_min l (min n y) m ?_ ⟨?_, fun z hz => k.2 z (List.mem_cons_of_mem _ hz)⟩
    · rcases h with h | h
      · have := k.2 y (List.mem_cons_self ..)
        exact .inl (by omega)
      · rcases List.mem_cons.mp h with h | h
        · have := k.1
          exact .inl (by omega)
        · exact .inr h
    · have := k.2 y (List.mem_cons_self ..)
      have := k.1
      omega
theorem n_maxL (hK : X.K = v.K) : OpN v g .maxL (rMax X.K) := by
  rw [hK]
  refine one_arg' (fun _ => rfl) (fun d _ _ _ => by cases d <;> rfl) fun ι H H0 h d x Q E hr rx go => ?_
  have go : Go (rrE v) v ι H (match (lsD h d).bind intsL with
    | some (n :: ns) => intR (ns.foldl max n) h
    | _ => .no) Q E := by cases d <;> exact go
  split at go
  · rename_i n ns q
    obtain ⟨ds, q1, q2⟩ := bind_some q
    obtain ⟨p, vs, rfl, s, r⟩ := ls_ok hr rx q1
    rw [ints_v r q2] at s
    refine ⟨p, _, rfl, s, Nat.succ_pos _, fun m hm hy => ?_⟩
    have e := fold_max ns n m (List.mem_cons.mp hm) ⟨hy n (List.mem_cons_self ..), fun y h => hy y (List.mem_cons_of_mem _ h)⟩
    rw [e] at go
    exact go_int go hr
  · exact go.elim
theorem n_minL (hK : X.K = v.K) : OpN v g .minL (rMin X.K) := by
  rw [hK]
  refine one_arg' (fun _ => rfl) (fun d _ _ _ => by cases d <;> rfl) fun ι H H0 h d x Q E hr rx go => ?_
  have go : Go (rrE v) v ι H (match (lsD h d).bind intsL with
    | some (n :: ns) => intR (ns.foldl min n) h
    | _ => .no) Q E := by cases d <;> exact go
  split at go
  · rename_i n ns q
    obtain ⟨ds, q1, q2⟩ := bind_some q
    obtain ⟨p, vs, rfl, s, r⟩ := ls_ok hr rx q1
    rw [ints_v r q2] at s
    refine ⟨p, _, rfl, s, Nat.succ_pos _, fun m hm hy => ?_⟩
    have e := fold_min ns n m (List.mem_cons.mp hm) ⟨hy n (List.mem_cons_self ..), fun y h => hy y (List.mem_cons_of_mem _ h)⟩
    rw [e] at go
    exact go_int go hr
  · exact go.elim
theorem two_arg' {r : List V → Hp → VK → Prop} (h0 : ∀ h, opApp g.sub o [] h = .no) (h1 : ∀ d h, opApp g.sub o [d] h = .no) (h3 : ∀ d e f ds h, opApp g.sub o (d :: e :: f :: ds) h = .no)
    (h2 : ∀ (ι : List Addr) (H H0 : Hp) (h : Hh) (d e : D) (x y : V) (Q : VK) (E : XK), HR v ι H h → rrE v ι H0 H d x → rrE v ι H0 H e y → Go (rrE v) v ι H (opApp g.sub o [d, e] h) Q E → r [x, y] H Q) : OpN v g o r := by
  intro ι H H0 h ds xs Q E hr rx go
  cases rx with
  | nil => rw [h0] at go; exact go.elim
  | cons r1 t =>
    cases t with
    | nil => rw [h1] at go; exact go.elim
    | cons r2 t =>
      cases t with
      | nil => exact h2 ι H H0 h _ _ _ _ Q E hr r1 r2 go
      | cons _ _ => rw [h3] at go; exact go.elim
theorem n_min2 : OpN v g .min2 (fun xs H Q => ∃ i j, xs = [.int i, .int j] ∧ Q (.int (if j < i then j else i)) H) := by
  refine two_arg' (fun _ => rfl) (fun d _ => by cases d <;> rfl) (fun d e _ _ _ => by cases d <;> cases e <;> rfl) fun ι H H0 h d e x y Q E hr rx ry go => ?_
  cases d <;> cases e <;> first | exact go.elim | skip
  rw [rv_int rx, rv_int ry]
  exact ⟨_, _, rfl, go_int (show Go _ _ _ _ (intR _ _) _ _ from go) hr⟩
theorem n_max2 : OpN v g .max2 (fun xs H Q => ∃ i j, xs = [.int i, .int j] ∧ Q (.int (if j > i then j else i)) H) := by
  refine two_arg' (fun _ => rfl) (fun d _ => by cases d <;> rfl) (fun d e _ _ _ => by cases d <;> cases e <;> rfl) fun ι H H0 h d e x y Q E hr rx ry go => ?_
  cases d <;> cases e <;> first | exact go.elim | skip
  rw [rv_int rx, rv_int ry]
  exact ⟨_, _, rfl, go_int (show Go _ _ _ _ (intR _ _) _ _ from go) hr⟩

/-! ### bit_length -/
theorem e_bits {apos : Pos} (ho : PE X a (tE v g W e1)) (hbase : attributeBase a "bit_length" X.env (eval a X.env) = eval a X.env := by rfl) (hline : (apos.endLine == pos.line) = true := by rfl) :
    PE X (.Call (.Attribute a "bit_length" apos) [] [] pos) (tE v g W (.op .bits [e1])) := PE.imp (pe_bits ho hbase hline) fun σ H Q ⟨ι, δ, h, hr, hs, go⟩ => by
  rw [evE_op1] at go
  refine ⟨ι, δ, h, hr, hs, Go.bind (SS := rrE v) go fun d h1 ι1 H1 x r1 ex1 hr1 rx1 go1 => ?_⟩
  cases d <;> first | exact go1.elim | skip
  rename_i i
  refine ⟨i, rv_int rx1, ?_⟩
  have e : Builtin.Int.intBits i = bitLen i := by
    unfold Builtin.Int.intBits bitLen
    by_cases z : i = 0
    · subst z; rfl
    · rw [if_neg z, if_neg (by simpa using z)]
  rw [e]
  exact go_int (show Go _ _ _ _ (intR _ _) _ _ from go1) hr1
end
end Ivy

/-! Ivy, part H: isinstance. -/
namespace Ivy
open PySem PySem.Spec PyProof.Rows L2

def tyN : Ty → String
  | .int => "int"
  | .bool => "bool"
  | .str => "str"
  | .tuple => "tuple"
  | .list => "list"
  | .dict => "dict"
  | .none => "NoneType"
  | .cls _ => "object"
def tyB : List Ty := [.int, .bool, .str, .tuple, .list, .dict, .none]
def tyU (v : Ev) : Ty → Value
  | .cls k => .ref (v.ca k)
  | t => .type (tyN t)
def tyV' (v : Ev) : Ty → V
  | .cls k => .ref (v.ca k)
  | t => .ty (tyN t)
theorem ty_cls {v : Ev} : ∀ t, ClsV (tyV' v t) (tyU v t)
  | .int => .ty _
  | .bool => .ty _
  | .str => .ty _
  | .tuple => .ty _
  | .list => .ty _
  | .dict => .ty _
  | .none => .ty _
  | .cls k => .own _
/-- the classes that have instances -/
structure InsB (K : PySem.W.Frag) (v : Ev) : Prop where
  cl : ∀ c, v.ic c = true → Cls K (v.ca c) ∧ PySem.W.findIn K (.ref (v.ca c)) "__class__" = some (some (.builtin "object.__class__")) ∧
    PySem.W.specialIn K (.builtin "object.__class__") "__get__" = some (some (.builtin "getset_descriptor.__get__")) ∧ PySem.W.takesIn K (.builtin "object.__class__") = some true ∧
    PySem.W.mroIn K (v.ca c) (.type "object") = some true
/-- what isinstance is told about a type -/
def TyF (K : PySem.W.Frag) (v : Ev) (sub : Nat → Nat → Bool) : Ty → Prop
  | .cls k => (∀ t ∈ tyB, PySem.W.kitOne K (.type (tyN t)) (.ref (v.ca k)) = some false) ∧ ∀ c, v.ic c = true → PySem.W.kitOne K (.ref (v.ca c)) (.ref (v.ca k)) = some (sub c k)
  | t => ∀ c, v.ic c = true → PySem.W.kitOne K (.ref (v.ca c)) (.type (tyN t)) = some false
theorem kit_bb {K : PySem.W.Frag} : ∀ s ∈ tyB, ∀ t ∈ tyB, PySem.W.kitOne K (.type (tyN s)) (.type (tyN t)) = some (isB s t) := by
  intro s hs t ht
  refine kit_ty ?_
  revert s t
  decide +kernel
theorem ty_mem : ∀ t : Ty, t ∈ tyB ∨ ∃ k, t = .cls k
  | .int => .inl (by simp [tyB])
  | .bool => .inl (by simp [tyB])
  | .str => .inl (by simp [tyB])
  | .tuple => .inl (by simp [tyB])
  | .list => .inl (by simp [tyB])
  | .dict => .inl (by simp [tyB])
  | .none => .inl (by simp [tyB])
  | .cls k => .inr ⟨k, rfl⟩
theorem not_ins {K : PySem.W.Frag} {v : Ev} {sub : Nat → Nat → Bool} {t : Ty} (ht : TyF K v sub t) {c : Nat} (hc : v.ic c = true) : PySem.W.kitOne K (.ref (v.ca c)) (tyU v t) = some (match t with
    | .cls k => sub c k
    | _ => false) := by
  cases t <;> first | exact ht c hc | exact ht.2 c hc
section
variable {X : Cx} {v : Ev} {g : G} {W : WX} {a b : Expr} {e1 : Ex} {pos p p2 : Pos} {x : Str}
/-- the types that are met: their values, what isinstance tells -/
theorem ty_is {K : PySem.W.Frag} {ι : List Addr} {H H0 : Hp} {h : Hh} {d : D} {x : V} {k : Sum Ty Nat} (hK : K = v.K) (hI : InsB K v) (hr : HR v ι H h) (rx : rrE v ι H0 H d x) (e : tyD h d = some k) :
    ∃ tv, TyX K H x tv ∧ ∀ t, TyF K v g.sub t → PySem.W.kitOne K tv (tyU v t) = some (tyIs g.sub k t) := by
  subst hK
  have fin : ∀ s ∈ tyB, TyX v.K H x (.type (tyN s)) → k = .inl s → ∃ tv, TyX v.K H x tv ∧ ∀ t, TyF v.K v g.sub t → PySem.W.kitOne v.K tv (tyU v t) = some (tyIs g.sub k t) := fun s hs tx hk => by
    refine ⟨_, tx, fun t ht => ?_⟩
    subst hk
    rcases ty_mem t with m | ⟨c, rfl⟩
    · have e2 : tyU v t = .type (tyN t) := by
        cases t <;> first | rfl | simp [tyB] at m
      rw [e2]
      exact kit_bb s hs t m
    · have e3 : tyIs g.sub (.inl s) (.cls c) = false := by cases s <;> rfl
      rw [e3]
      exact ht.1 s hs
  have sq : ∀ (a : Addr) (vs : List V), SqT v.K H a vs → TyX v.K H (.ref a) (.type "tuple") := fun a vs q => by
    rcases q with (q | ⟨o, q⟩) | ⟨o, its, n, q1, q2, _⟩
    · exact .base (.tup q)
    · exact .fTuple q
    · exact .kTuple q1 q2
  have rol : ∀ (a : Addr) (vs : List V), RoL v.K H a vs → TyX v.K H (.ref a) (.type "list") := fun a vs q => by
    rcases q with ⟨o, q⟩ | ⟨o, its, n, q1, q2, _⟩
    · exact .base (.frz q)
    · exact .kList q1 q2
  cases d with
  | non => rw [rv_non rx] at fin ⊢; cases e; exact fin .none (by simp [tyB]) (.base .non) rfl
  | bl y => rw [rv_bl rx] at fin ⊢; cases e; exact fin .bool (by simp [tyB]) (.base (.bl y)) rfl
  | int y => rw [rv_int rx] at fin ⊢; cases e; exact fin .int (by simp [tyB]) (.base (.int y)) rfl
  | str y => rw [rv_str rx] at fin ⊢; cases e; exact fin .str (by simp [tyB]) (.base (.str _)) rfl
  | tup ds =>
    obtain ⟨a, vs, rfl, h1, h2⟩ := rv_tup rx
    cases e
    exact fin .tuple (by simp [tyB]) (sq a vs h1) rfl
  | rol ds =>
    cases (show RP v ι H (.rol ds) x from rx.1) with
    | rol h1 h2 =>
      cases e
      exact fin .list (by simp [tyB]) (rol _ _ h1) rfl
  | lst ds =>
    obtain ⟨a, vs, rfl, _, h3, _⟩ := (show RV v ι H (.lst ds) x from rx.1)
    cases e
    exact fin .list (by simp [tyB]) (.base (.lst h3)) rfl
  | dct ds =>
    obtain ⟨a, vs, rfl, _, h3, _⟩ := (show RV v ι H (.dct ds) x from rx.1)
    cases e
    exact fin .dict (by simp [tyB]) (.base (.dK h3)) rfl
  | exc c fs => cases e
  | ref n =>
    obtain ⟨a, rfl, ha⟩ := rv_ref rx
    cases q : h[n]? with
    | none =>
      have e : (match h[n]? with
        | some (.lst _) => some (.inl .list)
        | some (.dct _) => some (.inl .dict)
        | some (.ins c _) => some (.inr c)
        | none => none) = some k := e
      rw [q] at e; cases e
    | some c =>
      have e : (match h[n]? with
        | some (.lst _) => some (.inl .list)
        | some (.dct _) => some (.inl .dict)
        | some (.ins c _) => some (.inr c)
        | none => none) = some k := e
      rw [q] at e
      cases c with
      | lst xs =>
        obtain ⟨vs, h1, h2⟩ := (show CR v ι H a (.lst _) from hr.cell n a _ ha q)
        cases e
        exact fin .list (by simp [tyB]) (.base (.lst h1)) rfl
      | dct xs =>
        obtain ⟨vs, h1, h2⟩ := (show CR v ι H a (.dct _) from hr.cell n a _ ha q)
        cases e
        exact fin .dict (by simp [tyB]) (.base (.dK h1)) rfl
      | ins c fs =>
        obtain ⟨dx, vs, h0, h1, h2⟩ := (show CR v ι H a (.ins c fs) from hr.cell n a _ ha q)
        obtain ⟨i1, i2, i3, i4, i5⟩ := hI.cl c h0
        cases e
        refine ⟨_, .base (.ins h1 i1 i2 i3 i4 i5), fun t ht => ?_⟩
        rw [not_ins ht h0]
        cases t <;> rfl
theorem kit_anys {K : PySem.W.Frag} {v : Ev} {tv : Value} {f : Ty → Bool} : ∀ (ts : List Ty), (∀ t ∈ ts, PySem.W.kitOne K tv (tyU v t) = some (f t)) → PySem.W.kitAny K tv (ts.map (tyU v)) = some (ts.any f)
  | [], _ => rfl
  | t :: ts, h => by
    rw [List.map_cons, List.any_cons]
    refine kitAny_cons (h t (List.mem_cons_self ..)) (fun e => ?_) fun e => by rw [e]; rfl
    rw [e, Bool.false_or]
    exact kit_anys ts fun t ht => h t (List.mem_cons_of_mem _ ht)
theorem cls_map {v : Ev} : ∀ ts : List Ty, Paired ClsV (ts.map (tyV' v)) (ts.map (tyU v))
  | [] => .nil
  | t :: ts => .cons (ty_cls t) (cls_map ts)
/-- a type's name -/
def tTy (x : V) : TE := fun _ H Q => Q x H
theorem e_isi {t : Ty} (hb : Cb X v W) (hI : InsB X.K v) (hg : Gl X x) (hm : X.mg x = none) (hv : bootBuiltins x = some (.builtin "isinstance")) (ha : PE X a (tE v g W e1)) (hT : PE X b (tC (tyV' v t))) (ht : TyF X.K v g.sub t)
    (hs : starEach [a, b] X.env = (false, eval a X.env) :: starEach [b] X.env := by rfl) (hs2 : starEach [b] X.env = (false, eval b X.env) :: starEach [] X.env := by rfl) (hpl : (backTo pos (starEach [b] X.env)).any (·.1) = false := by rfl)
    (hn : x ≠ "__name__" := by decide) (hdb : (x == ("__debug__" : Str)) = false := by decide) : PE X (.Call (.Name x p) [a, b] [] pos) (tE v g W (.op (.isi [t]) [e1])) :=
  PE.imp (pe_callB call_isi hg hm hv (pa_cons ha (pa_cons hT pa_nil hs2) hs) hn hdb hs hpl) fun σ H Q ⟨ι, δ, h, hr, hs, go⟩ => by
    rw [evE_op1] at go
    refine ⟨ι, δ, h, hr, hs, Go.bind (SS := rrE v) go fun d h1 ι1 H1 x r1 ex1 hr1 rx1 go1 => ?_⟩
    have go1 : Go (rrE v) v ι1 H1 (match tyD h1 d with
      | some k => blR ([t].any (tyIs g.sub k)) h1
      | none => .no) Q _ := go1
    split at go1
    · rename_i k q
      obtain ⟨tv, h2, h3⟩ := ty_is (g := g) hb.hK hI hr1 rx1 q
      refine ⟨x, _, tv, _, _, rfl, ty_cls t, h2, h3 t ht, ?_⟩
      have e : [t].any (tyIs g.sub k) = tyIs g.sub k t := by simp
      rw [e] at go1
      exact go_bl go1 hr1
    · exact go1.elim
theorem e_isiN {ts : List Ty} {es : List Expr} {tb : TA} {j : Nat} (hb : Cb X v W) (hI : InsB X.K v) (hg : Gl X x) (hm : X.mg x = none) (hv : bootBuiltins x = some (.builtin "isinstance")) (ha : PE X a (tE v g W e1))
    (hT : PA X es (fun _ H Q => Q (ts.map (tyV' v)) H)) (ht : ∀ t ∈ ts, TyF X.K v g.sub t) (hl : ts.length ≤ sizeLine)
    (hs : starEach [a, .Tuple es j p2] X.env = (false, eval a X.env) :: starEach [.Tuple es j p2] X.env := by rfl) (hs2 : starEach [.Tuple es j p2] X.env = (false, eval (.Tuple es j p2) X.env) :: starEach [] X.env := by rfl) (hpl : (backTo pos (starEach [.Tuple es j p2] X.env)).any (·.1) = false := by rfl)
    (hn : x ≠ "__name__" := by decide) (hdb : (x == ("__debug__" : Str)) = false := by decide) : PE X (.Call (.Name x p) [a, .Tuple es j p2] [] pos) (tE v g W (.op (.isi ts) [e1])) :=
  PE.imp (pe_callB call_isiT hg hm hv (pa_cons ha (pa_cons (pe_tup hT) pa_nil hs2) hs) hn hdb hs hpl) fun σ H Q ⟨ι, δ, h, hr, hs, go⟩ => by
    rw [evE_op1] at go
    refine ⟨ι, δ, h, hr, hs, Go.bind (SS := rrE v) go fun d h1 ι1 H1 x r1 ex1 hr1 rx1 go1 => ?_⟩
    have go1 : Go (rrE v) v ι1 H1 (match tyD h1 d with
      | some k => blR (ts.any (tyIs g.sub k)) h1
      | none => .no) Q _ := go1
    split at go1
    · rename_i k q
      refine ⟨by rw [List.length_map]; exact hl, fun tp hp => ?_⟩
      have hr2 := hr1.new (o := .tup (ts.map (tyV' v))) hp
      obtain ⟨tv, h2, h3⟩ := ty_is (g := g) hb.hK hI hr2 (rx1.mono (ext_new hp)) q
      refine ⟨x, tp, ts.map (tyV' v), tv, ts.map (tyU v), _, rfl, upd_same, cls_map ts, h2, kit_anys ts fun t hts => h3 t (ht t hts), ?_⟩
      exact Go.here (Go.shift (ext_new hp) hr2 go1) hr2 ⟨.bl _, trivial⟩
    · exact go1.elim
end
end Ivy

/-! Ivy, part I: targets, statements without loops. -/
namespace Ivy
open PySem PySem.Spec PyProof.Rows L2

/-- what a statement leaves -/
def GoS (v : Ev) (W : WX) (ι : List Addr) (H : Hp) (r : Rs) (D : Ends) : Prop := match r with
  | .nx δ h => ∀ ι' H' σ', Ext ι H ι' H' → HR v ι' H' h → SR v ι' H' δ σ' → D.nx σ' H'
  | .brk δ h => ∀ ι' H' σ', Ext ι H ι' H' → HR v ι' H' h → SR v ι' H' δ σ' → D.bk σ' H'
  | .cont δ h => ∀ ι' H' σ', Ext ι H ι' H' → HR v ι' H' h → SR v ι' H' δ σ' → D.ct σ' H'
  | .ret d h => ∀ ι' H' x, Ext ι H ι' H' → HR v ι' H' h → rrE v ι' H H' d x → D.rt x H'
  | .err c fs δ h => ∀ ι' H' σ' cls dd, Ext ι H ι' H' → HR v ι' H' h → SR v ι' H' δ σ' → XR v ι' H' c fs cls dd → W cls dd σ' H'
  | .no => False
section
variable {v : Ev} {W : WX} {ι ι1 : List Addr} {H H1 : Hp} {h h1 : Hh} {r : Rs} {E : Ends} {δ : Sl} {σ : L2.St}
theorem GoS.shift (e : Ext ι H ι1 H1) (hr : HR v ι1 H1 h1) (g : GoS v W ι H r E) : GoS v W ι1 H1 r E := by
  cases r with
  | nx δ h => exact fun ι' H' σ' e' a b => g ι' H' σ' (e.trans e') a b
  | brk δ h => exact fun ι' H' σ' e' a b => g ι' H' σ' (e.trans e') a b
  | cont δ h => exact fun ι' H' σ' e' a b => g ι' H' σ' (e.trans e') a b
  | ret d h => exact fun ι' H' x e' a b => g ι' H' x (e.trans e') a ⟨b.1, b.2.back fun p hp => e.back hr hp⟩
  | err c fs δ h => exact fun ι' H' σ' cls dd e' a b c => g ι' H' σ' cls dd (e.trans e') a b c
  | no => exact g
/-- an expression, then more -/
theorem GoS.bind {α β : Type} {SS : RRel α β} {r : R α} {k : α → Hh → Rs} {Q' : β → Hp → Prop} (hs : SR v ι H δ σ) (g : GoS v W ι H (r.go δ k) E)
    (step : ∀ d h1 ι1 H1 x, r = .ok d h1 → Ext ι H ι1 H1 → HR v ι1 H1 h1 → SS ι1 H H1 d x → GoS v W ι1 H1 (k d h1) E → Q' x H1) : Go SS v ι H r Q' (fun c d H' => W c d σ H') := by
  cases r with
  | ok d h1 => exact fun ι1 H1 x e r' q => step d h1 ι1 H1 x rfl e r' q (GoS.shift e r' g)
  | err c fs h1 => exact fun ι' H' cls dd e r' q => g ι' H' σ cls dd e r' (hs.mono e) q
  | no => exact g
theorem GoS.mono {r : Rs} {E' : Ends} (g : GoS v W ι H r E) (h1 : ∀ σ H, E.nx σ H → E'.nx σ H) (h2 : ∀ x H, E.rt x H → E'.rt x H) (h3 : ∀ σ H, E.bk σ H → E'.bk σ H) (h4 : ∀ σ H, E.ct σ H → E'.ct σ H) : GoS v W ι H r E' := by
  cases r with
  | nx δ h => exact fun ι' H' σ' e' a b => h1 _ _ (g ι' H' σ' e' a b)
  | brk δ h => exact fun ι' H' σ' e' a b => h3 _ _ (g ι' H' σ' e' a b)
  | cont δ h => exact fun ι' H' σ' e' a b => h4 _ _ (g ι' H' σ' e' a b)
  | ret d h => exact fun ι' H' x e' a b => h2 _ _ (g ι' H' x e' a b)
  | err c fs δ h => exact g
  | no => exact g
end
theorem R.go_bind {α β : Type} (r : R α) (k : α → Hh → R β) (δ : Sl) (l : β → Hh → Rs) : (r.bind k).go δ l = r.go δ fun a h => (k a h).go δ l := by cases r <;> rfl
mutual
/-- the slots that a target stores -/
def Tg.ns : Tg → List Nat
  | .name i => [i]
  | .tup ts => Tg.nss ts
def Tg.nss : List Tg → List Nat
  | [] => []
  | t :: ts => Tg.ns t ++ Tg.nss ts
end
/-- alike off some slots -/
def Off (is : List Nat) (σ σ' : L2.St) : Prop := σ'.length = σ.length ∧ ∀ j, j ∉ is → σ'[j]? = σ[j]?
theorem Off.set {i : Nat} {σ : L2.St} {x : Option V} : Off [i] σ (σ.set i x) := ⟨List.length_set, fun j hj => List.getElem?_set_ne fun z => hj (by simp [z])⟩
theorem Off.trans {a b : List Nat} {σ σ' σ2 : L2.St} (h : Off a σ σ') (k : Off b σ' σ2) : Off (a ++ b) σ σ2 :=
  ⟨k.1.trans h.1, fun j hj => (k.2 j fun z => hj (List.mem_append_right _ z)).trans (h.2 j fun z => hj (List.mem_append_left _ z))⟩
section
variable (v : Ev) (g : G) (W : WX)
def tS (st : St) : TS := fun D σ H => ∃ ι δ h, HR v ι H h ∧ SR v ι H δ σ ∧ GoS v W ι H (evS g st δ h) D
def tSs (sts : List St) : TS := fun D σ H => ∃ ι δ h, HR v ι H h ∧ SR v ι H δ σ ∧ GoS v W ι H (evSs g sts δ h) D
/-- a store: what the slots are then -/
def gT (t : Tg) : TG := fun x σ H Q => ∃ ι δ h d δ', HR v ι H h ∧ SR v ι H δ σ ∧ RP v ι H d x ∧ putT t d δ = some δ' ∧ ∀ σ', SR v ι H δ' σ' → Off (Tg.ns t) σ σ' → Q σ' H
def gTs (ts : List Tg) : TGs := fun xs σ H Q => ∃ ι δ h ds δ', HR v ι H h ∧ SR v ι H δ σ ∧ RPs v ι H ds xs ∧ putTs ts ds δ = some δ' ∧ ∀ σ', SR v ι H δ' σ' → Off (Tg.nss ts) σ σ' → Q σ' H
end
theorem PG.imp {X : Cx} {e : Expr} {t t' : TG} (h : PG X e t) (k : ∀ x σ H Q, t' x σ H Q → t x σ H Q) : PG X e t' := ⟨fun pins s σ H v u Q I r q => h.run pins s σ H v u Q I r (k v σ H Q q)⟩
theorem PGs.imp {X : Cx} {e : List Expr} {t t' : TGs} (h : PGs X e t) (k : ∀ x σ H Q, t' x σ H Q → t x σ H Q) : PGs X e t' := ⟨fun pins s σ H v u Q I r q => h.run pins s σ H v u Q I r (k v σ H Q q)⟩
section
variable {X : Cx} {v : Ev} {g : G} {W : WX} {a b c : Expr} {e1 e2 e3 : Ex} {es rest : List Expr} {fs : List Ex} {pos p p2 : Pos} {t1 : Te} {tg : Tg} {tgs : List Tg} {x y : Str} {st : Stmt} {sts sts2 : List Stmt} {s1 : St} {ss ss2 : List St}

/-! ### stores -/
theorem SR.set {ι : List Addr} {H : Hp} {δ : Sl} {σ : L2.St} {i : Nat} {d : D} {x : V} (r : SR v ι H δ σ) (q : RP v ι H d x) : SR v ι H (δ.set i (some d)) (σ.set i (some x)) := by
  refine ⟨by rw [List.length_set, List.length_set]; exact r.1, fun j e he => ?_⟩
  by_cases hj : i = j
  · subst hj
    by_cases hi : i < δ.length
    · rw [List.getElem?_set_self hi] at he
      cases he
      exact ⟨x, List.getElem?_set_self (by rw [← r.1]; exact hi), q⟩
    · rw [List.getElem?_eq_none (by rw [List.length_set]; omega)] at he; cases he
  · rw [List.getElem?_set_ne hj] at he ⊢
    exact r.2 j e he
theorem SR.wipe {ι : List Addr} {H : Hp} {δ : Sl} {σ : L2.St} (r : SR v ι H δ σ) : ∀ ks : List Nat, SR v ι H (wipeS δ ks) σ
  | [] => r
  | k :: ks => by
    have q := SR.wipe r ks
    refine ⟨by rw [wipeS, List.length_set]; exact q.1, fun j e he => ?_⟩
    rw [wipeS] at he
    by_cases hj : k = j
    · subst hj
      by_cases hi : k < (wipeS δ ks).length
      · rw [List.getElem?_set_self hi] at he; cases he
      · rw [List.getElem?_eq_none (by rw [List.length_set]; omega)] at he; cases he
    · rw [List.getElem?_set_ne hj] at he
      exact q.2 j e he
theorem g_name {i : Nat} (hN : X.N.Nodup) (hi : X.N[i]? = some x) (hx : Loc X.env.scope x) (hf : X.fn x = true ∨ X.env.scope.names.lookup x = some .local := by first | exact .inl rfl | exact .inr rfl | assumption) : PG X (.Name x pos) (gT v (.name i)) :=
  PG.imp (pg_name hN hi hx hf) fun z σ H Q ⟨ι, δ, h, d, δ', hr, hs, rz, e, q⟩ => by
    unfold putT at e
    split at e
    · cases e; exact q _ (hs.set rz) .set
    · cases e
theorem gs_nil : PGs X [] (gTs v []) := PGs.imp pgs_nil fun xs σ H Q ⟨ι, δ, h, ds, δ', hr, hs, rz, e, q⟩ => by
  cases rz with
  | nil => cases e; exact ⟨rfl, q _ hs ⟨rfl, fun _ _ => rfl⟩⟩
  | cons _ _ => cases e
theorem gs_cons (h1 : PG X a (gT v tg)) (h2 : PGs X es (gTs v tgs)) (hs : (assignEach (a :: es) X.env).map (·.2) = assign a X.env :: (assignEach es X.env).map (·.2) := by rfl) : PGs X (a :: es) (gTs v (tg :: tgs)) :=
  PGs.imp (pgs_cons h1 h2 hs) fun xs σ H Q ⟨ι, δ, h, ds, δ', hr, hs, rz, e, q⟩ => by
    cases rz with
    | nil => cases e
    | cons r1 r2 =>
      unfold putTs at e
      split at e
      · rename_i δ1 e1
        exact ⟨_, _, rfl, ι, δ, h, _, δ1, hr, hs, r1, e1, fun σ1 hs1 o1 => ⟨ι, δ1, h, _, δ', hr, hs1, r2, e, fun σ2 hs2 o2 => q σ2 hs2 (by unfold Tg.nss; exact o1.trans o2)⟩⟩
      · cases e
theorem putTs_len : ∀ {ts : List Tg} {ds : List D} {δ δ' : Sl}, putTs ts ds δ = some δ' → ts.length = ds.length
  | [], [], _, _, _ => rfl
  | [], _ :: _, _, _, e => by cases e
  | _ :: _, [], _, _, e => by cases e
  | t :: ts, d :: ds, δ, δ', e => by
    unfold putTs at e
    split at e
    · rw [List.length_cons, List.length_cons, putTs_len e]
    · cases e
theorem g_tup {k : Nat} {n : Nat} (hb : Cb X v W) (hc : X.calm = true) (h : PGs X es (gTs v tgs)) (hl : tgs.length = n := by rfl) (hn : (assignEach es X.env).length = n := by rfl) (hst : (assignEach es X.env).findIdx? (·.1) = none := by rfl) : PG X (.Tuple es k pos) (gT v (.tup tgs)) :=
  PG.imp (pg_tup hc h hn hst) fun z σ H Q ⟨ι, δ, h, d, δ', hr, hs, rz, e, q⟩ => by
    cases d <;> first | cases e | skip
    rename_i ds
    have e : putTs tgs ds δ = some δ' := e
    cases rz with
    | tup h1 h2 =>
      refine ⟨_, _, rfl, by rw [hb.hK]; exact h1, ?_, ι, δ, h, ds, δ', hr, hs, h2, e, fun σ2 hs2 o2 => q σ2 hs2 (by unfold Tg.ns; exact o2)⟩
      rw [← h2.length, ← putTs_len e, hl]

/-! ### statements -/
theorem putT_pers : ∀ {t : Tg} {d : D} {δ δ' : Sl}, putT t d δ = some δ' → D.pers d = true
  | .name i, d, δ, δ', e => by
    unfold putT at e
    split at e
    · assumption
    · cases e
  | .tup ts, d, δ, δ', e => by
    cases d <;> first | rfl | cases e
theorem l_asg {E : Ends} {σ : L2.St} {H : Hp} (t : tS v g W (.asg tg e1) E σ H) : tAsg (tE v g W e1) (gT v tg) E σ H := by
  obtain ⟨ι, δ, h, hr, hs, go⟩ := t
  have e : evS g (.asg tg e1) δ h = (evE g e1 δ h).go δ fun x h => match putT tg x δ with
    | some δ' => .nx δ' h
    | none => .no := by simp only [evS] <;> rfl
  rw [e] at go
  refine ⟨ι, δ, h, hr, hs, GoS.bind (SS := rrE v) hs go fun d h1 ι1 H1 x r1 ex1 hr1 rx1 go1 => ?_⟩
  split at go1
  · rename_i δ' q
    exact ⟨ι1, δ, h1, d, δ', hr1, hs.mono ex1, rx1.1.rp (putT_pers q), q, fun σ' hs' _ => go1 ι1 H1 σ' .refl hr1 hs'⟩
  · exact go1.elim
theorem s_asg (he : PE X b (tE v g W e1)) (hg : PG X a (gT v tg)) (hs : swapsWithSole [a] b pos.line X.env = pure false := by rfl) (hw : swappedStores [a] b X.env = pure none := by rfl)
    (h1 : (assignEach [a] X.env).map (·.2) = [assign a X.env] := by rfl) : PS X (.Assign [a] b pos) (tS v g W (.asg tg e1)) := PS.imp (ps_asg he hg hs hw h1) fun D σ H t => l_asg t
theorem l_set {i : Nat} {E : Ends} {σ : L2.St} {H : Hp} (t : tS v g W (.asg (.name i) e1) E σ H) : tE v g W e1 σ H (fun x H1 => gName i x σ H1 E.nx) := by
  obtain ⟨ι, δ, h, hr, hs, go⟩ := l_asg t
  exact ⟨ι, δ, h, hr, hs, go.imp (fun x H ⟨ι, δ, h, d, δ', hr, hs, rz, e, q⟩ => by
    unfold putT at e
    split at e
    · cases e; exact q _ (hs.set rz) .set
    · cases e) fun _ _ _ w => w⟩
theorem s_set {i : Nat} (hN : X.N.Nodup) (hi : X.N[i]? = some x) (hx : Loc X.env.scope x) (he : PE X b (tE v g W e1)) (hs : swapsWith b (some (.Name x p)) pos.line X.env = pure false := by rfl) (hf : X.fn x = true ∨ X.env.scope.names.lookup x = some .local := by first | exact .inl rfl | exact .inr rfl | assumption) :
    PS X (.Assign [.Name x p] b pos) (tS v g W (.asg (.name i) e1)) := PS.imp (ps_set hN hi hx he hs hf) fun E σ H t => l_set t
/-- a, b = x, y of plain names -/
theorem s_par {i j k2 kt : Nat} {px py pt pt2 : Pos} (hc : X.calm = true) (hN : X.N.Nodup) (hi : X.N[i]? = some x) (hj : X.N[j]? = some y) (hij : i ≠ j)
    (hx : X.env.scope.names.lookup x = some .local) (hy : X.env.scope.names.lookup y = some .local) (ha : PA X [a, b] (tL v g W [e1, e2]))
    (hw : swappedStores [.Tuple [.Name x px, .Name y py] kt pt] (.Tuple [a, b] k2 pt2) X.env = pure (some [x, y]))
    (hs : swapsWithSole [.Tuple [.Name x px, .Name y py] kt pt] (.Tuple [a, b] k2 pt2) pos.line X.env = pure false := by rfl) :
    PS X (.Assign [.Tuple [.Name x px, .Name y py] kt pt] (.Tuple [a, b] k2 pt2) pos) (tS v g W (.asg (.tup [.name i, .name j]) (.op .tup [e1, e2]))) :=
  PS.imp (ps_par hc hN hi hj hij hx hy ha hw hs) fun E σ H ⟨ι, δ, h, hr, hs, go⟩ => by
    have e : evS g (.asg (.tup [.name i, .name j]) (.op .tup [e1, e2])) δ h = (evEs g [e1, e2] δ h).go δ fun ds h => (opApp g.sub .tup ds h).go δ fun x h => match putT (.tup [.name i, .name j]) x δ with
      | some δ' => .nx δ' h
      | none => .no := by
      simp only [evS, evE]
      cases evEs g [e1, e2] δ h <;> rfl
    rw [e] at go
    refine ⟨ι, δ, h, hr, hs, GoS.bind (SS := rrL v) hs go fun ds h1 ι1 H1 xs r1 ex1 hr1 rx1 go1 => ?_⟩
    have e2 : opApp g.sub .tup ds h1 = whenR (persL ds && decide (ds.length ≤ cells)) (.ok (.tup ds) h1) := rfl
    rw [e2] at go1
    cases c : (persL ds && decide (ds.length ≤ cells)) with
    | false => rw [c] at go1; exact go1.elim
    | true =>
      rw [c] at go1
      rw [Bool.and_eq_true] at c
      have rs := rx1.rps c.1
      cases rs with
      | nil => exact go1.elim
      | cons q1 rs =>
      cases rs with
      | nil =>
        have go1 : GoS v W ι1 H1 (match putT (.tup [.name i, .name j]) (.tup [_]) δ with
          | some δ' => .nx δ' h1
          | none => .no) E := go1
        split at go1
        · rename_i q
          have := putTs_len (show putTs [.name i, .name j] [_] δ = some _ from q)
          cases this
        · exact go1.elim
      | cons q2 rs =>
      cases rs with
      | cons _ _ =>
        have go1 : GoS v W ι1 H1 (match putT (.tup [.name i, .name j]) (.tup (_ :: _ :: _ :: _)) δ with
          | some δ' => .nx δ' h1
          | none => .no) E := go1
        split at go1
        · rename_i q
          have := putTs_len (show putTs [.name i, .name j] (_ :: _ :: _ :: _) δ = some _ from q)
          simp at this
        · exact go1.elim
      | nil =>
        rename_i d x d' x'
        refine ⟨x, x', rfl, ?_⟩
        have go1 : GoS v W ι1 H1 (match putTs [.name i, .name j] [d, d'] δ with
          | some δ' => .nx δ' h1
          | none => .no) E := go1
        have e3 : putTs [.name i, .name j] [d, d'] δ = some ((δ.set i (some d)).set j (some d')) := by
          have p1 : D.pers d = true := by
            have := c.1
            simp [persL] at this
            exact this.1
          have p2 : D.pers d' = true := by
            have := c.1
            simp [persL] at this
            exact this.2
          unfold putTs putT putTs putT putTs
          simp only [p1, p2, if_true]
        rw [e3] at go1
        exact go1 ι1 H1 _ .refl hr1 (((hs.mono ex1).set q1).set q2)
theorem s_ex (he : PE X a (tE v g W e1)) (hs : swapsWith a none pos.line X.env = pure false := by rfl) : PS X (.Expr a pos) (tS v g W (.ex e1)) :=
  PS.imp (ps_expr he hs) fun E σ H ⟨ι, δ, h, hr, hs, go⟩ => by
    have e : evS g (.ex e1) δ h = (evE g e1 δ h).go δ fun _ h => .nx δ h := by simp only [evS]
    rw [e] at go
    exact ⟨ι, δ, h, hr, hs, GoS.bind (SS := rrE v) hs go fun d h1 ι1 H1 x r1 ex1 hr1 rx1 go1 => go1 ι1 H1 σ .refl hr1 (hs.mono ex1)⟩
theorem s_ret (he : PE X a (tE v g W e1)) : PS X (.Return (some a) pos) (tS v g W (.ret e1)) :=
  PS.imp (ps_ret he) fun E σ H ⟨ι, δ, h, hr, hs, go⟩ => by
    have e : evS g (.ret e1) δ h = (evE g e1 δ h).go δ fun x h => .ret x h := by simp only [evS]
    rw [e] at go
    refine ⟨ι, δ, h, hr, hs, GoS.bind (SS := rrE v) hs go fun d h1 ι1 H1 x r1 ex1 hr1 rx1 _ => ?_⟩
    rw [r1] at go
    exact go ι1 H1 x ex1 hr1 rx1
theorem s_retN : PS X (.Return none pos) (tS v g W .retN) :=
  PS.imp ps_retN fun E σ H ⟨ι, δ, h, hr, hs, go⟩ => by
    have e : evS g .retN δ h = .ret .non h := by simp only [evS]
    rw [e] at go
    exact go ι H _ .refl hr ⟨.non, trivial⟩
theorem s_pass : PS X (.Pass pos) (tS v g W .pass) :=
  PS.imp ps_pass fun E σ H ⟨ι, δ, h, hr, hs, go⟩ => by
    have e : evS g .pass δ h = .nx δ h := by simp only [evS]
    rw [e] at go
    exact go ι H _ .refl hr hs
theorem s_brk : PS X (.Break pos) (tS v g W .brk) :=
  PS.imp ps_break fun E σ H ⟨ι, δ, h, hr, hs, go⟩ => by
    have e : evS g .brk δ h = .brk δ h := by simp only [evS]
    rw [e] at go
    exact go ι H _ .refl hr hs
theorem s_cont : PS X (.Continue pos) (tS v g W .cont) :=
  PS.imp ps_continue fun E σ H ⟨ι, δ, h, hr, hs, go⟩ => by
    have e : evS g .cont δ h = .cont δ h := by simp only [evS]
    rw [e] at go
    exact go ι H _ .refl hr hs
theorem s_ite (hc : PT X c (tT v g W t1)) (ha : PSs X sts (tSs v g W ss)) (hb : PSs X sts2 (tSs v g W ss2)) : PS X (.If c sts sts2 pos) (tS v g W (.ite t1 ss ss2)) :=
  PS.imp (ps_if hc ha hb) fun E σ H ⟨ι, δ, h, hr, hs, go⟩ => by
    have e : evS g (.ite t1 ss ss2) δ h = (evT g t1 δ h).go δ fun k h => if k = true then evSs g ss δ h else evSs g ss2 δ h := by simp only [evS]
    rw [e] at go
    refine ⟨ι, δ, h, hr, hs, GoS.bind (SS := rrB) hs go fun d h1 ι1 H1 x r1 ex1 hr1 rx1 go1 => ?_⟩
    cases (show x = d from rx1)
    cases d with
    | true => exact ⟨ι1, δ, h1, hr1, hs.mono ex1, go1⟩
    | false => exact ⟨ι1, δ, h1, hr1, hs.mono ex1, go1⟩
theorem ss_nil : PSs X [] (tSs v g W []) :=
  PSs.imp pss_nil fun E σ H ⟨ι, δ, h, hr, hs, go⟩ => by
    have e : evSs g [] δ h = .nx δ h := by simp only [evSs]
    rw [e] at go
    exact go ι H _ .refl hr hs
/-- a statement, then the rest -/
theorem GoS.seq {ι : List Addr} {H : Hp} {r : Rs} {k : Sl → Hh → Rs} {E E' : Ends} (go : GoS v W ι H (match r with
      | .nx δ h => k δ h
      | r => r) E) (h1 : E'.rt = E.rt) (h2 : E'.bk = E.bk) (h3 : E'.ct = E.ct)
    (hn : ∀ δ h ι1 H1 σ1, r = .nx δ h → Ext ι H ι1 H1 → HR v ι1 H1 h → SR v ι1 H1 δ σ1 → GoS v W ι1 H1 (k δ h) E → E'.nx σ1 H1) : GoS v W ι H r E' := by
  cases r with
  | nx δ h => exact fun ι1 H1 σ1 ex hr hs => hn δ h ι1 H1 σ1 rfl ex hr hs (GoS.shift ex hr go)
  | brk δ h => exact fun ι1 H1 σ1 ex hr hs => by rw [h2]; exact go ι1 H1 σ1 ex hr hs
  | cont δ h => exact fun ι1 H1 σ1 ex hr hs => by rw [h3]; exact go ι1 H1 σ1 ex hr hs
  | ret d h => exact fun ι1 H1 σ1 ex hr hs => by rw [h1]; exact go ι1 H1 σ1 ex hr hs
  | err c fs δ h => exact go
  | no => exact go
theorem ss_cons (h1 : PS X st (tS v g W s1)) (h2 : PSs X sts (tSs v g W ss)) : PSs X (st :: sts) (tSs v g W (s1 :: ss)) :=
  PSs.imp (pss_cons h1 h2) fun E σ H ⟨ι, δ, h, hr, hs, go⟩ => by
    have e : evSs g (s1 :: ss) δ h = (match evS g s1 δ h with
      | .nx δ2 h2 => evSs g ss δ2 h2
      | r => r) := by simp only [evSs] <;> rfl
    rw [e] at go
    exact ⟨ι, δ, h, hr, hs, GoS.seq go rfl rfl rfl fun δ1 h1 ι1 H1 σ1 r1 ex1 hr1 hs1 go1 => ⟨ι1, δ1, h1, hr1, hs1, go1⟩⟩
/-- a docstring -/
theorem ss_doc {z : Str} {j : Nat} (h2 : PSs X sts (tSs v g W ss)) : PSs X (.Expr (.Constant (.str z) j pos) p :: sts) (tSs v g W ss) := PSs.imp (pss_cons ps_doc h2) fun E σ H t => t
end
end Ivy

/-! Ivy, part J: stores into lists and dicts, methods of lists. -/
namespace Ivy
open PySem PySem.Spec PyProof.Rows L2
section
variable {X : Cx} {v : Ev} {g : G} {W : WX} {a b c : Expr} {e1 e2 e3 : Ex} {es rest : List Expr} {fs : List Ex} {pos p p2 apos cpos : Pos}

theorem go_set {ι : List Addr} {H : Hp} {h : Hh} {n : Nat} {a : Addr} {d : D} {x : V} {o o0 : HO} {cc : C} {Q : VK} {E : XK} (go : Go (rrE v) v ι H (.ok d (h.set n cc)) Q E) (hr : HR v ι H h) (ha : ι[n]? = some a) (h0 : H a = some o0) (hk : kd o = kd o0)
    (hc : Ext ι H ι (upd H a o) → CR v ι (upd H a o) a cc) (rx : RP v ι H d x) (hp : D.pers d = true) : Q x (upd H a o) := by
  have ex : Ext ι H ι (upd H a o) := ext_cell hr ha h0 hk
  exact go ι _ x ex (hr.set ha ex (hc ex)) ⟨RV.of (rx.mono ex) (.inl hp), New.pers hp⟩
theorem put_keys {kvs : List (Ky × D)} {kvs' : List (Key × V)} (k : Ky) (e : kvs'.map (·.1) = kvs.map (fun p => kyV p.1)) : (kvs'.any fun kv => decide (kv.1 = kyV k)) = kvs.any fun p => decide (p.1 = k) := by
  induction kvs generalizing kvs' with
  | nil => cases kvs' <;> first | rfl | cases e
  | cons p r ih =>
    cases kvs' with
    | nil => cases e
    | cons q s =>
      rw [List.map_cons, List.map_cons] at e
      obtain ⟨e1, e2⟩ := List.cons.inj e
      rw [List.any_cons, List.any_cons, ih e2, e1]
      congr 1
      by_cases z : p.1 = k
      · rw [z]; simp
      · rw [decide_eq_false z, decide_eq_false fun y => z (kyV_inj y)]
theorem put_map {ι : List Addr} {H : Hp} {d : D} {x : V} (k : Ky) (q : RP v ι H d x) : ∀ {kvs : List (Ky × D)} {kvs' : List (Key × V)}, RK v ι H kvs kvs' → RK v ι H (kvs.map fun p => if p.1 = k then (p.1, d) else p) (kvs'.map fun kv => if kv.1 = kyV k then (kv.1, x) else kv)
  | [], [], _ => ⟨rfl, .nil⟩
  | [], _ :: _, r => by cases r.1
  | _ :: _, [], r => by cases r.1
  | p :: r, p' :: s, ⟨r1, r2⟩ => by
    rw [List.map_cons, List.map_cons] at r1 r2
    obtain ⟨e1, e2⟩ := List.cons.inj r1
    cases r2 with
    | cons q1 q2 =>
      obtain ⟨i1, i2⟩ := put_map k q (kvs := r) (kvs' := s) ⟨e2, q2⟩
      rw [List.map_cons, List.map_cons]
      by_cases z : p.1 = k
      · have z' : p'.1 = kyV k := by rw [e1, z]
        rw [if_pos z, if_pos z']
        exact ⟨by rw [List.map_cons, List.map_cons, i1]; simp only [e1], .cons q i2⟩
      · have z' : p'.1 ≠ kyV k := by rw [e1]; exact fun y => z (kyV_inj y)
        rw [if_neg z, if_neg z']
        exact ⟨by rw [List.map_cons, List.map_cons, i1, e1], .cons q1 i2⟩
theorem RK.put {ι : List Addr} {H : Hp} {kvs : List (Ky × D)} {kvs' : List (Key × V)} {d : D} {x : V} (k : Ky) (r : RK v ι H kvs kvs') (q : RP v ι H d x) : RK v ι H (kPut kvs k d) (putK kvs' (kyV k) x) := by
  unfold kPut putK
  rw [put_keys k r.1]
  split
  · exact put_map k q r
  · refine ⟨by rw [List.map_append, List.map_append, r.1]; rfl, ?_⟩
    rw [List.map_append, List.map_append]
    exact r.2.app (.cons q .nil)
def rSet2 : TSet := fun o i v H Q => rSetL o i v H Q ∨ rSetD o i v H Q
theorem set_both (hb : Cb X v W) : PSet X rSet2 := fun pins s σ H o i v ov iv u Q I r1 r2 r3 q => q.elim (set_list pins s σ H o i v ov iv u Q I r1 r2 r3) (set_dict (by have := hb.hu; omega) pins s σ H o i v ov iv u Q I r1 r2 r3)
theorem ky_val {ι : List Addr} {H H0 : Hp} {d : D} {k : Ky} {x : V} (e : kyD d = some k) (r : rrE v ι H0 H d x) : x = kV (kyV k) := by
  unfold kyD at e
  split at e
  · cases e; rw [rv_int r]; rfl
  · cases e; rw [rv_str r]; rfl
  · cases e
theorem v_setItem {ι : List Addr} {H H0 H1 H2 : Hp} {h : Hh} {d e f : D} {x y z : V} {Q : VK} {E : XK} (hr : HR v ι H h) (rx : rrE v ι H0 H d x) (ry : rrE v ι H1 H e y) (rz : rrE v ι H2 H f z)
    (go : Go (rrE v) v ι H (opApp g.sub .setItem [d, e, f] h) Q E) : rSet2 y z x H (fun H' => Q .non H') := by
  cases e <;> first | exact go.elim | skip
  rename_i n
  obtain ⟨a, rfl, ha⟩ := rv_ref ry
  have go : Go (rrE v) v ι H (match (generalizing := false) h[n]?, f with
    | some (.lst xs), .int i => (match ixP xs.length i with
      | some k => whenR (D.pers d) (chg h n (xs.set k d) .non)
      | none => .no)
    | some (.dct kvs), b => (match kyD b with
      | some k => whenR (D.pers d && decide (kvs.length < cells)) (.ok .non (h.set n (.dct (kPut kvs k d))))
      | none => .no)
    | _, _ => .no) Q E := go
  cases q : h[n]? with
  | none => rw [q] at go; exact go.elim
  | some cc =>
    rw [q] at go
    cases cc with
    | ins _ _ => exact go.elim
    | lst xs =>
      cases f <;> first | exact go.elim | skip
      rename_i i _
      have go : Go (rrE v) v ι H (match ixP xs.length i with
        | some k => whenR (D.pers d) (chg h n (xs.set k d) .non)
        | none => .no) Q E := go
      cases ek : ixP xs.length i with
      | none => rw [ek] at go; exact go.elim
      | some k =>
        rw [ek] at go
        obtain ⟨c, go⟩ := go_when go
        obtain ⟨vs, h1, h2⟩ := (show CR v ι H a (.lst _) from hr.cell n a _ ha q)
        rw [rv_int rz]
        refine .inl ⟨a, vs, i, k, rfl, rfl, h1, by rw [← ixP_eq, ← h2.length]; exact ek, ?_⟩
        exact go_set (show Go (rrE v) v ι H (.ok .non (h.set n (.lst (xs.set k d)))) Q E from go) hr ha h1 rfl (fun ex => ⟨_, upd_same, ((h2.set (rx.1.rp c) k)).mono ex⟩) .non rfl
    | dct kvs =>
      have go : Go (rrE v) v ι H (match kyD f with
        | some k => whenR (D.pers d && decide (kvs.length < cells)) (.ok .non (h.set n (.dct (kPut kvs k d))))
        | none => .no) Q E := go
      cases ek : kyD f with
      | none => rw [ek] at go; exact go.elim
      | some k =>
        rw [ek] at go
        obtain ⟨c, go⟩ := go_when go
        rw [Bool.and_eq_true] at c
        obtain ⟨kvs', h1, h2⟩ := (show CR v ι H a (.dct _) from hr.cell n a _ ha q)
        have e := ky_val ek rz
        subst e
        have hl : kvs'.length < sizeLine := by
          have := congrArg List.length h2.1
          simp at this
          rw [this, ← cells_eq]; exact of_decide_eq_true c.2
        refine .inr ⟨a, _, rfl, DPut.k h1 hl, ?_⟩
        exact go_set go hr ha h1 rfl (fun ex => ⟨_, upd_same, (h2.put k (rx.1.rp c.1)).mono ex⟩) .non rfl
/-- o[i] = e -/
theorem s_setItem (hb : Cb X v W) (he : PE X c (tE v g W e1)) (ho : PE X a (tE v g W e2)) (hi : PE X b (tE v g W e3)) (hs : swapsWithSole [.Subscript a b p] c pos.line X.env = pure false := by rfl) (hw : swappedStores [.Subscript a b p] c X.env = pure none := by rfl)
    (h1 : (assignEach [.Subscript a b p] X.env).map (·.2) = [assign (.Subscript a b p) X.env] := by rfl)
    (ha : ∀ v, assign (.Subscript a b p) X.env v = (do
      let ov ← holding [v] (eval a X.env)
      let iv ← holding [v, ov] (eval b X.env)
      standAt p
      holding [v, ov, iv] (setItem ov iv v)
      release [v, ov, iv] []) := by intro _; rfl) : PS X (.Assign [.Subscript a b p] c pos) (tS v g W (.ex (.op .setItem [e1, e2, e3]))) :=
  PS.imp (ps_asg he (pg_sub ho hi (set_both hb) ha) hs hw h1) fun E σ H ⟨ι, δ, h, hr, hs, go⟩ => by
    have e : evS g (.ex (.op .setItem [e1, e2, e3])) δ h = (evE g e1 δ h).go δ fun x h => (evE g e2 δ h).go δ fun y h => (evE g e3 δ h).go δ fun z h => (opApp g.sub .setItem [x, y, z] h).go δ fun _ h => .nx δ h := by
      simp only [evS]
      rw [evE_op3]
      simp only [R.go_bind]
    rw [e] at go
    refine ⟨ι, δ, h, hr, hs, GoS.bind (SS := rrE v) hs go fun d h1 ι1 H1 x r1 ex1 hr1 rx1 go1 => ?_⟩
    refine ⟨ι1, δ, h1, hr1, hs.mono ex1, GoS.bind (SS := rrE v) (hs.mono ex1) go1 fun e h2 ι2 H2 y r2 ex2 hr2 ry2 go2 => ?_⟩
    have hs2 := (hs.mono ex1).mono ex2
    refine ⟨ι2, δ, h2, hr2, hs2, GoS.bind (SS := rrE v) hs2 go2 fun f h3 ι3 H3 z r3 ex3 hr3 rz3 go3 => ?_⟩
    have hs3 := hs2.mono ex3
    refine v_setItem (g := g) (Q := fun _ H' => E.nx σ H') (E := fun c d H' => W c d σ H') hr3 ((rx1.mono ex2).mono ex3) (ry2.mono ex3) rz3 (GoS.bind (SS := rrE v) hs3 go3 fun w h4 ι4 H4 u r4 ex4 hr4 ru4 go4 => ?_)
    exact go4 ι4 H4 σ .refl hr4 (hs3.mono ex4)

/-! ### methods of lists -/
theorem ck_lst {d : D} {h : Hh} : ckR 1 d h = (match d with
    | .ref n => (match h[n]? with
      | some (.lst _) => .ok (.ref n) h
      | _ => .no)
    | _ => .no) := by
  cases d <;> first | rfl | skip
  rename_i n
  show (match h[n]? with
    | some (.lst _) => whenR (1 == 1) (.ok (D.ref n) h)
    | some (.dct _) => whenR (1 == 2) (.ok (D.ref n) h)
    | _ => .no : R D) = (match h[n]? with
      | some (.lst _) => .ok (.ref n) h
      | _ => .no)
  cases q : h[n]? with
  | none => rfl
  | some c => cases c <;> rfl
theorem evE_ck {k : Nat} {δ : Sl} {h : Hh} : evE g (.ck k e1) δ h = (evE g e1 δ h).bind fun d h => ckR k d h := by simp only [evE]
/-- a method of a list's cell, one argument -/
theorem e_lm1 {o : Op} {name : Str} {id : String} {r : V → List V → Hp → VK → Prop} (hb : Cb X v W) (slot : Slot "list" name id) (hty : typeOf (.builtin id) = pure (.type "method_descriptor")) (hm : MtR X id r)
    (val : ∀ (ι : List Addr) (H H0 H1 : Hp) (h : Hh) (n : Nat) (e : D) (x y : V) (Q : VK) (E : XK), HR v ι H h → rrE v ι H0 H (.ref n) x → rrE v ι H1 H e y → Go (rrE v) v ι H (opApp g.sub o [.ref n, e] h) Q E → r x [y] H Q)
    (ha : PE X a (tE v g W e1)) (hi : PE X b (tE v g W e2)) (hbase : attributeBase a name X.env (eval a X.env) = eval a X.env := by rfl)
    (hfew : ((backTo cpos (starEach [b] X.env)).all (fun x => !x.1) && (backToKw cpos (keywordEach [] X.env)).all (fun x => x.1.isSome)
      && decide ([b].length + ([] : List Keyword).length + (if ([] : List Keyword).isEmpty then 0 else 1) < 30)) = true := by rfl)
    (hline : (apos.endLine == cpos.line) = true := by rfl) (hs : starEach [b] X.env = (false, eval b X.env) :: starEach [] X.env := by rfl) (hplain : (backTo cpos (starEach [] X.env)).any (·.1) = false := by rfl) :
    PE X (.Call (.Attribute a name apos) [b] [] cpos) (tE v g W (.op o [.ck 1 e1, e2])) :=
  PE.imp (pe_bm PySem.F.plainAttrs_list slot hty hm ha (pa_cons hi pa_nil hs) hbase hfew hline hs hplain) fun σ H Q ⟨ι, δ, h, hr, hs, go⟩ => by
    rw [evE_op2, evE_ck, R.assoc] at go
    refine ⟨ι, δ, h, hr, hs, Go.bind (SS := rrE v) go fun d h1 ι1 H1 x r1 ex1 hr1 rx1 go1 => ?_⟩
    rw [ck_lst] at go1
    cases d <;> first | exact go1.elim | skip
    rename_i n
    obtain ⟨p, rfl, hp⟩ := rv_ref rx1
    have go1 : Go (rrE v) v ι1 H1 ((match h1[n]? with
      | some (.lst _) => .ok (.ref n) h1
      | _ => .no : R D).bind fun x h => (evE g e2 δ h).bind fun y h => opApp g.sub o [x, y] h) Q _ := go1
    cases q : h1[n]? with
    | none => rw [q] at go1; exact go1.elim
    | some cc =>
      rw [q] at go1
      cases cc with
      | dct _ => exact go1.elim
      | ins _ _ => exact go1.elim
      | lst xs =>
        obtain ⟨vs, hv, _⟩ := (show CR v ι1 H1 p (.lst _) from hr1.cell n p _ hp q)
        have go1 : Go (rrE v) v ι1 H1 ((evE g e2 δ h1).bind fun y h => opApp g.sub o [.ref n, y] h) Q _ := go1
        refine ⟨.inl ⟨rfl, vs, SqL.of hv⟩, ι1, δ, h1, hr1, hs.mono ex1, Go.bind (SS := rrE v) go1 fun e h2 ι2 H2 y r2 ex2 hr2 ry2 go2 => ?_⟩
        exact val ι2 H2 H H1 h2 n e _ y Q _ hr2 (rx1.mono ex2) ry2 go2
theorem e_lm0 {o : Op} {name : Str} {id : String} {r : V → List V → Hp → VK → Prop} (hb : Cb X v W) (slot : Slot "list" name id) (hty : typeOf (.builtin id) = pure (.type "method_descriptor")) (hm : MtR X id r)
    (val : ∀ (ι : List Addr) (H H0 : Hp) (h : Hh) (n : Nat) (x : V) (Q : VK) (E : XK), HR v ι H h → rrE v ι H0 H (.ref n) x → Go (rrE v) v ι H (opApp g.sub o [.ref n] h) Q E → r x [] H Q)
    (ha : PE X a (tE v g W e1)) (hbase : attributeBase a name X.env (eval a X.env) = eval a X.env := by rfl) (hline : (apos.endLine == cpos.line) = true := by rfl) :
    PE X (.Call (.Attribute a name apos) [] [] cpos) (tE v g W (.op o [.ck 1 e1])) :=
  PE.imp (pe_bm0 PySem.F.plainAttrs_list slot hty hm ha hbase hline) fun σ H Q ⟨ι, δ, h, hr, hs, go⟩ => by
    rw [evE_op1, evE_ck, R.assoc] at go
    refine ⟨ι, δ, h, hr, hs, Go.bind (SS := rrE v) go fun d h1 ι1 H1 x r1 ex1 hr1 rx1 go1 => ?_⟩
    rw [ck_lst] at go1
    cases d <;> first | exact go1.elim | skip
    rename_i n
    obtain ⟨p, rfl, hp⟩ := rv_ref rx1
    have go1 : Go (rrE v) v ι1 H1 ((match h1[n]? with
      | some (.lst _) => .ok (.ref n) h1
      | _ => .no : R D).bind fun x h => opApp g.sub o [x] h) Q _ := go1
    cases q : h1[n]? with
    | none => rw [q] at go1; exact go1.elim
    | some cc =>
      rw [q] at go1
      cases cc with
      | dct _ => exact go1.elim
      | ins _ _ => exact go1.elim
      | lst xs =>
        obtain ⟨vs, hv, _⟩ := (show CR v ι1 H1 p (.lst _) from hr1.cell n p _ hp q)
        have go1 : Go (rrE v) v ι1 H1 (opApp g.sub o [.ref n] h1) Q _ := go1
        exact ⟨.inl ⟨rfl, vs, SqL.of hv⟩, val ι1 H1 H h1 n _ Q _ hr1 rx1 go1⟩
theorem v_append (ι : List Addr) (H H0 H1 : Hp) (h : Hh) (n : Nat) (e : D) (x y : V) (Q : VK) (E : XK) (hr : HR v ι H h) (rx : rrE v ι H0 H (.ref n) x) (ry : rrE v ι H1 H e y) (go : Go (rrE v) v ι H (opApp g.sub .append [.ref n, e] h) Q E) : rAppend x [y] H Q := by
  obtain ⟨p, rfl, hp⟩ := rv_ref rx
  have go : Go (rrE v) v ι H (match h[n]? with
    | some (.lst xs) => whenR (D.pers e && decide (xs.length < cells)) (chg h n (xs ++ [e]) .non)
    | _ => .no) Q E := go
  split at go
  · rename_i xs q
    obtain ⟨c, go⟩ := go_when go
    rw [Bool.and_eq_true] at c
    obtain ⟨vs, hv, hd⟩ := (show CR v ι H p (.lst _) from hr.cell n p _ hp q)
    refine ⟨p, vs, y, rfl, rfl, hv, by rw [← hd.length, ← cells_eq]; exact of_decide_eq_true c.2, ?_⟩
    exact go_set (show Go (rrE v) v ι H (.ok .non (h.set n (.lst (xs ++ [e])))) Q E from go) hr hp hv rfl (fun ex => ⟨_, upd_same, (hd.app (.cons (ry.1.rp c.1) .nil)).mono ex⟩) .non rfl
  · exact go.elim
theorem e_append (hb : Cb X v W) (ha : PE X a (tE v g W e1)) (hi : PE X b (tE v g W e2)) (hbase : attributeBase a "append" X.env (eval a X.env) = eval a X.env := by rfl)
    (hfew : ((backTo cpos (starEach [b] X.env)).all (fun x => !x.1) && (backToKw cpos (keywordEach [] X.env)).all (fun x => x.1.isSome)
      && decide ([b].length + ([] : List Keyword).length + (if ([] : List Keyword).isEmpty then 0 else 1) < 30)) = true := by rfl)
    (hline : (apos.endLine == cpos.line) = true := by rfl) (hs : starEach [b] X.env = (false, eval b X.env) :: starEach [] X.env := by rfl) (hplain : (backTo cpos (starEach [] X.env)).any (·.1) = false := by rfl) :
    PE X (.Call (.Attribute a "append" apos) [b] [] cpos) (tE v g W (.op .append [.ck 1 e1, e2])) :=
  e_lm1 hb PySem.F.slot_list_append PySem.F.type_list_append mt_append v_append ha hi hbase hfew hline hs hplain
end
end Ivy

/-! Ivy, part K: what loops walk; while, for, comprehensions. -/
namespace Ivy
open PySem PySem.Spec PyProof.Rows L2

/-! ### guards -/
mutual
theorem D.beq_eq : ∀ (a b : D), D.beq a b = true → a = b
  | .non, b, h => by cases b <;> simp_all [D.beq]
  | .bl x, b, h => by cases b <;> simp_all [D.beq]
  | .int x, b, h => by cases b <;> simp_all [D.beq]
  | .str x, b, h => by cases b <;> simp_all [D.beq]
  | .tup x, b, h => by
    cases b <;> simp [D.beq] at h
    rw [D.beqL_eq x _ h]
  | .rol x, b, h => by
    cases b <;> simp [D.beq] at h
    rw [D.beqL_eq x _ h]
  | .lst x, b, h => by
    cases b <;> simp [D.beq] at h
    rw [D.beqL_eq x _ h]
  | .dct x, b, h => by
    cases b <;> simp [D.beq] at h
    rw [D.beqK_eq x _ h]
  | .ref x, b, h => by cases b <;> simp_all [D.beq]
  | .exc c x, b, h => by
    cases b <;> simp [D.beq] at h
    rw [h.1, D.beqF_eq x _ h.2]
theorem D.beqL_eq : ∀ (a b : List D), D.beqL a b = true → a = b
  | [], b, h => by cases b <;> simp_all [D.beqL]
  | x :: xs, b, h => by
    cases b <;> simp [D.beqL] at h
    rw [D.beq_eq x _ h.1, D.beqL_eq xs _ h.2]
theorem D.beqK_eq : ∀ (a b : List (Ky × D)), D.beqK a b = true → a = b
  | [], b, h => by cases b <;> simp_all [D.beqK]
  | (k, x) :: xs, b, h => by
    cases b with
    | nil => simp [D.beqK] at h
    | cons p ys =>
      obtain ⟨j, y⟩ := p
      simp [D.beqK] at h
      rw [h.1, D.beq_eq x y h.2.1, D.beqK_eq xs ys h.2.2]
theorem D.beqF_eq : ∀ (a b : List (Tx × D)), D.beqF a b = true → a = b
  | [], b, h => by cases b <;> simp_all [D.beqF]
  | (k, x) :: xs, b, h => by
    cases b with
    | nil => simp [D.beqF] at h
    | cons p ys =>
      obtain ⟨j, y⟩ := p
      simp [D.beqF] at h
      rw [h.1, D.beq_eq x y h.2.1, D.beqF_eq xs ys h.2.2]
end
theorem C.beq_eq : ∀ (a b : C), C.beq a b = true → a = b
  | .lst x, b, h => by
    cases b <;> simp [C.beq] at h
    rw [D.beqL_eq x _ h]
  | .dct x, b, h => by
    cases b <;> simp [C.beq] at h
    rw [D.beqK_eq x _ h]
  | .ins c x, b, h => by
    cases b <;> simp [C.beq] at h
    rw [h.1, D.beqF_eq x _ h.2]
theorem gd_at {h : Hh} : ∀ {gd : List (Nat × C)} {n : Nat} {c : C}, gdOk h gd = true → (n, c) ∈ gd → h[n]? = some c
  | (m, d) :: r, n, c, e, z => by
    have e := Bool.and_eq_true_iff.mp (show ((match h[m]? with
      | some c' => C.beq d c'
      | none => false) && gdOk h r) = true from e)
    rcases List.mem_cons.mp z with z | z
    · obtain ⟨z1, z2⟩ := Prod.mk.inj z
      rw [z1, z2]
      have e1 := e.1
      cases q : h[m]? with
      | none => rw [q] at e1; cases e1
      | some c' => rw [q] at e1; rw [C.beq_eq d c' e1]
    · exact gd_at e.2 z
theorem gd_app {h : Hh} : ∀ {a b : List (Nat × C)}, gdOk h (a ++ b) = true → gdOk h a = true ∧ gdOk h b = true
  | [], b, e => ⟨rfl, e⟩
  | x :: a, b, e => by
    obtain ⟨n, c⟩ := x
    have e := Bool.and_eq_true_iff.mp (show ((match h[n]? with
      | some c' => C.beq c c'
      | none => false) && gdOk h (a ++ b)) = true from e)
    have r := gd_app e.2
    exact ⟨Bool.and_eq_true_iff.mpr ⟨e.1, r.1⟩, r.2⟩

/-! ### what is walked -/
structure Src1 (v : Ev) (s : Src) (J : L2.It) (ι0 : List Addr) (H0 : Hp) : Prop where
  go : ∀ ι H h i, Ext ι0 H0 ι H → HR v ι H h → gdOk h s.gd = true → i < s.ds.length → J.go i H
  stop : ∀ ι H h, Ext ι0 H0 ι H → HR v ι H h → gdOk h s.gd = true → J.stop s.ds.length H
  yld : ∀ ι H h i x H', Ext ι0 H0 ι H → HR v ι H h → gdOk h s.gd = true → i < s.ds.length → J.yld i H x H' → Ext ι H ι H' ∧ HR v ι H' h ∧ ∃ d, s.ds[i]? = some d ∧ RP v ι H' d x
def rrI (v : Ev) : RRel Src L2.It := fun ι _ H s J => Src1 v s J ι H
instance {v : Ev} : Back (rrI v) := ⟨fun _ r => r⟩
def tI (v : Ev) (g : G) (W : WX) (it : It) : TI := fun σ H R => ∃ ι δ h, HR v ι H h ∧ SR v ι H δ σ ∧ Go (rrI v) v ι H (evI g it δ h) R (fun c d H' => W c d σ H')
theorem PI.imp {X : Cx} {tg e : Expr} {t t' : TI} (h : PI X tg e t) (k : ∀ σ H R, t' σ H R → t σ H R) : PI X tg e t' := ⟨fun pins s σ H R I q => h.run pins s σ H R I (k σ H R q)⟩
theorem PI.or {X : Cx} {tg e : Expr} {t t' : TI} (h : PI X tg e t) (h' : PI X tg e t') : PI X tg e (fun σ H R => t σ H R ∨ t' σ H R) :=
  ⟨fun pins s σ H R I q => q.elim (h.run pins s σ H R I) (h'.run pins s σ H R I)⟩
section
variable {X : Cx} {v : Ev} {g : G} {W : WX} {a b c tg : Expr} {e1 e2 e3 : Ex} {es : List Expr} {pos p : Pos} {t1 : Te}
theorem src_tup {ι : List Addr} {H : Hp} {q : Addr} {ds : List D} {vs : List V} {K : PySem.W.Frag} (hK : K = v.K) (h1 : SqT v.K H q vs) (h2 : RPs v ι H ds vs) : Src1 v ⟨ds, []⟩ (Itt K q) ι H := by
  subst hK
  refine ⟨fun ι' H' h' i e _ _ hi => ?_, fun ι' H' h' e _ _ => ⟨vs, e.sqT h1, Nat.le_of_eq h2.length.symm⟩, fun ι' H' h' i x H'' e hr _ hi y => ?_⟩
  · have hi : i < vs.length := by rw [← h2.length]; exact hi
    exact ⟨vs, vs[i], e.sqT h1, List.getElem?_eq_getElem hi⟩
  · obtain ⟨rfl, y⟩ := y
    have hx := y vs (e.sqT h1)
    have hi : i < ds.length := hi
    obtain ⟨x', hx', r⟩ := h2.get (List.getElem?_eq_getElem hi)
    rw [hx] at hx'; cases hx'
    exact ⟨.refl, hr, ds[i], List.getElem?_eq_getElem hi, r.mono e⟩
/-- a list as it stands at each turn -/
theorem src_lst {ι : List Addr} {H : Hp} {q : Addr} {ds : List D} {gd : List (Nat × C)} {K : PySem.W.Frag} (hK : K = v.K) (k : ∀ ι' H' h', Ext ι H ι' H' → HR v ι' H' h' → gdOk h' gd = true → ∃ vs, SqL v.K H' q vs ∧ RPs v ι' H' ds vs) : Src1 v ⟨ds, gd⟩ (Itl K q) ι H := by
  subst hK
  refine ⟨fun ι' H' h' i e hr hg hi => ?_, fun ι' H' h' e hr hg => ?_, fun ι' H' h' i x H'' e hr hg hi y => ?_⟩
  · obtain ⟨vs, h1, h2⟩ := k ι' H' h' e hr hg
    have hi : i < vs.length := by rw [← h2.length]; exact hi
    exact ⟨vs, vs[i], h1, List.getElem?_eq_getElem hi⟩
  · obtain ⟨vs, h1, h2⟩ := k ι' H' h' e hr hg
    exact ⟨vs, h1, Nat.le_of_eq h2.length.symm⟩
  · obtain ⟨rfl, y⟩ := y
    obtain ⟨vs, h1, h2⟩ := k ι' _ h' e hr hg
    have hx := y vs h1
    have hi : i < ds.length := hi
    obtain ⟨x', hx', r⟩ := h2.get (List.getElem?_eq_getElem hi)
    rw [hx] at hx'; cases hx'
    exact ⟨.refl, hr, ds[i], List.getElem?_eq_getElem hi, r⟩
theorem src_str {ι : List Addr} {H : Hp} (z : Tx) : Src1 v ⟨z.map fun c => .str [c], []⟩ (Its (tx z)) ι H := by
  refine ⟨fun ι' H' h' i e _ _ hi => ?_, fun ι' H' h' e _ _ => ?_, fun ι' H' h' i x H'' e hr _ hi y => ?_⟩
  · have hi : i < (z.map fun c => D.str [c]).length := hi
    show i < z.toArray.size
    simpa using hi
  · show z.toArray.size ≤ (z.map fun c => D.str [c]).length
    simp
  · obtain ⟨rfl, c, hc, rfl⟩ := y
    have hc : z.toArray[i]? = some c := hc
    refine ⟨.refl, hr, .str [c], ?_, .str [c]⟩
    show (z.map fun c => D.str [c])[i]? = _
    simp at hc
    simp [hc]
theorem src_rng {ι : List Addr} {H : Hp} (lo c : Int) (n : Nat) : Src1 v ⟨rangeL lo n c, []⟩ (Itc lo c n) ι H := by
  have len : (rangeL lo n c).length = n := by simp [rangeL]
  refine ⟨fun ι' H' h' i e _ _ hi => ?_, fun ι' H' h' e _ _ => ?_, fun ι' H' h' i x H'' e hr _ hi y => ?_⟩
  · have hi : i < (rangeL lo n c).length := hi
    rw [len] at hi; exact hi
  · show n ≤ (rangeL lo n c).length
    rw [len]; exact Nat.le_refl _
  · obtain ⟨rfl, rfl⟩ := y
    have hi : i < (rangeL lo n c).length := hi
    rw [len] at hi
    refine ⟨.refl, hr, .int (lo + (i : Int) * c), ?_, .int _⟩
    show (rangeL lo n c)[i]? = _
    simp [rangeL, hi]
/-- a list's source, by its datum -/
theorem src_ls {ι : List Addr} {H H0 : Hp} {h : Hh} {d : D} {x : V} {s : Src} {K : PySem.W.Frag} (hK : K = v.K) (hr : HR v ι H h) (rx : rrE v ι H0 H d x) (e : srcL h d = some s) : ∃ q, x = .ref q ∧ (∃ xs, SqL K H q xs) ∧ Src1 v s (Itl K q) ι H := by
  subst hK
  unfold srcL at e
  split at e
  · cases e
    obtain ⟨q, vs, rfl, h2, h3, h4⟩ := (show RV v ι H (.lst _) x from rx.1)
    exact ⟨q, rfl, ⟨vs, SqL.of h3⟩, src_lst rfl fun ι' H' h' ex _ _ => ⟨vs, SqL.of (ex.fix q _ h3 fun z => absurd z h2), h4.mono ex⟩⟩
  · cases e
    cases (show RP v ι H (.rol _) x from rx.1) with
    | rol h1 h2 => exact ⟨_, rfl, ⟨_, h1.sq⟩, src_lst rfl fun ι' H' h' ex _ _ => ⟨_, (ex.roL h1).sq, h2.mono ex⟩⟩
  · rename_i n
    obtain ⟨q, rfl, hq⟩ := rv_ref rx
    split at e
    · rename_i xs eq
      cases e
      obtain ⟨vs, h1, h2⟩ := (show CR v ι H q (.lst _) from hr.cell n q _ hq eq)
      refine ⟨q, rfl, ⟨vs, SqL.of h1⟩, src_lst rfl fun ι' H' h' ex hr' hg => ?_⟩
      have z := gd_at hg (List.mem_cons_self ..)
      obtain ⟨vs', h3, h4⟩ := (show CR v ι' H' q (.lst _) from hr'.cell n q _ (ex.at hq) z)
      exact ⟨vs', SqL.of h3, h4⟩
    · cases e
  · cases e
theorem i_seq (hb : Cb X v W) (ha : PE X a (tE v g W e1)) : PI X tg a (tI v g W (.seq e1)) :=
  PI.imp (PI.or (pi_tup ha) (PI.or (pi_str ha) (pi_list ha))) fun σ H R ⟨ι, δ, h, hr, hs, go⟩ => by
    have e : evI g (.seq e1) δ h = (evE g e1 δ h).bind fun x h => match srcD h x with
      | some s => .ok s h
      | none => .no := by simp only [evI] <;> rfl
    rw [e] at go
    by_cases t1 : ∃ ds h', evE g e1 δ h = .ok (.tup ds) h'
    · obtain ⟨ds, h', q⟩ := t1
      refine .inl ⟨ι, δ, h, hr, hs, Go.bind (SS := rrE v) go fun d h1 ι1 H1 x r1 ex1 hr1 rx1 go1 => ?_⟩
      rw [q] at r1; cases r1
      obtain ⟨p, vs, rfl, s1, s2⟩ := rv_tup rx1
      exact ⟨p, rfl, ⟨vs, by rw [hb.hK]; exact s1⟩, Go.here (RR := rrI v) (show Go (rrI v) v ι1 H1 (.ok ⟨ds, []⟩ _) R _ from go1) hr1 (src_tup hb.hK s1 s2)⟩
    · by_cases t2 : ∃ z h', evE g e1 δ h = .ok (.str z) h'
      · obtain ⟨z, h', q⟩ := t2
        refine .inr (.inl ⟨ι, δ, h, hr, hs, Go.bind (SS := rrE v) go fun d h1 ι1 H1 x r1 ex1 hr1 rx1 go1 => ?_⟩)
        rw [q] at r1; cases r1
        exact ⟨_, rv_str rx1, Go.here (RR := rrI v) (show Go (rrI v) v ι1 H1 (.ok ⟨z.map fun c => .str [c], []⟩ _) R _ from go1) hr1 (src_str z)⟩
      · refine .inr (.inr ⟨ι, δ, h, hr, hs, Go.bind (SS := rrE v) go fun d h1 ι1 H1 x r1 ex1 hr1 rx1 go1 => ?_⟩)
        have e2 : srcD h1 d = srcL h1 d := by
          cases d with
          | tup ds => exact absurd ⟨_, _, r1⟩ t1
          | str z => exact absurd ⟨_, _, r1⟩ t2
          | _ => rfl
        rw [e2] at go1
        split at go1
        · rename_i s q
          obtain ⟨p, rfl, h1, h2⟩ := src_ls hb.hK hr1 rx1 q
          exact ⟨p, rfl, h1, Go.here (RR := rrI v) go1 hr1 h2⟩
        · exact go1.elim

/-! ### range: of any size -/
theorem turn_long {P : Program} {w : World} {K : PySem.W.Frag} {tg : Expr} (it : Addr) (lo c : Int) (n : Nat) : Turn P w K tg (Itc lo c n) [it] it (fun i h => IsLongIter h it (lo + (i : Nat) * c) ((n : Int) - (i : Nat)) c) where
  mem := List.mem_singleton.mpr rfl
  obj := fun i h st b hb => by
    rw [List.mem_singleton.mp hb]
    exact ⟨_, st, fun u z => nomatch z⟩
  keep := fun i h h' st k => k it (List.mem_singleton.mpr rfl) _ st
  item := by
    intro X e1 e2 e3 hc i pins s σ H E I hf st hg
    subst e1 e2 e3
    obtain ⟨f0, f1, f2, f3, f4, f5⟩ := hf it (List.mem_singleton.mpr rfl)
    refine (Walks.longrange (prog := X.prog) (w := X.w) (I.ok.hd hc) it lo c n).item i s _ _ hg st fun u h' tk hu st' kk => ?_
    obtain ⟨t, rfl⟩ := hu
    have I1 : Inv X pins σ H { s with heap := h', toks := tk } := I.turned (fun b o hb e => kk b o (fun z => hb (List.mem_singleton.mp z)) e) f0 f1 f3 f4 f5
    exact ⟨_, rfl, go_of (s := { s with heap := h', toks := tk }) (n := "longrange_iterator") st' rfl rfl (by decide) ⟨.int (lo + (i : Nat) * c), H, I1, ⟨t, rfl⟩, ⟨rfl, rfl⟩, st', fun b hb => (hf b hb).1⟩⟩
  done := by
    intro X e1 e2 e3 hc i pins s σ H E I hf st hg
    subst e1 e2 e3
    obtain ⟨f0, f1, f2, f3, f4, f5⟩ := hf it (List.mem_singleton.mpr rfl)
    exact wpAny_pyNext_long_end (I.ok.hd hc) st (by have : n ≤ i := hg; omega) fun h' eb => ⟨rfl, I.turned (t' := s.toks) (fun b o hb e => eb b o hb e) f0 f1 f3 f4 f5⟩
  self := fun _ _ _ _ _ st h => wpAny_pyIter_longiter st h
theorem rangeN_eq (a b c : Int) : Builtin.Range.rangeSize a b c = (rangeN a b c : Int) := by
  unfold Builtin.Range.rangeSize rangeN
  split
  · split
    · have : 0 ≤ (b - a - 1) / c := Int.ediv_nonneg (by omega) (by omega)
      omega
    · rfl
  · split
    · have : 0 ≤ (a - b - 1) / (-c) := Int.ediv_nonneg (by omega) (by omega)
      omega
    · rfl
theorem range_itA {pins : List (Addr × Obj)} {σ : L2.St} {H : Hp} {s : Shared} {R : L2.It → Hp → Prop} {E : Value → Shared → Prop} {lo hi c : Int} {t u w : Tok} {tk : Nat} (I : Inv X pins σ H s) (q : R (Itc lo c (rangeN lo hi c)) H) :
    wpAny (model X.prog X.w) X.A (pyIter (.ref s.heap.objs.size)) (PIE X pins σ tg R) E { s with heap := s.heap.push { cls := .type "range", data := .fields #[.int lo t, .int hi u, .int c w] }, toks := tk } := by
  have I2 : Inv X pins σ H { s with heap := s.heap.push { cls := .type "range", data := .fields #[.int lo t, .int hi u, .int c w] }, toks := tk } := I.kept fun b o e => Heap.get?_push_of_some _ e
  have z1 : lo + ((0 : Nat) : Int) * c = lo := by simp
  have z2 : ((rangeN lo hi c : Nat) : Int) - ((0 : Nat) : Int) = Builtin.Range.rangeSize lo hi c := by rw [rangeN_eq]; simp
  cases sm : Builtin.Range.small lo hi c with
  | true =>
    refine wpAny_pyIter_range (IsRange.new ..) sm ?_
    refine pi_one (tk := tk) I2 _ (turn_rangeC _ lo c (rangeN lo hi c)) ?_ q
    show IsRangeIter _ _ (lo + ((0 : Nat) : Int) * c) (((rangeN lo hi c : Nat) : Int) - ((0 : Nat) : Int)) c
    rw [z1, z2]
    exact Heap.get?_push_size _ rfl
  | false =>
    refine wpAny_pyIter_longrange (IsRange.new ..) sm ?_
    refine pi_one (tk := tk) I2 _ (turn_long _ lo c (rangeN lo hi c)) ?_ q
    show IsLongIter _ _ (lo + ((0 : Nat) : Int) * c) (((rangeN lo hi c : Nat) : Int) - ((0 : Nat) : Int)) c
    rw [z1, z2]
    exact Heap.get?_push_size _ rfl
/-- the reading of a range's arguments -/
def iRngA (ta : TA) : TI := fun σ H R => ta σ H fun vs H1 => (∃ j, vs = [.int j] ∧ R (Itc 0 1 (rangeN 0 j 1)) H1) ∨ ((∃ i j, vs = [.int i, .int j] ∧ R (Itc i 1 (rangeN i j 1)) H1) ∨ ∃ i j c, vs = [.int i, .int j, .int c] ∧ c ≠ 0 ∧ c.natAbs.log2 < 9000 ∧ R (Itc i c (rangeN i j c)) H1)
theorem pi_rngA {ta : TA} {x : Str} (hx : x = "range") (hg : Gl X x) (hm : X.mg x = none) (ha : PA X (a :: es) ta) (hs : starEach (a :: es) X.env = (false, eval a X.env) :: starEach es X.env := by rfl) (hpl : (backTo pos (starEach es X.env)).any (·.1) = false := by rfl) : PI X tg (.Call (.Name x p) (a :: es) [] pos) (iRngA ta) := by
  subst hx
  refine ⟨fun pins s σ H R I h => ?_⟩
  refine Call_ (ld_blt I hg hm boot_range (PyProof.Rows.callWith_type1 (thn (ha.run pos pins s σ H _ I h) fun us s1 ⟨vs, H1, I1, r1, q1⟩ => ?_) hs hpl))
  rcases q1 with ⟨j, rfl, q⟩ | ⟨i, j, rfl, q⟩ | ⟨i, j, c, rfl, c0, c1, q⟩
  · cases r1 with
    | cons r rr =>
      cases rr
      obtain ⟨t, rfl⟩ := r
      exact call_range_1 (range_itA I1 q)
  · cases r1 with
    | cons r rr =>
    cases rr with
    | cons r' rr =>
      cases rr
      obtain ⟨t, rfl⟩ := r
      obtain ⟨t', rfl⟩ := r'
      exact call_range_2 (range_itA I1 q)
  · cases r1 with
    | cons r rr =>
    cases rr with
    | cons r' rr =>
    cases rr with
    | cons r'' rr =>
      cases rr
      obtain ⟨t, rfl⟩ := r
      obtain ⟨t', rfl⟩ := r'
      obtain ⟨t'', rfl⟩ := r''
      exact call_range_3 c0 (range_itA I1 q) (.inl (PyProof.noPylong_of_log2 c1))
theorem rngS_ok {ι : List Addr} {H H0 : Hp} {h : Hh} {ds : List D} {xs : List V} {s : Src} {R : L2.It → Hp → Prop} {E : XK} (hr : HR v ι H h) (rx : rrL v ι H0 H ds xs) (e : rngS ds = some s) (go : Go (rrI v) v ι H (.ok s h) R E) :
    (∃ j, xs = [.int j] ∧ R (Itc 0 1 (rangeN 0 j 1)) H) ∨ ((∃ i j, xs = [.int i, .int j] ∧ R (Itc i 1 (rangeN i j 1)) H) ∨ ∃ i j c, xs = [.int i, .int j, .int c] ∧ c ≠ 0 ∧ c.natAbs.log2 < 9000 ∧ R (Itc i c (rangeN i j c)) H) := by
  unfold rngS at e
  split at e
  · cases e
    cases rx with
    | cons r1 t =>
      cases t
      rw [rv_int r1]
      exact .inl ⟨_, rfl, Go.here (RR := rrI v) go hr (src_rng _ _ _)⟩
  · cases e
    cases rx with
    | cons r1 t =>
    cases t with
    | cons r2 t =>
      cases t
      rw [rv_int r1, rv_int r2]
      exact .inr (.inl ⟨_, _, rfl, Go.here (RR := rrI v) go hr (src_rng _ _ _)⟩)
  · split at e
    · rename_i c
      cases e
      cases rx with
      | cons r1 t =>
      cases t with
      | cons r2 t =>
      cases t with
      | cons r3 t =>
        cases t
        rw [rv_int r1, rv_int r2, rv_int r3]
        have c0 := c.1
        exact .inr (.inr ⟨_, _, _, rfl, c0, (Nat.log2_lt (by omega)).mpr c.2, Go.here (RR := rrI v) go hr (src_rng _ _ _)⟩)
    · cases e
  · cases e
theorem i_rng {fs : List Ex} {x : Str} (hx : x = "range") (hg : Gl X x) (hm : X.mg x = none) (ha : PA X (a :: es) (tL v g W fs)) (hs : starEach (a :: es) X.env = (false, eval a X.env) :: starEach es X.env := by rfl) (hpl : (backTo pos (starEach es X.env)).any (·.1) = false := by rfl) :
    PI X tg (.Call (.Name x p) (a :: es) [] pos) (tI v g W (.rng fs)) := PI.imp (pi_rngA hx hg hm ha hs hpl) fun σ H R ⟨ι, δ, h, hr, hs, go⟩ => by
  have e : evI g (.rng fs) δ h = (evEs g fs δ h).bind fun xs h => match rngS xs with
    | some s => .ok s h
    | none => .no := by simp only [evI] <;> rfl
  rw [e] at go
  refine ⟨ι, δ, h, hr, hs, Go.bind (SS := rrL v) go fun ds h1 ι1 H1 xs r1 ex1 hr1 rx1 go1 => ?_⟩
  split at go1
  · rename_i s q
    exact rngS_ok hr1 rx1 q go1
  · exact go1.elim
end
end Ivy

/-! Ivy, part L: while, for, comprehensions. -/
namespace Ivy
open PySem PySem.Spec PyProof.Rows L2
section
variable {X : Cx} {v : Ev} {g : G} {W : WX} {a b c tg : Expr} {e1 e2 e3 : Ex} {es : List Expr} {pos p : Pos} {t1 : Te} {sts : List Stmt} {ss : List St} {t : Tg} {it : It}

theorem s_whl {ks : List Nat} (hp : PassesOwn (model X.prog X.w) X.A X.env X.xe) (hc : PT X c (tT v g W t1)) (hb : PSs X sts (tSs v g W ss)) : PS X (.While c sts [] pos) (tS v g W (.whl t1 ss ks)) :=
  PS.imp (ps_while hp hc hb) fun E σ H ⟨ι, δ, h, hr, hs, go⟩ => by
    have e : evS g (.whl t1 ss ks) δ h = lpW (evT g t1) ks (evSs g ss) g.w (wipeS δ ks) h := by simp only [evS]
    rw [e] at go
    refine ⟨fun n σ H => ∃ ι δ h, HR v ι H h ∧ SR v ι H δ σ ∧ GoS v W ι H (lpW (evT g t1) ks (evSs g ss) n δ h) E, ⟨g.w, ι, wipeS δ ks, h, hr, hs.wipe ks, go⟩, fun n σ1 H1 ⟨ι1, δ1, h1, hr1, hs1, go1⟩ => ?_⟩
    cases n with
    | zero => exact go1.elim
    | succ n =>
      refine ⟨ι1, δ1, h1, hr1, hs1, GoS.bind (SS := rrB) hs1 (show GoS v W ι1 H1 ((evT g t1 δ1 h1).go δ1 fun k h => if k = true then (match evSs g ss δ1 h with
        | .nx δ2 h2 => lpW (evT g t1) ks (evSs g ss) n (wipeS δ2 ks) h2
        | .cont δ2 h2 => lpW (evT g t1) ks (evSs g ss) n (wipeS δ2 ks) h2
        | .brk δ2 h2 => .nx (wipeS δ2 ks) h2
        | r => r) else .nx (wipeS δ1 ks) h) E from go1) fun k h2 ι2 H2 x r2 ex2 hr2 rx2 go2 => ?_⟩
      cases (show x = k from rx2)
      cases k with
      | false => exact go2 ι2 H2 σ1 .refl hr2 ((hs1.mono ex2).wipe ks)
      | true =>
        simp only [↓reduceIte] at go2 ⊢
        refine ⟨_, fun σ' H' w => ⟨n, Nat.lt_succ_self n, w⟩, ι2, δ1, h2, hr2, hs1.mono ex2, ?_⟩
        cases q : evSs g ss δ1 h2 with
        | nx δ2 h3 => rw [q] at go2; exact fun ι' H' σ' ex hr hs => ⟨ι', wipeS δ2 ks, h3, hr, hs.wipe ks, GoS.shift ex hr go2⟩
        | cont δ2 h3 => rw [q] at go2; exact fun ι' H' σ' ex hr hs => ⟨ι', wipeS δ2 ks, h3, hr, hs.wipe ks, GoS.shift ex hr go2⟩
        | brk δ2 h3 => rw [q] at go2; exact fun ι' H' σ' ex hr hs => go2 ι' H' σ' ex hr (hs.wipe ks)
        | ret d h3 => rw [q] at go2; exact go2
        | err c fs δ2 h3 => rw [q] at go2; exact go2
        | no => rw [q] at go2; exact go2
theorem s_for {ks : List Nat} (hp : PassesOwn (model X.prog X.w) X.A X.env X.xe) (hc : X.calm = true) (hi : PI X tg a (tI v g W it)) (hg : PG X tg (gT v t)) (hb : PSs X sts (tSs v g W ss))
    (hs : ∀ x, foldedSetIterable a X.env x = pure x := by intro _; rfl) : PS X (.For tg a sts [] pos) (tS v g W (.for t it ss ks)) :=
  PS.imp (ps_for hp hc hi hg hb hs) fun E σ H ⟨ι, δ, h, hr, hs, go⟩ => by
    have e : evS g (.for t it ss ks) δ h = (evI g it δ h).go δ fun s h => lpF s.gd t ks (evSs g ss) s.ds (wipeS δ ks) h := by simp only [evS]
    rw [e] at go
    refine ⟨ι, δ, h, hr, hs, GoS.bind (SS := rrI v) hs go fun s h1 ι1 H1 J r1 ex1 hr1 rj go1 => ?_⟩
    refine ⟨fun i m σ H => m = s.ds.length - i ∧ i ≤ s.ds.length ∧ ∃ ι δ h, Ext ι1 H1 ι H ∧ HR v ι H h ∧ SR v ι H δ σ ∧ GoS v W ι H (lpF s.gd t ks (evSs g ss) (s.ds.drop i) δ h) E,
      ⟨s.ds.length, rfl, Nat.zero_le _, ι1, wipeS δ ks, h1, .refl, hr1, (hs.mono ex1).wipe ks, go1⟩, ?_⟩
    rintro i m σ2 H2 ⟨rfl, hi, ι2, δ2, h2, ex2, hr2, hs2, go2⟩
    by_cases hlt : i < s.ds.length
    · rw [List.drop_eq_getElem_cons hlt] at go2
      have go2 : GoS v W ι2 H2 (if gdOk h2 s.gd = true then (match putT t s.ds[i] δ2 with
        | some δ' => (match evSs g ss δ' h2 with
          | .nx δ2 h2 => lpF s.gd t ks (evSs g ss) (s.ds.drop (i + 1)) (wipeS δ2 ks) h2
          | .cont δ2 h2 => lpF s.gd t ks (evSs g ss) (s.ds.drop (i + 1)) (wipeS δ2 ks) h2
          | .brk δ2 h2 => .nx (wipeS δ2 ks) h2
          | r => r)
        | none => .no) else .no) E := go2
      split at go2
      · rename_i gk
        refine .inr ⟨rj.go ι2 H2 h2 i ex2 hr2 gk hlt, _, fun σ' H' w => ⟨s.ds.length - (i + 1), by omega, w⟩, fun x H3 y => ?_⟩
        obtain ⟨ex3, hr3, d, hd, rd⟩ := rj.yld ι2 H2 h2 i x H3 ex2 hr2 gk hlt y
        rw [List.getElem?_eq_getElem hlt] at hd
        cases hd
        split at go2
        · rename_i δ' q
          refine ⟨ι2, δ2, h2, s.ds[i], δ', hr3, hs2.mono ex3, rd, q, fun σ4 hs4 _ => ⟨ι2, δ', h2, hr3, hs4, ?_⟩⟩
          have go3 := GoS.shift ex3 hr3 go2
          cases q : evSs g ss δ' h2 with
          | nx δ5 h5 => rw [q] at go3; exact fun ι' H' σ' ex hr hs => ⟨rfl, hlt, ι', wipeS δ5 ks, h5, (ex2.trans ex3).trans ex, hr, hs.wipe ks, GoS.shift ex hr go3⟩
          | cont δ5 h5 => rw [q] at go3; exact fun ι' H' σ' ex hr hs => ⟨rfl, hlt, ι', wipeS δ5 ks, h5, (ex2.trans ex3).trans ex, hr, hs.wipe ks, GoS.shift ex hr go3⟩
          | brk δ5 h5 => rw [q] at go3; exact fun ι' H' σ' ex hr hs => go3 ι' H' σ' ex hr (hs.wipe ks)
          | ret d h3 => rw [q] at go3; exact go3
          | err c fs δ2 h3 => rw [q] at go3; exact go3
          | no => rw [q] at go3; exact go3
        · exact go2.elim
      · exact go2.elim
    · have e : i = s.ds.length := by omega
      subst e
      rw [List.drop_length] at go2
      have go2 : GoS v W ι2 H2 (if gdOk h2 s.gd = true then .nx (wipeS δ2 ks) h2 else .no) E := go2
      split at go2
      · rename_i gk
        exact .inl ⟨rj.stop ι2 H2 h2 ex2 hr2 gk, go2 ι2 H2 σ2 .refl hr2 (hs2.wipe ks)⟩
      · exact go2.elim

/-! ### comprehensions -/
/-! the new list, ahead of the tracked cells, grows -/
mutual
theorem RP.swap {ι : List Addr} {H : Hp} {A : Addr} {o : HO} {acc : List V} (hA : H A = some (.lst acc)) : ∀ {d : D} {x : V}, RP v ι H d x → RP v ι (upd H A o) d x
  | _, _, .non => .non
  | _, _, .bl b => .bl b
  | _, _, .int i => .int i
  | _, _, .str x => .str x
  | _, _, .tup h r => .tup (by
    rcases h with (h | ⟨o, h⟩) | h
    · exact .inl (.inl (by rw [upd_ne fun z => by subst z; rw [hA] at h; cases h]; exact h))
    · exact .inl (.inr ⟨o, by rw [upd_ne fun z => by subst z; rw [hA] at h; cases h]; exact h⟩)
    · exact .inr h) (RPs.swap hA r)
  | _, _, .rol h r => .rol (by
    rcases h with ⟨o, h⟩ | h
    · exact .inl ⟨o, by rw [upd_ne fun z => by subst z; rw [hA] at h; cases h]; exact h⟩
    · exact .inr h) (RPs.swap hA r)
  | _, _, .ref h => .ref h
  | _, _, .exc (fs := fs) h => .exc (fs := fs) h
  | _, _, .exd h1 h2 h3 r => .exd h1 (by rw [upd_ne fun z => by subst z; rw [hA] at h2; cases h2]; exact h2) h3 (RPs.swap hA r)
theorem RPs.swap {ι : List Addr} {H : Hp} {A : Addr} {o : HO} {acc : List V} (hA : H A = some (.lst acc)) : ∀ {ds : List D} {xs : List V}, RPs v ι H ds xs → RPs v ι (upd H A o) ds xs
  | _, _, .nil => .nil
  | _, _, .cons h r => .cons (RP.swap hA h) (RPs.swap hA r)
end
theorem HR.swap {ι : List Addr} {H : Hp} {h : Hh} {A : Addr} {o : HO} {acc : List V} (r : HR v ι H h) (hA : H A = some (.lst acc)) (nA : A ∉ ι) : HR v ι (upd H A o) h := ⟨r.len, r.nd, fun n p cc h1 h2 => by
  have q := r.cell n p cc h1 h2
  have ne : p ≠ A := fun z => nA (z ▸ List.mem_of_getElem? h1)
  cases cc with
  | lst ds => obtain ⟨vs, z1, z2⟩ := q; exact ⟨vs, by rw [upd_ne ne]; exact z1, z2.swap hA⟩
  | dct ds => obtain ⟨vs, z1, z2⟩ := q; exact ⟨vs, by rw [upd_ne ne]; exact z1, z2.1, z2.2.swap hA⟩
  | ins c' ds => obtain ⟨dx, vs, z0, z1, z2⟩ := q; exact ⟨dx, vs, z0, by rw [upd_ne ne]; exact z1, z2.1, z2.2.swap hA⟩⟩
theorem SR.swap {ι : List Addr} {H : Hp} {δ : Sl} {σ : L2.St} {A : Addr} {o : HO} {acc : List V} (r : SR v ι H δ σ) (hA : H A = some (.lst acc)) : SR v ι (upd H A o) δ σ := ⟨r.1, fun i d hd =>
  let ⟨x, h1, h2⟩ := r.2 i d hd
  ⟨x, h1, h2.swap hA⟩⟩
theorem Ext.put {ι ι' : List Addr} {H H' : Hp} {A : Addr} {o : HO} (e : Ext ι H ι' H') (hA : H A = none) : Ext ι H ι' (upd H' A o) :=
  ⟨e.pre, fun q o' hq hm => by rw [upd_ne fun z => by subst z; rw [hA] at hq; cases hq]; exact e.fix q o' hq hm, fun q o' hq hp => by
    obtain ⟨o2, h1, h2⟩ := e.kin q o' hq hp
    exact ⟨o2, by rw [upd_ne fun z => by subst z; rw [hA] at hp; cases hp]; exact h1, h2⟩⟩
theorem Ext.out {ι ι' : List Addr} {H H' : Hp} {A : Addr} {o : HO} (e : Ext ι H ι' H') (hA : H A = some o) (nA : A ∉ ι) : A ∉ ι' ∧ H' A = some o := by
  refine ⟨?_, e.fix A o hA fun z => absurd z nA⟩
  obtain ⟨m, rfl, hm⟩ := e.pre
  intro z
  rcases List.mem_append.mp z with z | z
  · exact nA z
  · rw [(hm A z).1] at hA; cases hA
theorem wipe_len2 {σ : L2.St} : ∀ {vs : List Nat}, (L2.wipe σ vs).length = σ.length
  | [] => rfl
  | k :: vs => by unfold L2.wipe; rw [List.length_set, wipe_len2]
theorem SR.wipe2 {ι : List Addr} {H : Hp} {δ : Sl} {σ : L2.St} (r : SR v ι H δ σ) : ∀ vs : List Nat, SR v ι H (wipeS δ vs) (L2.wipe σ vs)
  | [] => r
  | k :: vs => by
    have q := SR.wipe2 r vs
    refine ⟨by rw [wipeS, L2.wipe, List.length_set, List.length_set]; exact q.1, fun j d hd => ?_⟩
    rw [wipeS] at hd
    rw [L2.wipe]
    by_cases hj : k = j
    · subst hj
      by_cases hi : k < (wipeS δ vs).length
      · rw [List.getElem?_set_self hi] at hd; cases hd
      · rw [List.getElem?_eq_none (by rw [List.length_set]; omega)] at hd; cases hd
    · rw [List.getElem?_set_ne hj] at hd ⊢
      exact q.2 j d hd
theorem wipe_get {σ : L2.St} {j : Nat} : ∀ {vs : List Nat}, j ∉ vs → (L2.wipe σ vs)[j]? = σ[j]?
  | [], _ => rfl
  | k :: vs, h => by
    rw [L2.wipe, List.getElem?_set_ne fun z => h (by simp [z])]
    exact wipe_get fun z => h (List.mem_cons_of_mem _ z)
theorem wipe_in {σ : L2.St} {j : Nat} : ∀ {vs : List Nat}, j ∈ vs → j < σ.length → (L2.wipe σ vs)[j]? = some none
  | k :: vs, h, hl => by
    rw [L2.wipe]
    by_cases z : k = j
    · subst z
      rw [List.getElem?_set_self (by rw [wipe_len2]; exact hl)]
    · rw [List.getElem?_set_ne z]
      exact wipe_in ((List.mem_cons.mp h).resolve_left fun y => z y.symm) hl
/-- the slots that a target stored are forgotten alike -/
theorem wipe_off {σ σ2 : L2.St} {is vs : List Nat} (o : Off is (L2.wipe σ vs) σ2) (hs : ∀ i ∈ is, i ∈ vs) : L2.wipe σ2 vs = L2.wipe σ vs := by
  refine List.ext_getElem? fun j => ?_
  have l2 : σ2.length = σ.length := by rw [o.1, wipe_len2]
  by_cases hj : j ∈ vs
  · by_cases hl : j < σ.length
    · rw [wipe_in hj hl, wipe_in hj (by rw [l2]; exact hl)]
    · rw [List.getElem?_eq_none (by rw [wipe_len2, l2]; omega), List.getElem?_eq_none (by rw [wipe_len2]; omega)]
  · rw [wipe_get hj, o.2 j fun z => hj (hs j z)]
/-- no exception leaves it -/
def Wn : WX := fun _ _ _ _ => False
theorem go_calm {α β : Type} {RR : RRel α β} {ι : List Addr} {H : Hp} {r : R α} {Q : β → Hp → Prop} {E E' : XK} (go : Go RR v ι H r.calm Q E) : Go RR v ι H r Q E' := by
  cases r with
  | ok d h => exact go
  | err c fs h => exact go.elim
  | no => exact go
theorem calm_bind {α β : Type} (r : R α) (k : α → Hh → R β) : (r.bind k).calm = r.calm.bind fun a h => (k a h).calm := by cases r <;> rfl
theorem ts_nil : PTs X [] (tTs v g W []) := ⟨fun pins s σ H Q I ⟨ι, δ, h, hr, hs, go⟩ => pts_nil.run pins s σ H Q I (by
  have e : evTs g [] δ h = .ok true h := by simp only [evTs]
  rw [e] at go
  exact Go.here (RR := rrB) go hr rfl)⟩
theorem ts_one (hc : PT X c (tT v g W t1)) : PTs X [c] (tTs v g W [t1]) := ⟨fun pins s σ H Q I ⟨ι, δ, h, hr, hs, go⟩ => (pts_one hc).run pins s σ H Q I (by
  have e : evTs g [t1] δ h = (evT g t1 δ h).bind fun k h => if k = true then .ok true h else .ok false h := by simp only [evTs]
  rw [e] at go
  refine ⟨ι, δ, h, hr, hs, Go.bind (SS := rrB) go fun k h1 ι1 H1 x r1 ex1 hr1 rx1 go1 => ?_⟩
  cases (show x = k from rx1)
  cases k with
  | true => exact Go.here (RR := rrB) (show Go rrB v ι1 H1 (.ok true h1) Q _ from go1) hr1 rfl
  | false => exact Go.here (RR := rrB) (show Go rrB v ι1 H1 (.ok false h1) Q _ from go1) hr1 rfl)⟩
theorem lpC_calm {gd : List (Nat × C)} {step : D → Hh → R (Option D)} : ∀ {xs : List D} {h : Hh} {c : Nat} {fs : List (Tx × D)} {h' : Hh}, lpC gd step xs h ≠ .err c fs h'
  | [], h, c, fs, h', e => by
    unfold lpC whenR at e
    split at e <;> cases e
  | x :: xs, h, c, fs, h', e => by
    unfold lpC whenR at e
    split at e
    · cases q : step x h with
      | ok y h1 =>
        rw [q] at e
        have e : ((lpC gd step xs h1).bind fun ys h => .ok (match y with
          | some y => y :: ys
          | none => ys) h) = .err c fs h' := e
        cases q2 : lpC gd step xs h1 with
        | ok ys h2 => rw [q2] at e; cases e
        | err c fs h' => exact lpC_calm q2
        | no => rw [q2] at e; cases e
      | err _ _ _ => rw [q] at e; cases e
      | no => rw [q] at e; cases e
    · cases e
/-- one turn -/
def cpS (g : G) (t : Tg) (cs : List Te) (e : Ex) (δ : Sl) (x : D) (h : Hh) : R (Option D) := match putT t x δ with
    | some δ' => (evTs g cs δ' h).bind fun k h => if k = true then (evE g e δ' h).bind fun y h => whenR (D.pers y) (.ok (some y) h) else .ok none h
    | none => .no
def cpF (acc ys : List D) (h : Hh) : R D := whenR (decide ((acc ++ ys).length ≤ cells)) (.ok (.lst (acc ++ ys)) h)
theorem evE_comp {own : List Nat} {cs : List Te} {δ : Sl} {h : Hh} : evE g (.comp own t it cs e1) δ h = (evI g it δ h).bind fun src h => (lpC src.gd (cpS g t cs e1 (wipeS δ own)) src.ds h).bind fun ys h => cpF [] ys h := by
  simp only [evE]
  rfl
theorem lpC_cons {gd : List (Nat × C)} {step : D → Hh → R (Option D)} {x : D} {xs acc : List D} {h : Hh} {ι : List Addr} {H : Hp} {Q : VK} {E : XK} (go : Go (rrE v) v ι H ((lpC gd step (x :: xs) h).bind fun ys h => cpF acc ys h) Q E) :
    gdOk h gd = true ∧ ((∃ y h1, step x h = .ok (some y) h1 ∧ acc.length < cells ∧ Go (rrE v) v ι H ((lpC gd step xs h1).bind fun ys h => cpF (acc ++ [y]) ys h) Q E) ∨ ∃ h1, step x h = .ok none h1 ∧ Go (rrE v) v ι H ((lpC gd step xs h1).bind fun ys h => cpF acc ys h) Q E) := by
  unfold lpC at go
  cases gk : gdOk h gd with
  | false => rw [gk] at go; exact go.elim
  | true =>
    rw [gk] at go
    refine ⟨rfl, ?_⟩
    cases q : step x h with
    | err _ _ _ => rw [q] at go; exact go.elim
    | no => rw [q] at go; exact go.elim
    | ok y h1 =>
      rw [q] at go
      have go : Go (rrE v) v ι H (((lpC gd step xs h1).bind fun ys h => .ok (match (generalizing := false) y with
          | some y => y :: ys
          | none => ys) h).bind fun ys h => cpF acc ys h) Q E := go
      rw [R.assoc] at go
      cases y with
      | none => exact .inr ⟨h1, rfl, go⟩
      | some y =>
        refine .inl ⟨y, h1, rfl, ?_⟩
        cases q2 : lpC gd step xs h1 with
        | err c fs h' => exact absurd q2 lpC_calm
        | no => rw [q2] at go; exact go.elim
        | ok ys h2 =>
          rw [q2] at go
          have go : Go (rrE v) v ι H (cpF acc (y :: ys) h2) Q E := go
          have go2 := go_when go
          have le := of_decide_eq_true go2.1
          refine ⟨?_, ?_⟩
          · rw [List.length_append, List.length_cons] at le; omega
          · show Go (rrE v) v ι H (cpF (acc ++ [y]) ys h2) Q E
            unfold cpF at go ⊢
            rw [List.append_assoc]
            exact go
theorem l_comp {vs : List Nat} {cs : List Te} {σ : L2.St} {H : Hp} {Q : VK} (hv : ∀ i ∈ Tg.ns t, i ∈ vs) (q : tE v g W (.comp vs t it cs e1) σ H Q) : tLc (tI v g W it) (gT v t) (tTs v g Wn cs) (tE v g Wn e1) vs σ H Q := by
  obtain ⟨ι, δ, h, hr, hs, go⟩ := q
  rw [evE_comp] at go
  refine ⟨ι, δ, h, hr, hs, Go.bind (SS := rrI v) go fun s h1 ι1 H1 J r1 ex1 hr1 rj go1 => ?_⟩
  intro A hA
  have hs1 := hs.mono ex1
  refine ⟨fun i m H => m = s.ds.length - i ∧ i ≤ s.ds.length ∧ ∃ ι h acc dacc, Ext ι1 H1 ι H ∧ HR v ι H h ∧ A ∉ ι ∧ H A = some (.lst acc) ∧ RPs v ι H dacc acc ∧
      Go (rrE v) v ι1 H1 ((lpC s.gd (cpS g t cs e1 (wipeS δ vs)) (s.ds.drop i) h).bind fun ys h => cpF dacc ys h) Q (fun c d H' => W c d σ H'),
    ⟨s.ds.length, rfl, Nat.zero_le _, ι1, h1, [], [], ext_new hA, hr1.new hA, hr1.notIn hA, upd_same, .nil, go1⟩, ?_⟩
  rintro i m H2 ⟨rfl, hi, ι2, h2, acc, dacc, ex2, hr2, nA, eA, ra, go2⟩
  by_cases hlt : i < s.ds.length
  · rw [List.drop_eq_getElem_cons hlt] at go2
    obtain ⟨gk, step⟩ := lpC_cons go2
    refine .inr ⟨rj.go ι2 H2 h2 i ex2 hr2 gk hlt, _, fun H' w => ⟨s.ds.length - (i + 1), by omega, w⟩, fun x H3 y => ?_⟩
    obtain ⟨ex3, hr3, d, hd, rd⟩ := rj.yld ι2 H2 h2 i x H3 ex2 hr2 gk hlt y
    rw [List.getElem?_eq_getElem hlt] at hd
    cases hd
    obtain ⟨nA3, eA3⟩ := ex3.out eA nA
    have ra3 := ra.mono ex3
    have ex13 := ex2.trans ex3
    have hsw : SR v ι2 H3 (wipeS δ vs) (L2.wipe σ vs) := (hs1.mono ex13).wipe2 vs
    cases q : putT t s.ds[i] (wipeS δ vs) with
    | none =>
      rcases step with ⟨y, h4, e, _⟩ | ⟨h4, e, _⟩
      · unfold cpS at e; rw [q] at e; cases e
      · unfold cpS at e; rw [q] at e; cases e
    | some δ' =>
      have es : cpS g t cs e1 (wipeS δ vs) s.ds[i] h2 = (evTs g cs δ' h2).bind fun k h => if k = true then (evE g e1 δ' h).bind fun y h => whenR (D.pers y) (.ok (some y) h) else .ok none h := by
        unfold cpS; rw [q]
      rw [es] at step
      refine ⟨ι2, wipeS δ vs, h2, s.ds[i], δ', hr3, hsw, rd, q, fun σ4 hs4 off => ⟨wipe_off off hv, ι2, δ', h2, hr3, hs4, ?_⟩⟩
      cases q1 : evTs g cs δ' h2 with
      | err _ _ _ => rw [q1] at step; rcases step with ⟨y, h4, e, _⟩ | ⟨h4, e, _⟩ <;> cases e
      | no => rw [q1] at step; rcases step with ⟨y, h4, e, _⟩ | ⟨h4, e, _⟩ <;> cases e
      | ok k h5 =>
        rw [q1] at step
        rw [R.okb] at step
        intro ι5 H5 x5 ex5 hr5 rx5
        cases (show x5 = k from rx5)
        obtain ⟨nA5, eA5⟩ := ex5.out eA3 nA3
        have ra5 := ra3.mono ex5
        have ex15 := ex13.trans ex5
        cases k with
        | false =>
          rcases step with ⟨y, h4, e, _⟩ | ⟨h4, e, go4⟩
          · cases e
          · cases e
            exact ⟨rfl, hlt, ι5, h5, acc, dacc, ex15, hr5, nA5, eA5, ra5, go4⟩
        | true =>
          rw [if_pos rfl] at step ⊢
          refine ⟨ι5, δ', h5, hr5, hs4.mono ex5, ?_⟩
          cases q2 : evE g e1 δ' h5 with
          | err _ _ _ => rw [q2] at step; rcases step with ⟨y, h4, e, _⟩ | ⟨h4, e, _⟩ <;> cases e
          | no => rw [q2] at step; rcases step with ⟨y, h4, e, _⟩ | ⟨h4, e, _⟩ <;> cases e
          | ok y h6 =>
            rw [q2] at step
            rw [R.okb] at step
            intro ι6 H6 x6 ex6 hr6 rx6
            obtain ⟨nA6, eA6⟩ := ex6.out eA5 nA5
            have ra6 := ra5.mono ex6
            have ex16 := ex15.trans ex6
            cases py : D.pers y with
            | false => rw [py] at step; rcases step with ⟨y, h4, e, _⟩ | ⟨h4, e, _⟩ <;> cases e
            | true =>
              rw [py] at step
              rcases step with ⟨y', h4, e, hl, go4⟩ | ⟨h4, e, _⟩
              · cases e
                refine ⟨acc, eA6, by rw [← ra6.length, ← cells_eq]; exact hl, rfl, hlt, ι6, h6, acc ++ [x6], dacc ++ [y], ex16.put hA, hr6.swap eA6 nA6, nA6, upd_same, ?_, go4⟩
                exact (ra6.swap eA6).app (.cons ((rx6.1.rp py).swap eA6) .nil)
              · cases e
  · have e : i = s.ds.length := by omega
    subst e
    rw [List.drop_length] at go2
    unfold lpC at go2
    cases gk : gdOk h2 s.gd with
    | false => rw [gk] at go2; exact go2.elim
    | true =>
      rw [gk] at go2
      refine .inl ⟨rj.stop ι2 H2 h2 ex2 hr2 gk, ?_⟩
      have go2 : Go (rrE v) v ι1 H1 (cpF dacc [] h2) Q _ := go2
      unfold cpF at go2
      obtain ⟨_, go2⟩ := go_when go2
      rw [List.append_nil] at go2
      exact go2 ι2 H2 _ ex2 hr2 ⟨⟨A, acc, rfl, nA, eA, ra⟩, fun a e => by cases e; exact hA⟩
theorem e_comp {elt : Expr} {ifs : List Expr} {scope : Scope} {own : List (Str × Nat)} {vs : List Nat} {cs : List Te} (hc : X.calm = true) (hN : X.N.Nodup) (hi : PI X tg a (tI v g W it)) (ok : BlkOk X.N X.env.scope scope own)
    (hg : ∀ (s : Shared) (H : Hp) (C : Addr) (cl : List (Str × Addr)) (fp : List Addr), PG (X.blk s H scope (compEnvC scope cl C X.env) fp) tg (gT v t)) (ht : ∀ (s : Shared) (H : Hp) (C : Addr) (cl : List (Str × Addr)) (fp : List Addr), PTs (X.blk s H scope (compEnvC scope cl C X.env) fp) ifs (tTs v g Wn cs))
    (he : ∀ (s : Shared) (H : Hp) (C : Addr) (cl : List (Str × Addr)) (fp : List Addr), PE (X.blk s H scope (compEnvC scope cl C X.env) fp) elt (tE v g Wn e1)) (hv : ∀ i ∈ Tg.ns t, i ∈ vs) (ho : own.map (·.2) = vs := by rfl) (hs : ∀ x, foldedSetIterable a X.env x = pure x := by intro _; rfl) :
    PE X (.ListComp elt [⟨tg, a, ifs, 0⟩] scope pos) (tE v g W (.comp vs t it cs e1)) := by
  subst ho
  exact PE.imp (pe_lc hc hN hi ok hg ht he hs) fun σ H Q q => l_comp hv q
/-- x = [..] where the old x may be used up -/
theorem s_setLc {i : Nat} {y : Str} {py spos : Pos} {elt : Expr} {ifs : List Expr} {scope : Scope} {own : List (Str × Nat)} {vs : List Nat} {cs : List Te} (hc : X.calm = true) (hN : X.N.Nodup) (hy : X.N[i]? = some y) (hyl : X.env.scope.names.lookup y = some .local)
    (hsw : swapsWith (.ListComp elt [⟨tg, a, ifs, 0⟩] scope pos) (some (.Name y py)) spos.line X.env = pure true) (hi : PI X tg a (tI v g W it)) (ok : BlkOk X.N X.env.scope scope own)
    (hg : ∀ (s : Shared) (H : Hp) (C : Addr) (cl : List (Str × Addr)) (fp : List Addr), PG (X.blk s H scope (compEnvC scope cl C X.env) fp) tg (gT v t)) (ht : ∀ (s : Shared) (H : Hp) (C : Addr) (cl : List (Str × Addr)) (fp : List Addr), PTs (X.blk s H scope (compEnvC scope cl C X.env) fp) ifs (tTs v g Wn cs))
    (he : ∀ (s : Shared) (H : Hp) (C : Addr) (cl : List (Str × Addr)) (fp : List Addr), PE (X.blk s H scope (compEnvC scope cl C X.env) fp) elt (tE v g Wn e1)) (hv : ∀ i ∈ Tg.ns t, i ∈ vs) (ho : own.map (·.2) = vs := by rfl) (hs : ∀ x, foldedSetIterable a X.env x = pure x := by intro _; rfl) :
    PS X (.Assign [.Name y py] (.ListComp elt [⟨tg, a, ifs, 0⟩] scope pos) spos) (tS v g W (.asg (.name i) (.box (.comp vs t it cs e1)))) := by
  subst ho
  exact PS.imp (ps_setLc hc hN hy hyl hsw hi ok hg ht he hs) fun E σ H q => l_comp hv (l_box (l_set q))
end
end Ivy

/-! Ivy, part M: calls of defs, what a def promises, a def's end. -/
namespace Ivy
open PySem PySem.Spec PyProof.Rows L2

/-! ### old cells -/
theorem lowF_map {n : Nat} : ∀ {fs : List (Tx × D)}, D.lowF n fs = D.lowL n (fs.map (·.2))
  | [] => by simp [D.lowF, D.lowL]
  | (_, d) :: fs => by simp only [D.lowF, D.lowL, List.map_cons]; rw [lowF_map]
theorem lowK_map {n : Nat} : ∀ {fs : List (Ky × D)}, D.lowK n fs = D.lowL n (fs.map (·.2))
  | [] => by simp [D.lowK, D.lowL]
  | (_, d) :: fs => by simp only [D.lowK, D.lowL, List.map_cons]; rw [lowK_map]
section
variable {v : Ev} {ι m : List Addr} {H H' : Hp} {h : Hh}
mutual
theorem RP.low : ∀ {d : D} {x : V}, RP v ι H d x → D.low ι.length d = true
  | _, _, .non => by simp [D.low]
  | _, _, .bl b => by simp [D.low]
  | _, _, .int i => by simp [D.low]
  | _, _, .str x => by simp [D.low]
  | _, _, .tup h r => by simp only [D.low]; exact RPs.low r
  | _, _, .rol h r => by simp only [D.low]; exact RPs.low r
  | _, _, .ref h => by simp only [D.low]; exact decide_eq_true (List.getElem?_eq_some_iff.mp h).1
  | _, _, .exc h => by simp [D.low, D.lowF]
  | _, _, .exd (fs := fs) h1 h2 h3 r => by simp only [D.low]; rw [lowF_map]; exact RPs.low r
theorem RPs.low : ∀ {ds : List D} {xs : List V}, RPs v ι H ds xs → D.lowL ι.length ds = true
  | _, _, .nil => by simp [D.lowL]
  | _, _, .cons h r => by simp only [D.lowL, Bool.and_eq_true]; exact ⟨RP.low h, RPs.low r⟩
end
mutual
theorem RP.old : ∀ {d : D} {x : V}, RP v (ι ++ m) H d x → D.low ι.length d = true → RP v ι H d x
  | _, _, .non, _ => .non
  | _, _, .bl b, _ => .bl b
  | _, _, .int i, _ => .int i
  | _, _, .str x, _ => .str x
  | _, _, .tup h r, l => .tup h (RPs.old r (by simpa only [D.low] using l))
  | _, _, .rol h r, l => .rol h (RPs.old r (by simpa only [D.low] using l))
  | _, _, .ref h, l => .ref (by
    have l := of_decide_eq_true (by simpa only [D.low] using l)
    rw [List.getElem?_append_left l] at h; exact h)
  | _, _, .exc (fs := fs) h, _ => .exc (fs := fs) h
  | _, _, .exd h1 h2 h3 r, l => .exd h1 h2 h3 (RPs.old r (by simp only [D.low] at l; rw [lowF_map] at l; exact l))
theorem RPs.old : ∀ {ds : List D} {xs : List V}, RPs v (ι ++ m) H ds xs → D.lowL ι.length ds = true → RPs v ι H ds xs
  | _, _, .nil, _ => .nil
  | _, _, .cons h r, l => by
    simp only [D.lowL, Bool.and_eq_true] at l
    exact .cons (RP.old h l.1) (RPs.old r l.2)
end
theorem CR.low {a : Addr} {c : C} (q : CR v ι H a c) : C.low ι.length c = true := by
  cases c with
  | lst ds => obtain ⟨vs, _, r⟩ := q; exact r.low
  | dct ds => obtain ⟨vs, _, r⟩ := q; simp only [C.low]; rw [lowK_map]; exact r.2.low
  | ins c ds => obtain ⟨dx, vs, _, _, r⟩ := q; simp only [C.low]; rw [lowF_map]; exact r.2.low
theorem CR.old {a : Addr} {c : C} (q : CR v (ι ++ m) H a c) (l : C.low ι.length c = true) : CR v ι H a c := by
  cases c with
  | lst ds => obtain ⟨vs, z, r⟩ := q; exact ⟨vs, z, r.old l⟩
  | dct ds => obtain ⟨vs, z, r⟩ := q; simp only [C.low] at l; rw [lowK_map] at l; exact ⟨vs, z, r.1, r.2.old l⟩
  | ins c ds => obtain ⟨dx, vs, z0, z, r⟩ := q; simp only [C.low] at l; rw [lowF_map] at l; exact ⟨dx, vs, z0, z, r.1, r.2.old l⟩
theorem trim_at {n : Nat} : ∀ {h g : Hh} {i : Nat} {c c' : C}, trimOk n h g = true → h[i]? = some c → g[i]? = some c' → c = c' ∨ C.low n c' = true
  | [], _, i, c, c', _, e, _ => by simp at e
  | _ :: _, [], i, c, c', _, _, e => by simp at e
  | a :: h, b :: g, 0, c, c', t, e, e' => by
    simp at e e'; subst e e'
    have t := (Bool.and_eq_true_iff.mp (show ((C.beq a b || C.low n b) && trimOk n h g) = true from t)).1
    rcases (Bool.or_eq_true _ _).mp t with t | t
    · exact .inl (C.beq_eq a b t)
    · exact .inr t
  | a :: h, b :: g, i + 1, c, c', t, e, e' => by
    have t := (Bool.and_eq_true_iff.mp (show ((C.beq a b || C.low n b) && trimOk n h g) = true from t)).2
    exact trim_at t (by simpa using e) (by simpa using e')
/-- the old cells alone -/
theorem HR.trim {g : Hh} (r0 : HR v ι H h) (r : HR v (ι ++ m) H' g) (t : trimOk h.length h g = true) : HR v ι H' (g.take h.length) := by
  have hl : ι.length = h.length := r0.len
  have hg : (ι ++ m).length = g.length := r.len
  refine ⟨by rw [List.length_take, ← hg, List.length_append]; omega, r0.nd, fun i a c h1 h2 => ?_⟩
  have hi : i < ι.length := (List.getElem?_eq_some_iff.mp h1).1
  rw [List.getElem?_take_of_lt (by omega)] at h2
  have q := r.cell i a c (by rw [List.getElem?_append_left hi]; exact h1) h2
  have hc : h[i]? = some h[i] := List.getElem?_eq_getElem (by omega)
  refine q.old ?_
  rcases trim_at t hc h2 with e | e
  · rw [← e]; exact (r0.cell i a _ h1 hc).low
  · rw [hl]; exact e
theorem Ext.cut {ι' : List Addr} (e : Ext ι H ι' H') : Ext ι H ι H' := ⟨⟨[], by simp, fun _ z => nomatch z⟩, e.fix, e.kin⟩
/-- a new cell handed back becomes a fresh one -/
theorem lift_ok {g : Hh} {d : D} {x : V} (hl : ι.length = h.length) (r : HR v (ι ++ m) H' g) (hm : ∀ b ∈ m, H b = none ∧ b ∉ ι) (rx : rrE v (ι ++ m) H H' d x) (l : D.low h.length (lift h.length g d) = true) : rrE v ι H H' (lift h.length g d) x := by
  have keep : ∀ {d : D}, rrE v (ι ++ m) H H' d x → D.low h.length d = true → rrE v ι H H' d x := fun {d} rx l => by
    rw [← hl] at l
    cases d with
    | lst ds =>
      obtain ⟨a, vs, e, h2, h3, h4⟩ := (show RV v (ι ++ m) H' (.lst ds) x from rx.1)
      exact ⟨⟨a, vs, e, fun z => h2 (List.mem_append_left _ z), h3, h4.old (by simpa only [D.low] using l)⟩, rx.2⟩
    | dct ds =>
      obtain ⟨a, vs, e, h2, h3, h4⟩ := (show RV v (ι ++ m) H' (.dct ds) x from rx.1)
      exact ⟨⟨a, vs, e, fun z => h2 (List.mem_append_left _ z), h3, h4.1, h4.2.old (by simp only [D.low] at l; rw [lowK_map] at l; exact l)⟩, rx.2⟩
    | non => exact ⟨RP.old (show RP v (ι ++ m) H' .non x from rx.1) l, trivial⟩
    | bl b => exact ⟨RP.old (show RP v (ι ++ m) H' (.bl b) x from rx.1) l, trivial⟩
    | int b => exact ⟨RP.old (show RP v (ι ++ m) H' (.int b) x from rx.1) l, trivial⟩
    | str b => exact ⟨RP.old (show RP v (ι ++ m) H' (.str b) x from rx.1) l, trivial⟩
    | tup b => exact ⟨RP.old (show RP v (ι ++ m) H' (.tup b) x from rx.1) l, trivial⟩
    | rol b => exact ⟨RP.old (show RP v (ι ++ m) H' (.rol b) x from rx.1) l, trivial⟩
    | ref b => exact ⟨RP.old (show RP v (ι ++ m) H' (.ref b) x from rx.1) l, trivial⟩
    | exc c b => exact ⟨RP.old (show RP v (ι ++ m) H' (.exc c b) x from rx.1) l, trivial⟩
  cases d with
  | ref n =>
    unfold lift at l ⊢
    simp only at l ⊢
    split at l
    · rename_i hn
      obtain ⟨a, rfl, ha⟩ := rv_ref rx
      have hin : a ∈ m := by
        rw [List.getElem?_append_right (by omega)] at ha
        exact List.mem_of_getElem? ha
      split at l
      · rename_i xs q
        obtain ⟨vs, h1, h2⟩ := (show CR v (ι ++ m) H' a (.lst xs) from r.cell n a _ ha q)
        rw [if_pos hn]
        rw [← hl] at l
        exact ⟨⟨a, vs, rfl, (hm a hin).2, h1, h2.old (by simpa only [D.low] using l)⟩, fun b e => by cases e; exact (hm a hin).1⟩
      · rename_i xs q
        obtain ⟨vs, h1, h2⟩ := (show CR v (ι ++ m) H' a (.dct xs) from r.cell n a _ ha q)
        rw [if_pos hn]
        rw [← hl] at l
        exact ⟨⟨a, vs, rfl, (hm a hin).2, h1, h2.1, h2.2.old (by simp only [D.low] at l; rw [lowK_map] at l; exact l)⟩, fun b e => by cases e; exact (hm a hin).1⟩
      · have := of_decide_eq_true (show decide (n < h.length) = true by simpa only [D.low] using l)
        omega
    · rename_i hn
      rw [if_neg hn]
      exact keep rx l
  | _ => exact keep rx l
end

/-! ### what a def promises -/
def spD (v : Ev) (F : List D → Hh → R D) (np : Nat) : Sp := fun vs H Q E => ∃ ι h ds, HR v ι H h ∧ RPs v ι H ds vs ∧ ds.length = np ∧ Go (rrE v) v ι H (F ds h) Q E
section
variable {v : Ev} {ι : List Addr} {H : Hp} {h : Hh} {Q : VK} {E : XK}
theorem endF_ok {r : Rs} (hr : HR v ι H h) (go : Go (rrE v) v ι H (endF h r) Q E) : GoS v (fun c d _ H => E c d H) ι H r { nx := fun _ H' => Q .non H', rt := Q } := by
  have hl := hr.len
  have fin : ∀ {d : D} {g : Hh} {ι' : List Addr} {H' : Hp} {x : V}, Go (rrE v) v ι H (finish h d g) Q E → Ext ι H ι' H' → HR v ι' H' g → rrE v ι' H H' d x → Q x H' := fun {d g ι' H' x} go ex hr' rx => by
    unfold finish at go
    split at go
    · exact go ι' H' x ex hr' rx
    · split at go
      · rename_i c
        rw [Bool.and_eq_true] at c
        obtain ⟨m, rfl, hm⟩ := ex.pre
        exact go ι H' x ex.cut (hr.trim hr' c.2) (lift_ok hl hr' hm rx c.1)
      · exact go ι' H' x ex hr' rx
  cases r with
  | nx δ g => exact fun ι' H' σ' ex hr' _ => fin go ex hr' ⟨.non, trivial⟩
  | ret d g => exact fun ι' H' x ex hr' rx => fin go ex hr' rx
  | brk δ g => exact go.elim
  | cont δ g => exact go.elim
  | no => exact go.elim
  | err c fs δ g =>
    intro ι' H' σ' cls dd ex hr' hs rx
    have go : Go (rrE v) v ι H (finishX h c fs g) Q E := go
    unfold finishX at go
    split at go
    · exact go ι' H' cls dd ex hr' rx
    · split at go
      · rename_i cc
        rw [Bool.and_eq_true] at cc
        obtain ⟨m, rfl, hm⟩ := ex.pre
        refine go ι H' cls dd ex.cut (hr.trim hr' cc.2) ⟨rx.1, ?_⟩
        have rx2 := rx.2
        cases dd with
        | none => exact rx2
        | some d =>
          obtain ⟨fvs, vs, z1, z2, z3⟩ := rx2
          refine ⟨fvs, vs, z1, z2, z3.old ?_⟩
          have := cc.1
          rw [lowF_map, ← hl] at this
          exact this
      · exact go ι' H' cls dd ex hr' rx
theorem start_ok {N : List Str} {ns : Nat} {ds : List D} {vs : List V} (hN : N.length = ns) (r : RPs v ι H ds vs) (hle : ds.length ≤ ns) : SR v ι H (ds.map some ++ List.replicate (ns - ds.length) none) (start N vs) := by
  unfold L2.start
  have hl := r.length
  refine ⟨by simp [hN, hl], fun i d hd => ?_⟩
  by_cases hi : i < ds.length
  · rw [List.getElem?_append_left (by simpa using hi), List.getElem?_map] at hd
    cases q : ds[i]? with
    | none => rw [q] at hd; cases hd
    | some d' =>
      rw [q] at hd
      cases hd
      obtain ⟨x, hx, rx⟩ := r.get q
      refine ⟨x, ?_, rx⟩
      rw [List.getElem?_append_left (by rw [List.length_map, ← hl]; exact hi), List.getElem?_map, hx]
      rfl
  · rw [List.getElem?_append_right (by simpa using hi)] at hd
    rw [List.getElem?_replicate] at hd
    split at hd <;> cases hd
/-- a body that reads so keeps the promise -/
theorem body_ok {g : G} {fn : Fn} {N : List Str} {vs : List V} {np : Nat} (hN : N.length = fn.ns) (hle : fn.np ≤ fn.ns) (hs : spD v (runF g fn) np vs H Q E) :
    tSs v g (fun c d _ H => E c d H) fn.body { nx := fun _ H' => Q .non H', rt := Q } (start N vs) H := by
  obtain ⟨ι, h, ds, hr, rs, hl, go⟩ := hs
  unfold runF at go
  split at go
  · rename_i e
    exact ⟨ι, startS fn ds, h, hr, start_ok hN rs (by omega), endF_ok hr go⟩
  · exact go.elim
end

/-! ### calls -/
def pickL {α : Type} (ds : List α) (perm : List Nat) : List α := perm.filterMap fun i => ds[i]?
theorem pick_rps {v : Ev} {ι : List Addr} {H : Hp} {ds : List D} {vs : List V} (r : RPs v ι H ds vs) : ∀ perm : List Nat, RPs v ι H (pick ds perm) (pickL vs perm)
  | [] => .nil
  | i :: perm => by
    unfold pick pickL
    rw [List.filterMap_cons, List.filterMap_cons]
    have ih := pick_rps r perm
    cases q : ds[i]? with
    | none =>
      have : vs[i]? = none := by
        rw [List.getElem?_eq_none_iff] at q ⊢
        rw [← r.length]; exact q
      rw [this]
      exact ih
    | some d =>
      obtain ⟨x, hx, rx⟩ := r.get q
      rw [hx]
      exact .cons rx ih
theorem pick_vals {vs : List V} {us : List Value} (r : Vals vs us) : ∀ perm : List Nat, Vals (pickL vs perm) (pickL us perm)
  | [] => .nil
  | i :: perm => by
    unfold pickL
    rw [List.filterMap_cons, List.filterMap_cons]
    have ih := pick_vals r perm
    cases q : vs[i]? with
    | none =>
      have : us[i]? = none := by
        rw [List.getElem?_eq_none_iff] at q ⊢
        rw [← r.length]; exact q
      rw [this]
      exact ih
    | some x =>
      obtain ⟨u, hu, ru⟩ := r.get q
      rw [hu]
      exact .cons ru ih
/-- how n values and keywords are bound -/
def KBp (fd : FuncData) (ps ks : List Str) (n : Nat) (perm : List Nat) : Prop := ∀ (s : Shared) (us ws : List Value), us.length = n → ws.length = ks.length → BindsTo s fd ⟨us, ks.zip ws⟩ (ps.zip (pickL (us ++ ws) perm))
section
variable {X : Cx} {v : Ev} {g : G} {W : WX} {a : Expr} {es : List Expr} {fs fs2 : List Ex} {pos p : Pos} {x : Str} {k f n : Nat} {fa : Addr} {fd : FuncData} {ps ks : List Str} {kws : List Keyword} {perm : List Nat}
theorem evEs_len : ∀ {fs : List Ex} {δ : Sl} {h h' : Hh} {ds : List D}, evEs g fs δ h = .ok ds h' → ds.length = fs.length
  | [], δ, h, h', ds, e => by simp only [evEs] at e; cases e; rfl
  | f :: fs, δ, h, h', ds, e => by
    simp only [evEs] at e
    cases q : evE g f δ h with
    | err _ _ _ => rw [q] at e; cases e
    | no => rw [q] at e; cases e
    | ok d h1 =>
      rw [q, R.okb] at e
      cases q2 : evEs g fs δ h1 with
      | err _ _ _ => rw [q2] at e; cases e
      | no => rw [q2] at e; cases e
      | ok es h2 =>
        rw [q2] at e
        cases e
        rw [List.length_cons, List.length_cons, evEs_len q2]
theorem evE_call {δ : Sl} {h : Hh} : evE g (.call f fs perm) δ h = (evEs g fs δ h).bind fun ds h => whenR (persL ds) (g.fn f (match perm with
    | [] => ds
    | _ => pick ds perm) h) := by simp only [evE] <;> rfl
theorem e_call (hb : Cb X v W) (F : FnOk X.prog X.w X.K X.mg X.base (L2.CX X.prog X.w) k fa fd ps (spD v (g.fn f) ps.length)) (hr : Room k X.A) (hg : Gl X x) (hm : X.mg x = some (.ref fa)) (hk : PySem.W.keepIn X.K (.ref fa) = true) (hbi : Binds X.K fd ps [])
    (ha : PA X (a :: es) (tL v g W fs)) (hdb : (x == ("__debug__" : Str)) = false := by decide) (hl : fs.length = ps.length := by rfl) (he : starEach (a :: es) X.env = (false, eval a X.env) :: starEach es X.env := by rfl) (hpl : (backTo pos (starEach es X.env)).any (·.1) = false := by rfl) :
    PE X (.Call (.Name x p) (a :: es) [] pos) (tE v g W (.call f fs [])) :=
  PE.imp (pe_callSD F hr hg hm hk hbi .nil (E := WE W) (fun σ => passAt hb.tk σ) ha hdb he hpl) fun σ H Q ⟨ι, δ, h, hr, hs, go⟩ => by
    rw [evE_call] at go
    refine ⟨ι, δ, h, hr, hs, Go.bind (SS := rrL v) go fun ds h1 ι1 H1 xs r1 ex1 hr1 rx1 go1 => ?_⟩
    obtain ⟨c, go1⟩ := go_when go1
    have rs := rx1.rps c
    rw [List.append_nil]
    refine ⟨ι1, h1, ds, hr1, rs, ?_, go1⟩
    rw [← hl]
    exact evEs_len r1
theorem run_kb {E : L2.St → XK} {pins : List (Addr × Obj)} {σ : L2.St} {H : Hp} {s : Shared} {Q : VK} {us ws : List Value} {vs zs : List V} {sp : Sp} (F : FnOk X.prog X.w X.K X.mg X.base (L2.CX X.prog X.w) k fa fd ps sp) (hr : Room k X.A) (hb : KBp fd ps ks n perm) (hx : ∀ σ, PassesAt (L2.CX X.prog X.w) X σ (E σ))
    (I : Inv X pins σ H s) (r : Vals vs us) (rz : Vals zs ws) (l1 : us.length = n) (l2 : ws.length = ks.length) (h : sp (pickL (vs ++ zs) perm) H Q (E σ)) : wpAny (model X.prog X.w) X.A (call (.ref fa) us (ks.zip ws)) (EP X pins σ Q) X.xe s := by
  refine wpAny_call (codeAny_mono (F.run X.A X.stack s H ⟨us, ks.zip ws⟩ _ _ Q (E σ) hr I.env0 (hb s us ws l1 l2) (pick_vals (r.append rz) perm) h) fun res s' hq => ?_)
  cases res with
  | error e => exact hx σ pins H s e s' I hq
  | ok fl =>
    cases fl with
    | ret u => exact I.after hq
    | next => exact hq.elim
    | brk => exact hq.elim
    | cont => exact hq.elim
/-- keywords' values -/
theorem k_nil : PK X [] (tL v g W []) := ⟨fun pos pins s σ H Q I ⟨ι, δ, h, hr, hs, go⟩ => pk_nil.run pos pins s σ H Q I (go.here hr .nil)⟩
theorem k_cons {nm : Option Str} {kp : Pos} {e1 : Ex} (ha : PE X a (tE v g W e1)) (hr : PK X kws (tL v g W fs)) : PK X (⟨nm, a, kp⟩ :: kws) (tL v g W (e1 :: fs)) :=
  ⟨fun pos pins s σ H Q I t => (pk_cons ha hr).run pos pins s σ H Q I (l_cons t)⟩
theorem evEs_app : ∀ {fs fs2 : List Ex} {δ : Sl} {h : Hh}, evEs g (fs ++ fs2) δ h = (evEs g fs δ h).bind fun xs h => (evEs g fs2 δ h).bind fun ys h => .ok (xs ++ ys) h
  | [], fs2, δ, h => by
    simp only [evEs, List.nil_append]
    rw [R.okb]
    cases evEs g fs2 δ h <;> rfl
  | f :: fs, fs2, δ, h => by
    simp only [List.cons_append, evEs]
    cases evE g f δ h with
    | err _ _ _ => rfl
    | no => rfl
    | ok d h1 =>
      rw [R.okb, R.okb, evEs_app]
      cases evEs g fs δ h1 with
      | err _ _ _ => rfl
      | no => rfl
      | ok es h2 =>
        show ((R.bind (evEs g fs2 δ h2) fun ys h => .ok (es ++ ys) h).bind fun xs h => .ok (d :: xs) h) = R.bind (evEs g fs2 δ h2) fun ys h => .ok (d :: es ++ ys) h
        cases evEs g fs2 δ h2 <;> rfl
theorem rrL.app {ι : List Addr} {H0 H : Hp} : ∀ {ds es : List D} {xs ys : List V}, rrL v ι H0 H ds xs → rrL v ι H0 H es ys → rrL v ι H0 H (ds ++ es) (xs ++ ys)
  | _, _, _, _, .nil, s => s
  | _, _, _, _, .cons r t, s => .cons r (rrL.app t s)
/-- f(a, .., k = b, ..) -/
theorem e_callK (hb : Cb X v W) (F : FnOk X.prog X.w X.K X.mg X.base (L2.CX X.prog X.w) k fa fd ps (spD v (g.fn f) ps.length)) (hr : Room k X.A) (hg : Gl X x) (hm : X.mg x = some (.ref fa)) (hk : PySem.W.keepIn X.K (.ref fa) = true) (hbi : KBp fd ps ks fs.length perm)
    (ha : PA X (a :: es) (tL v g W fs)) (hkw : PK X kws (tL v g W fs2)) (hn : perm ≠ []) (hlen : ∀ ds : List D, ds.length = fs.length + fs2.length → (pick ds perm).length = ps.length) (hl2 : fs2.length = ks.length := by rfl)
    (hall : (backToKw pos (keywordEach kws X.env)).all (·.1.isSome) = true := by rfl) (hks : (backToKw pos (keywordEach kws X.env)).filterMap (·.1) = ks := by rfl)
    (hdb : (x == ("__debug__" : Str)) = false := by decide) (he : starEach (a :: es) X.env = (false, eval a X.env) :: starEach es X.env := by rfl)
    (hpl : ((backTo pos (starEach (a :: es) X.env)).any (·.1) || (backToKw pos (keywordEach kws X.env)).any (·.1.isNone)) = false := by rfl) :
    PE X (.Call (.Name x p) (a :: es) kws pos) (tE v g W (.call f (fs ++ fs2) perm)) := by
  refine ⟨fun pins s σ H Q I ⟨ι, δ, h, hr', hs, go⟩ => ?_⟩
  rw [evE_call, evEs_app, R.assoc] at go
  have t1 : tL v g W fs σ H fun xs H1 => tL v g W fs2 σ H1 fun ys H2 => xs.length = fs.length ∧ ys.length = fs2.length ∧ spD v (g.fn f) ps.length (pickL (xs ++ ys) perm) H2 Q (WE W σ) := by
    refine ⟨ι, δ, h, hr', hs, Go.bind (SS := rrL v) go fun ds h1 ι1 H1 xs r1 ex1 hr1 rx1 go1 => ?_⟩
    rw [R.assoc] at go1
    refine ⟨ι1, δ, h1, hr1, hs.mono ex1, Go.bind (SS := rrL v) go1 fun es h2 ι2 H2 ys r2 ex2 hr2 ry2 go2 => ?_⟩
    rw [R.okb] at go2
    obtain ⟨c, go2⟩ := go_when go2
    have rs := ((rx1.mono ex2).app (ry2.back fun p hp => ex1.back hr1 hp)).rps c
    have l1 := evEs_len r1
    have l2 := evEs_len r2
    refine ⟨?_, ?_, ι2, h2, pick (ds ++ es) perm, hr2, pick_rps rs perm, hlen _ (by rw [List.length_append, l1, l2]), ?_⟩
    · have := rs.length
      have z := (rx1.rps (by unfold persL at c ⊢; rw [List.all_append, Bool.and_eq_true] at c; exact c.1)).length
      rw [← z, l1]
    · have z := (ry2.rps (by unfold persL at c ⊢; rw [List.all_append, Bool.and_eq_true] at c; exact c.2)).length
      rw [← z, l2]
    · cases perm with
      | nil => exact absurd rfl hn
      | cons i perm => exact go2
  refine wpAny_Call_Name_kw (ld_glob I hg hm ?_ hdb)
  refine PySem.W.callWith_KW (h₀ := X.base) I.ok.mod.kin hk hall (thn (ha.run pos pins s σ H _ I t1) fun us s1 ⟨vs, H1, I1, r, q⟩ => ?_) hpl he
  refine thn (hkw.run pos pins s1 σ H1 _ I1 q) fun ws s2 ⟨zs, H2, I2, rz, q1, q2, q3⟩ => ⟨I2.kIn, ?_⟩
  rw [hks]
  exact run_kb F hr hbi (fun σ => passAt hb.tk σ) I2 r rz (by rw [List.nil_append, ← r.length]; exact q1) (by rw [← rz.length, q2, hl2]) q3
theorem e_callKO (hb : Cb X v W) (F : FnOk X.prog X.w X.K X.mg X.base (L2.CX X.prog X.w) k fa fd ps (spD v (g.fn f) ps.length)) (hr : Room k X.A) (hg : Gl X x) (hm : X.mg x = some (.ref fa)) (hk : PySem.W.keepIn X.K (.ref fa) = true) (hbi : KBp fd ps ks 0 perm)
    (hkw : PK X kws (tL v g W fs2)) (hn : perm ≠ []) (hlen : ∀ ds : List D, ds.length = fs2.length → (pick ds perm).length = ps.length) (hl2 : fs2.length = ks.length := by rfl)
    (hall : (backToKw pos (keywordEach kws X.env)).all (·.1.isSome) = true := by rfl) (hks : (backToKw pos (keywordEach kws X.env)).filterMap (·.1) = ks := by rfl) (hdb : (x == ("__debug__" : Str)) = false := by decide)
    (hpl : ((backTo pos (starEach [] X.env)).any (·.1) || (backToKw pos (keywordEach kws X.env)).any (·.1.isNone)) = false := by rfl) :
    PE X (.Call (.Name x p) [] kws pos) (tE v g W (.call f fs2 perm)) := by
  refine ⟨fun pins s σ H Q I ⟨ι, δ, h, hr', hs, go⟩ => ?_⟩
  rw [evE_call] at go
  have t1 : tL v g W fs2 σ H fun ys H2 => ys.length = fs2.length ∧ spD v (g.fn f) ps.length (pickL ([] ++ ys) perm) H2 Q (WE W σ) := by
    refine ⟨ι, δ, h, hr', hs, Go.bind (SS := rrL v) go fun ds h1 ι1 H1 xs r1 ex1 hr1 rx1 go1 => ?_⟩
    obtain ⟨c, go1⟩ := go_when go1
    have rs := rx1.rps c
    have l1 := evEs_len r1
    refine ⟨by rw [← rs.length, l1], ι1, h1, pick ds perm, hr1, pick_rps rs perm, hlen _ l1, ?_⟩
    cases perm with
    | nil => exact absurd rfl hn
    | cons i perm => exact go1
  refine wpAny_Call_Name_kw (ld_glob I hg hm ?_ hdb)
  refine PySem.W.callWith_KW0 (h₀ := X.base) I.ok.mod.kin hk hall ?_ hpl
  refine thn (hkw.run pos pins s σ H _ I t1) fun ws s2 ⟨zs, H2, I2, rz, q2, q3⟩ => ⟨I2.kIn, ?_⟩
  rw [hks]
  exact run_kb (us := []) F hr hbi (fun σ => passAt hb.tk σ) I2 .nil rz rfl (by rw [← rz.length, q2, hl2]) q3
end
end Ivy

/-! Ivy, part N: contexts, a try whose body raises nothing, all defs at every level. -/
namespace Ivy
open PySem PySem.Spec PyProof.Rows L2
section
variable {X : Cx} {v : Ev} {g : G} {W : WX} {pos : Pos} {sts : List Stmt} {ss : List St}
theorem Cc.nox (h : Cc X v W) : Cc X.nox v Wn := ⟨⟨h.hK, fun u s' ⟨a, B, sI, pins, σ, H, cls, d, e, I, nb, up, sky, na, os, ag, w⟩ => w.elim, h.nd, h.hu⟩, h.calm, PassesOwn.never⟩
theorem Cc.blk (h : Cc X v W) {s : Shared} {H : Hp} {scope : Scope} {env : Env} {fp : List Addr} : Cc (X.blk s H scope env fp) v Wn := ⟨⟨h.hK, fun u s' ⟨a, B, sI, pins, σ, H, cls, d, e, I, nb, up, sky, na, os, ag, w⟩ => w.elim, h.nd, h.hu⟩, h.calm, PassesOwn.never⟩
/-- a try whose body raises nothing -/
theorem s_thru {h₀ : ExceptHandler} {hs : List ExceptHandler} (hb : PSs X.nox sts (tSs v g Wn ss)) : PS X (.Try sts (h₀ :: hs) [] [] pos) (tS v g W (.thru ss)) :=
  PS.imp (ps_try_thru0 hb) fun E σ H ⟨ι, δ, h, hr, hs, go⟩ => by
    have e : evS g (.thru ss) δ h = (match evSs g ss δ h with
      | .err _ _ _ _ => .no
      | r => r) := by simp only [evS] <;> rfl
    rw [e] at go
    refine ⟨ι, δ, h, hr, hs, ?_⟩
    cases q : evSs g ss δ h with
    | err _ _ _ _ => rw [q] at go; exact go.elim
    | nx δ h => rw [q] at go; exact go
    | brk δ h => rw [q] at go; exact go
    | cont δ h => rw [q] at go; exact go
    | ret d h => rw [q] at go; exact go
    | no => rw [q] at go; exact go
end
section
variable {P : Program} {w : World} {K : PySem.W.Frag} {mg : Str → Option Value} {base : Heap} {N : List Str} {qual : Str} {scope : Scope} {f : Addr} {cd : Value} {A : Around} {outer : List Env} {s : Shared} {H : Hp} {E : XK} {v : Ev} {k : Nat}
/-- a def's own context -/
theorem cc_def (hK : K = v.K) (hN : N.Nodup) (hr : Room k (A.deeper (envOfC qual scope s.heap.objs.size f cd))) : Cc (cxOf (L2.CX P w) P w K mg base N qual scope f cd A outer s H E) v (fun c d _ H => E c d H) :=
  ⟨⟨hK, takes_of rfl rfl rfl rfl, hN, by have := hr.un; show (A.deeper (envOfC qual scope s.heap.objs.size f cd)).units + 80 < cLine; omega⟩, rfl, passes_of rfl⟩
end
/-- all defs keep their promises at a level -/
def Lv (P : Program) (w : World) (K : PySem.W.Frag) (mg : Str → Option Value) (base : Heap) (v : Ev) (Pr : Pg) (fa : Nat → Addr) (fd : Nat → FuncData) (ps : Nat → List Str) (N n : Nat) : Prop :=
  ∀ i, i < N → FnOk P w K mg base (L2.CX P w) (n + 1) (fa i) (fd i) (ps i) (spD v (callF Pr n i) (ps i).length)
theorem spD_len {v : Ev} {F : List D → Hh → R D} {np : Nat} {vs : List V} {H : Hp} {Q : VK} {E : XK} (h : spD v F np vs H Q E) : vs.length = np := by
  obtain ⟨ι, h, ds, hr, rs, hl, go⟩ := h
  rw [← rs.length, hl]
theorem lv_zero {P : Program} {w : World} {K : PySem.W.Frag} {mg : Str → Option Value} {base : Heap} {v : Ev} {Pr : Pg} {fa : Nat → Addr} {fd : Nat → FuncData} {ps : Nat → List Str} {N : Nat} : Lv P w K mg base v Pr fa fd ps N 0 := fun i _ =>
  ⟨fun vs H Q E h => spD_len h, fun A outer s H args us vs Q E hr e0 hb r h => by
    obtain ⟨ι, h, ds, _, _, _, go⟩ := h
    exact go.elim⟩
theorem callF_succ {Pr : Pg} {n i : Nat} {fn : Fn} (h : Pr.fns[i]? = some fn) (ds : List D) (hh : Hh) : callF Pr (n + 1) i ds hh = runF (Pr.g n) fn ds hh := by
  show (match Pr.fns[i]? with
    | some fn => runF ⟨callF Pr n, Pr.cs, Pr.sub, Pr.w⟩ fn ds hh
    | none => .no) = _
  rw [h]
  rfl
/-- one def at the next level, from its body's reading -/
theorem lv_fn {P : Program} {w : World} {K : PySem.W.Frag} {mg : Str → Option Value} {base : Heap} {v : Ev} {Pr : Pg} {n i : Nat} {fn : Fn} {x qual : Str} {params : Arguments} {body : List Stmt} {scope : Scope} {f : Addr} {fd : FuncData} {N ps : List Str}
    (hv : K = v.K) (hp : Pr.fns[i]? = some fn) (F : FunD K x qual params body scope [] [] f fd) (S : FnScope N ps scope) (hN : N.length = fn.ns) (hle : fn.np ≤ fn.ns)
    (hbody : ∀ (cdv : Value) (A : Around) (outer : List Env) (s : Shared) (H : Hp) (E : XK), Room (n + 1) (cxOf (L2.CX P w) P w K mg base N qual scope f cdv A outer s H E).A → Cc (cxOf (L2.CX P w) P w K mg base N qual scope f cdv A outer s H E) v (fun c d _ H => E c d H) →
      PSs (cxOf (L2.CX P w) P w K mg base N qual scope f cdv A outer s H E) body (tSs v (Pr.g n) (fun c d _ H => E c d H) fn.body)) :
    FnOk P w K mg base (L2.CX P w) (n + 2) f fd ps (spD v (callF Pr (n + 1) i) ps.length) := by
  refine F.ok S (fun vs H Q E h => spD_len h) fun cdv A outer s H vs Q E hr hsp => ⟨_, hbody cdv A outer s H E hr (cc_def hv S.nd hr), ?_⟩
  have e : (fun ds hh => callF Pr (n + 1) i ds hh) = fun ds hh => runF (Pr.g n) fn ds hh := funext fun ds => funext fun hh => callF_succ hp ds hh
  have hsp : spD v (runF (Pr.g n) fn) ps.length vs H Q E := by
    have e2 : callF Pr (n + 1) i = runF (Pr.g n) fn := e
    rw [← e2]; exact hsp
  exact body_ok hN hle hsp
/-- keywords are bound so -/
theorem kb_of {K : PySem.W.Frag} {x qual : Str} {params : Arguments} {body : List Stmt} {scope : Scope} {f : Addr} {fd : FuncData} {ps ks : List Str} {n : Nat} {perm : List Nat} (F : FunD K x qual params body scope [] [] f fd)
    (h : ∀ (kV doc pm : Value) (an : Option Addr) (cdv ct : Value) (us ws : List Value), us.length = n → ws.length = ks.length → bindArgs (PySem.W.fnOf x qual params body scope .none kV doc pm an cdv ct) ⟨us, ks.zip ws⟩ = pure (ps.zip (pickL (us ++ ws) perm))) : KBp fd ps ks n perm := by
  obtain ⟨oc, od, dV, kV, doc, pm, an, cdv, ct, osl, rfl, lk, hcd, hD, hK⟩ := F.ex
  rcases hD with ⟨_, rfl⟩ | ⟨e, _⟩
  · exact fun s us ws h1 h2 => .of_eq (h kV doc pm an cdv ct us ws h1 h2)
  · exact absurd rfl e
/-- the law: from its answer to the head's wish -/
theorem law_sp {v : Ev} {F : List D → Hh → R D} (hF : ∀ ns : List Int, ns.length ≤ 63 → ∃ h', F [.rol (ns.map .int)] [] = .ok (.bl true) h') {H : Hp} {a : Addr} {ns : List Int} (hl : ns.length ≤ 63) (ho : Only H) (hs : SqL v.K H a (ns.map V.int)) :
    spD v F 1 [.ref a] H (fun x _ => x = .bl true) fun _ _ _ => False := by
  have ro : RoL v.K H a (ns.map V.int) := by
    rcases hs with (h | h) | h
    · rcases ho a with z | ⟨o, xs, z⟩
      · rw [z] at h; cases h
      · rw [z] at h; cases h
    · exact .inl h
    · exact .inr h
  have rp : ∀ ns : List Int, RPs v [] H (ns.map .int) (ns.map V.int) := fun ns => by
    induction ns with
    | nil => exact .nil
    | cons n ns ih => exact .cons (.int n) ih
  obtain ⟨h', e⟩ := hF ns hl
  refine ⟨[], [], [.rol (ns.map .int)], ⟨rfl, List.nodup_nil, fun n a c h _ => by simp at h⟩, .cons (.rol ro (rp ns)) .nil, rfl, ?_⟩
  rw [e]
  exact fun ι' H' x _ _ rx => rv_bl rx
/-- what lets nothing out may be asked so -/
theorem fn_calm {P : Program} {w : World} {K : PySem.W.Frag} {mg : Str → Option Value} {base : Heap} {k : Nat} {f : Addr} {fd : FuncData} {ps : List Str} {sp : Sp} (F : FnOk P w K mg base (L2.CX P w) k f fd ps sp) :
    FnOk P w K mg base CX0 k f fd ps (fun vs H Q _ => sp vs H Q fun _ _ _ => False) :=
  ⟨fun vs H Q E h => F.len _ _ _ _ h, fun A outer s H args us vs Q E hr e0 hb r h => codeAny_mono (F.run A outer s H args us vs Q _ hr e0 hb r h) fun res s' q => by
    cases res with
    | ok fl => cases fl <;> exact q
    | error e =>
      obtain ⟨a, B, H', cls, d, _, _, _, _, _, _, _, z⟩ := q
      exact z.elim⟩
end Ivy

/-! Ivy, part O: name op= e; tests by operators; names of built-ins; what a program's facts are. -/
namespace Ivy
open PySem PySem.Spec PyProof.Rows L2
section
variable {X : Cx} {v : Ev} {g : G} {W : WX} {pos p : Pos} {b : Expr} {e1 : Ex} {x : Str}
theorem s_aug {i : Nat} {op : Operator} {o : Op} {r : R2} (hN : X.N.Nodup) (hi : X.N[i]? = some x) (hx : Loc X.env.scope x) (ho : OpR X (inplaceOp op) r) (val : Op2 v g o r) (he : PE X b (tE v g W e1))
    (hf : X.fn x = true ∨ X.env.scope.names.lookup x = some .local := by first | exact .inl rfl | exact .inr rfl | assumption) : PS X (.AugAssign (.Name x p) op b pos) (tS v g W (.asg (.name i) (.op o [.var i, e1]))) :=
  PS.imp (ps_aug (ti := r) hN hi hx he ho hf) fun E σ H t => by
    obtain ⟨ι, δ, h, hr, hs, go⟩ := l_set t
    rw [evE_op2] at go
    have e : evE g (.var i) δ h = (match δ[i]? with
      | some (some d) => .ok d h
      | _ => .no) := by simp only [evE] <;> rfl
    rw [e] at go
    cases q : δ[i]? with
    | none => rw [q] at go; exact go.elim
    | some od =>
      rw [q] at go
      cases od with
      | none => exact go.elim
      | some d =>
        have go : Go (rrE v) v ι H ((evE g e1 δ h).bind fun y h => opApp g.sub o [d, y] h) _ _ := go
        obtain ⟨z, h1, h2⟩ := hs.2 i d q
        refine ⟨z, h1, ι, δ, h, hr, hs, Go.bind (SS := rrE v) go fun y h3 ι3 H3 u r3 ex3 hr3 ru3 go3 => ?_⟩
        have rz : rrE v ι H H d z := by
          cases d <;> first | exact ⟨h2, trivial⟩ | cases h2
        exact val ι3 H3 H H h3 d y z u _ _ hr3 (rz.mono ex3) ru3 go3
def rIAdd : R2 := fun x y H Q => rI0 (fun i j => .int (i + j)) x y H Q ∨ ∃ i j, x = .str i ∧ y = .str j ∧ i.length + j.length ≤ sizeLine ∧ Q (.str (i ++ j)) H
theorem o_iadd : OpR X (inplaceOp .Add) rIAdd := opr_or iop_add iop_add_str
theorem v_iadd : Op2 v g .iadd rIAdd := by
  intro ι H H0 H1 h d e x y Q E hr rx ry go
  cases d <;> cases e <;> first | exact go.elim | skip
  · rw [rv_int rx, rv_int ry]
    exact .inl ⟨_, _, rfl, rfl, go_int (show Go _ _ _ _ (intR _ _) _ _ from go) hr⟩
  · rename_i x y
    obtain ⟨c, go⟩ := go_when (show Go (rrE v) v ι H (whenR _ (.ok (.str (x ++ y)) h)) Q E from go)
    rw [rv_str rx, rv_str ry]
    refine .inr ⟨_, _, rfl, rfl, ?_, ?_⟩
    · rw [tx_len, tx_len, ← cells_eq]; exact of_decide_eq_true c
    · rw [tx_app]; exact go_str go hr
theorem o_imul : OpR X (inplaceOp .Mult) (rI CMul3 fun i j => .int (i * j)) := fun pins s σ H x y v u Q I rx ry ⟨i, j, ex, ey, hc, q⟩ =>
  hc.elim (fun c => iop_mul pins s σ H x y v u Q I rx ry ⟨i, j, ex, ey, c, q⟩) fun c => (opI fun _ _ _ _ _ _ _ hc q => imul_int q hc.ok : OpR X (inplaceOp .Mult) (rI CMulW fun i j => .int (i * j))) pins s σ H x y v u Q I rx ry ⟨i, j, ex, ey, c, q⟩
theorem v_imul : Op2 v g .imul (rI CMul3 fun i j => .int (i * j)) := by
  intro ι H H0 H1 h d e x y Q E hr rx ry go
  cases d <;> cases e <;> first | exact go.elim | skip
  rename_i i j
  obtain ⟨c, go⟩ := go_when (show Go (rrE v) v ι H (whenR _ (intR (i * j) h)) Q E from go)
  rw [rv_int rx, rv_int ry]
  exact ⟨_, _, rfl, rfl, mul_ok c, go_int go hr⟩
theorem o_ifdiv : OpR X (inplaceOp .FloorDiv) (rI CDivB fun i j => .int (i.fdiv j)) := opI fun i j _ _ _ _ _ hc q => ifloordiv_int hc.1 q (.inl (PyProof.noPylong_of_log2 hc.2))

/-! ### operators that answer with bools -/
theorem ob_cmp {o : Op} {f : Int → Int → Bool} {k : Tx → Tx → Bool} (he : ∀ (d e : D) (h : Hh), opApp g.sub o [d, e] h = opCmp h f k d e) (h0 : ∀ h, opApp g.sub o [] h = .no) (h1 : ∀ d h, opApp g.sub o [d] h = .no) (h3 : ∀ d e c ds h, opApp g.sub o (d :: e :: c :: ds) h = .no) : OpB g o := by
  intro ds h d h' e
  match ds with
  | [] => rw [h0] at e; cases e
  | [_] => rw [h1] at e; cases e
  | _ :: _ :: _ :: _ => rw [h3] at e; cases e
  | [x, y] =>
    rw [he] at e
    cases x <;> cases y <;> first | cases e | skip
    · exact ⟨_, rfl⟩
    · exact ⟨_, rfl⟩
theorem ob_lt : OpB g .lt := ob_cmp (fun _ _ _ => rfl) (fun _ => rfl) (fun d _ => by cases d <;> rfl) fun d e _ _ _ => by cases d <;> cases e <;> rfl
theorem ob_le : OpB g .le := ob_cmp (fun _ _ _ => rfl) (fun _ => rfl) (fun d _ => by cases d <;> rfl) fun d e _ _ _ => by cases d <;> cases e <;> rfl
theorem ob_gt : OpB g .gt := ob_cmp (fun _ _ _ => rfl) (fun _ => rfl) (fun d _ => by cases d <;> rfl) fun d e _ _ _ => by cases d <;> cases e <;> rfl
theorem ob_ge : OpB g .ge := ob_cmp (fun _ _ _ => rfl) (fun _ => rfl) (fun d _ => by cases d <;> rfl) fun d e _ _ _ => by cases d <;> cases e <;> rfl
theorem ob_two {o : Op} (h0 : ∀ h, opApp g.sub o [] h = .no) (h1 : ∀ d h, opApp g.sub o [d] h = .no) (h3 : ∀ d e c ds h, opApp g.sub o (d :: e :: c :: ds) h = .no) (h2 : ∀ x y h d h', opApp g.sub o [x, y] h = .ok d h' → ∃ k, d = .bl k) : OpB g o := by
  intro ds h d h' e
  match ds with
  | [] => rw [h0] at e; cases e
  | [_] => rw [h1] at e; cases e
  | _ :: _ :: _ :: _ => rw [h3] at e; cases e
  | [x, y] => exact h2 x y h d h' e
theorem ob_eq : OpB g .eq := ob_two (fun _ => rfl) (fun d _ => by cases d <;> rfl) (fun d e _ _ _ => by cases d <;> cases e <;> rfl) fun x y h d h' e => by
  have e : (match eqD h x y with
    | some k => blR k h
    | none => .no) = .ok d h' := e
  split at e
  · cases e; exact ⟨_, rfl⟩
  · cases e
theorem ob_ne : OpB g .ne := ob_two (fun _ => rfl) (fun d _ => by cases d <;> rfl) (fun d e _ _ _ => by cases d <;> cases e <;> rfl) fun x y h d h' e => by
  have e : (match eqD h x y with
    | some k => blR (!k) h
    | none => .no) = .ok d h' := e
  split at e
  · cases e; exact ⟨_, rfl⟩
  · cases e
theorem ob_one {o : Op} (h0 : ∀ h, opApp g.sub o [] h = .no) (h2 : ∀ d e ds h, opApp g.sub o (d :: e :: ds) h = .no) (h1 : ∀ x h, ∃ k, opApp g.sub o [x] h = blR k h) : OpB g o := by
  intro ds h d h' e
  match ds with
  | [] => rw [h0] at e; cases e
  | _ :: _ :: _ => rw [h2] at e; cases e
  | [x] =>
    obtain ⟨k, hk⟩ := h1 x h
    rw [hk] at e
    cases e
    exact ⟨k, rfl⟩
theorem ob_isN : OpB g .isNone := ob_one (fun _ => rfl) (fun d _ _ _ => by cases d <;> rfl) fun x h => ⟨_, rfl⟩
theorem ob_notN : OpB g .notNone := ob_one (fun _ => rfl) (fun d _ _ _ => by cases d <;> rfl) fun x h => ⟨_, rfl⟩
theorem opIn_bl {h : Hh} {n : Bool} {x y d : D} {h' : Hh} (e : opIn h n x y = .ok d h') : ∃ k, d = .bl k := by
  unfold opIn at e
  repeat' split at e
  all_goals first | (cases e; done) | (cases e; exact ⟨_, rfl⟩)
theorem ob_in : OpB g .isIn := ob_two (fun _ => rfl) (fun d _ => by cases d <;> rfl) (fun d e _ _ _ => by cases d <;> cases e <;> rfl) fun x y h d h' e => opIn_bl (show opIn h false x y = .ok d h' from e)
theorem ob_notIn : OpB g .notIn := ob_two (fun _ => rfl) (fun d _ => by cases d <;> rfl) (fun d e _ _ _ => by cases d <;> cases e <;> rfl) fun x y h d h' e => opIn_bl (show opIn h true x y = .ok d h' from e)
end

/-! ### names of built-ins -/
theorem bt_len : bootBuiltins "len" = some (.builtin "len") := by decide +kernel
theorem bt_abs : bootBuiltins "abs" = some (.builtin "abs") := by decide +kernel
theorem bt_int : bootBuiltins "int" = some (.type "int") := by decide +kernel
theorem bt_str : bootBuiltins "str" = some (.type "str") := by decide +kernel
theorem bt_bool : bootBuiltins "bool" = some (.type "bool") := by decide +kernel
theorem bt_tuple : bootBuiltins "tuple" = some (.type "tuple") := by decide +kernel
theorem bt_list : bootBuiltins "list" = some (.type "list") := by decide +kernel
theorem bt_dict : bootBuiltins "dict" = some (.type "dict") := by decide +kernel
theorem bt_all : bootBuiltins "all" = some (.builtin "all") := by decide +kernel
theorem bt_any : bootBuiltins "any" = some (.builtin "any") := by decide +kernel
theorem bt_sum : bootBuiltins "sum" = some (.builtin "sum") := by decide +kernel
theorem bt_min : bootBuiltins "min" = some (.builtin "min") := by decide +kernel
theorem bt_max : bootBuiltins "max" = some (.builtin "max") := by decide +kernel
theorem bt_isinstance : bootBuiltins "isinstance" = some (.builtin "isinstance") := by decide +kernel
theorem bt_sorted : bootBuiltins "sorted" = some (.builtin "sorted") := by decide +kernel
theorem bt_range : bootBuiltins "range" = some (.type "range") := by decide +kernel

/-- what the head tells of a program: its defs' objects, its free names -/
structure Fx (K : PySem.W.Frag) (mg : Str → Option Value) (fa : Nat → Addr) (fd : Nat → FuncData) (nm : Nat → Str) (ps : Nat → List Str) (bl : List Str) (N : Nat) : Prop where
  g : ∀ i, i < N → mg (nm i) = some (.ref (fa i))
  k : ∀ i, i < N → PySem.W.keepIn K (.ref (fa i)) = true
  b : ∀ i, i < N → Binds K (fd i) (ps i) []
  m : ∀ (i : Nat) (x : Str), bl[i]? = some x → mg x = none
end Ivy

/-! Ivy, part P: enumerate over lists and tuples, tuple(range(..)). -/
namespace Ivy
open PySem PySem.Spec PyProof.Rows L2

/-! ### a tuple's iterator, drawn by another one -/
section
variable {P : Program} {w : World} {A : Around} {E : Value → Shared → Prop} {s : Shared}
theorem tit_next {J T : Addr} {i : Nat} {xs : Array Value} {u : Value} {Q : Value → Shared → Prop} (hit : s.heap.IsTupleIter J T i) (ht : s.heap.IsTuple T xs) (hx : xs[i]? = some u)
    (hQ : ∀ g, g.IsTupleIter J T (i + 1) → Heap.SameBut J s.heap g → Q u { s with heap := g }) : wpAny (model P w) A (Builtin.SmallTypes.nextOf (.ref J)) Q E s := by
  obtain ⟨o, z1, z2, z3⟩ := id hit
  obtain ⟨oT, y1, _, nT, y2⟩ := ht
  unfold Builtin.SmallTypes.nextOf
  refine wpAny_bind (wpAny_callSpecial?_slot (name := Str.ofString "__next__") hit.typeIs F.slot_tuple_iterator_next (wpAny_call_entry F.slot_tuple_iterator_next hit.typeIs F.entry_tuple_iterator_next ?_ (F.args_tuple_iterator_next_1 _)))
  show wpAny _ _ (field (.ref J) 0 >>= _) _ _ s
  refine wpAny_bind (wpAny_field z1 z3 (x := .ref T) rfl ?_)
  show wpAny _ _ (if (Value.ref T == Value.none) = true then _ else _) _ _ s
  rw [if_neg (show ¬ ((Value.ref T == Value.none) = true) from Bool.false_ne_true)]
  show wpAny _ _ (field (.ref J) 1 >>= _) _ _ s
  refine wpAny_bind (wpAny_field z1 z3 (x := .int i 0) rfl ?_)
  show wpAny _ _ (seqItems? (.ref T) >>= _) _ _ s
  refine wpAny_bind (wpAny_seqItems y1 y2 ?_)
  simp only [hx, Int.toNat_natCast]
  refine wpAny_bind (wpAny_setField z1 z3 (by simp) (wpAny_pure ⟨u, rfl, wpAny_pure (hQ _ ?_ (Heap.SameBut.update ..))⟩))
  exact ⟨_, Heap.get?_update_self _ z1 (Obj.isFreed_of_fields (Obj.data_mapFields z3 _)), (Obj.cls_mapFields ..).trans z2, by rw [Obj.data_mapFields z3]; simp [rawInt]⟩
theorem tit_end {J T : Addr} {i : Nat} {xs : Array Value} {Q : Value → Shared → Prop} (hh : A.handled = none) (hit : s.heap.IsTupleIter J T i) (ht : s.heap.IsTuple T xs) (hx : xs[i]? = none)
    (hE : ∀ g e, Heap.ExtBut J s.heap g → (∃ o, g.get? e = some o ∧ o.cls = .type "StopIteration") → E (.ref e) { s with heap := g }) : wpAny (model P w) A (Builtin.SmallTypes.nextOf (.ref J)) Q E s := by
  obtain ⟨o, z1, z2, z3⟩ := id hit
  obtain ⟨oT, y1, _, nT, y2⟩ := ht
  unfold Builtin.SmallTypes.nextOf
  refine wpAny_bind (wpAny_callSpecial?_slot (name := Str.ofString "__next__") hit.typeIs F.slot_tuple_iterator_next (wpAny_call_entry F.slot_tuple_iterator_next hit.typeIs F.entry_tuple_iterator_next ?_ (F.args_tuple_iterator_next_1 _)))
  show wpAny _ _ (field (.ref J) 0 >>= _) _ _ s
  refine wpAny_bind (wpAny_field z1 z3 (x := .ref T) rfl ?_)
  show wpAny _ _ (if (Value.ref T == Value.none) = true then _ else _) _ _ s
  rw [if_neg (show ¬ ((Value.ref T == Value.none) = true) from Bool.false_ne_true)]
  show wpAny _ _ (field (.ref J) 1 >>= _) _ _ s
  refine wpAny_bind (wpAny_field z1 z3 (x := .int i 0) rfl ?_)
  show wpAny _ _ (seqItems? (.ref T) >>= _) _ _ s
  refine wpAny_bind (wpAny_seqItems y1 y2 ?_)
  simp only [hx, Int.toNat_natCast]
  refine wpAny_bind (wpAny_rule (wpAny_bind (wpAny_setField z1 z3 (by simp) ?_)))
  show wpAny _ _ (newExc (.type "StopIteration") [] >>= _) _ _ _
  refine wpAny_bind ?_; simp only [newTuple, newExc]
  refine wpAny_bind (wpAny_newObj_type ?_ (by size_fits)); refine wpAny_bind (m := firstArgMember _ _) (wpAny_of_eq (a := Value.none) (by first | rfl | (simp only [firstArgMember]; rfl)) ?_)
  refine wpAny_newObj_type ?_ (by size_fits); simp only [raiseNew]
  refine wpAny_bind (wpAny_handled ?_); first | rw [show A.in1.handled = none from hh] | rw [hh]
  refine wpAny_bind (wpAny_pure (wpAny_throw ?_)); exact hE _ _ (((Heap.SameBut.update ..).extBut.push _).push _) ⟨_, Heap.get?_push_size _ rfl, rfl⟩
end
theorem draws_tup {P : Program} {w : World} {A : Around} (hh : A.handled = none) (J T : Addr) (hne : T ≠ J) (xs : Array Value) : Draws P w A J [J, T] xs.size (fun i u => xs[i]? = some u) (fun i h => h.IsTupleIter J T i ∧ h.IsTuple T xs) where
  live := fun _ _ ⟨⟨o, z, _⟩, _⟩ => ⟨o, z⟩
  frame := fun i h h' ⟨⟨o, z1, z2⟩, ⟨o2, z3, z4⟩⟩ k => ⟨⟨o, k J (by simp) o z1, z2⟩, ⟨o2, k T (by simp) o2 z3, z4⟩⟩
  item := fun i s Q E hi st hQ => tit_next st.1 st.2 (u := xs[i]) (by simp [hi]) fun g hit hs => hQ _ g s.toks (by simp [hi]) ⟨hit, st.2.extBut hs.extBut hne⟩ hs
  done := fun s Q E st hE => tit_end hh st.1 st.2 (by simp) hE
theorem enum_newT (T : Addr) (xs : Array Value) (n : Nat) (dd : Option Addr) (sl : Array (Option Value)) :
    Meets (Builtin.«enumerate.__new__» ⟨[.type "enumerate", .ref T], []⟩) (fun _ R s => s.heap.get? T = some ⟨.type "tuple", dd, .seq xs n, sl⟩ ∧
      R (.ok (.ret (.ref (s.heap.push { cls := .type "tuple_iterator", data := .fields #[.ref T, .int 0 0] }).objs.size)))
        { s with heap := (s.heap.push { cls := .type "tuple_iterator", data := .fields #[.ref T, .int 0 0] }).push { cls := .type "enumerate", data := .fields #[.none, .bool false, .ref s.heap.objs.size, rawInt 0, .none, .none] } }) :=
  .of_wp fun P w A R s z => by
    obtain ⟨hp, gs, d, tk, os⟩ := s; obtain ⟨hT, z⟩ := z
    have sub := sub_enumerate
    have isT : Heap.IsTuple (Shared.heap ⟨hp, gs, d, tk, os⟩) T xs := ⟨_, hT, rfl, n, rfl⟩
    wp_walk using AutoSeq1.wpAny_loadPart' hT
    refine wpAny_stack_any fun st => wpAny_pure ?_
    split
    · rename_i c _ _ _ _ _
      cases (c == Value.type "enumerate")
      · wp_walk using AutoSeq1.wpAny_loadPart' hT, wpAny_pyIter_tuple isT
        exact ⟨_, rfl, z⟩
      · wp_walk using AutoSeq1.wpAny_loadPart' hT, wpAny_pyIter_tuple isT
        exact ⟨_, rfl, z⟩
    · wp_walk using AutoSeq1.wpAny_loadPart' hT, wpAny_pyIter_tuple isT
      exact ⟨_, rfl, z⟩
theorem call_enumT {P : Program} {w : World} {A : Around} {E : Value → Shared → Prop} {s : Shared} {T : Addr} {xs : Array Value} {Q : Value → Shared → Prop} (hT : s.heap.IsTuple T xs)
    (q : ∀ g, IsEnum g (s.heap.objs.size + 1) s.heap.objs.size 0 .none → g.IsTupleIter s.heap.objs.size T 0 → g.objs.size = s.heap.objs.size + 2 → (∀ b o, s.heap.get? b = some o → g.get? b = some o) → Q (.ref (s.heap.objs.size + 1)) { s with heap := g }) :
    wpAny (model P w) A (call (.type "enumerate") [.ref T]) Q E s := by
  obtain ⟨⟨cc, dd, dt, sl⟩, z1, z2, n, z3⟩ := hT
  have z2 : cc = .type "tuple" := z2
  have z3 : dt = .seq xs n := z3
  subst z2 z3
  refine callType_new F.called_enumerate (by decide) (F.typeCall_enumerate_1 _) (F.newCall_enumerate_1 _) (fun ob => F.args_object_init_2 ob _) F.entry_enumerate_new (enum_newT T xs n dd sl) ⟨z1, ?_⟩
  have sz : (s.heap.push { cls := .type "tuple_iterator", data := .fields #[.ref T, .int 0 0] }).objs.size = s.heap.objs.size + 1 := Heap.size_push ..
  show _ ∧ _
  rw [sz]
  have en : IsEnum ((s.heap.push { cls := .type "tuple_iterator", data := .fields #[.ref T, .int 0 0] }).push { cls := .type "enumerate", data := .fields #[.none, .bool false, .ref s.heap.objs.size, rawInt 0, .none, .none] }) (s.heap.objs.size + 1) s.heap.objs.size 0 .none := by
    have z := Heap.get?_push_size (s.heap.push { cls := .type "tuple_iterator", data := .fields #[.ref T, .int 0 0] }) (o := { cls := .type "enumerate", data := .fields #[.none, .bool false, .ref s.heap.objs.size, rawInt 0, .none, .none] }) rfl
    rw [sz] at z; exact z
  exact ⟨⟨_, en, rfl⟩, q _ en ⟨_, Heap.get?_push_of_some _ (Heap.get?_push_size _ rfl), rfl, rfl⟩ (by rw [Heap.size_push, sz]) fun b o z => Heap.get?_push_of_some _ (Heap.get?_push_of_some _ z)⟩
/-- pairs of places and a tuple's items -/
def IteT (K : PySem.W.Frag) (a : Addr) : L2.It :=
  ⟨fun i H => ∃ xs x, SqT K H a xs ∧ xs[i]? = some x, fun i H v H' => ∃ T x, v = .ref T ∧ H T = none ∧ H' = upd H T (.tup [.int (i : Nat), x]) ∧ ∀ xs, SqT K H a xs → xs[i]? = some x, fun i H => ∃ xs, SqT K H a xs ∧ xs.length = i⟩
theorem enum_ne {h : Heap} {e it T : Addr} {i : Int} {old : Value} {xs : Array Value} (he : IsEnum h e it i old) (hT : h.IsTuple T xs) : e ≠ T := fun z => by
  subst z
  obtain ⟨o, z1, _, n, z2⟩ := hT
  have he : h.get? e = _ := he
  rw [he] at z1
  cases z1
  cases z2
theorem tit_ne {h : Heap} {it T : Addr} {i : Nat} {xs : Array Value} (hi : h.IsTupleIter it T i) (hT : h.IsTuple T xs) : T ≠ it := fun z => by
  subst z
  obtain ⟨o, z1, _, n, z2⟩ := hT
  obtain ⟨o', z3, _, z4⟩ := hi
  rw [z1] at z3
  cases z3
  rw [z2] at z4
  cases z4
theorem turn_enumT {P : Program} {w : World} {K : PySem.W.Frag} {elts : List Expr} {kk : Nat} {tpos : Pos} (a e it : Addr) :
    Turn P w K (.Tuple elts kk tpos) (IteT K a) [e, it] e (fun i h => (∃ old, IsEnum h e it ((i : Nat) : Int) old) ∧ h.IsTupleIter it a i ∧ e ≠ it) where
  mem := List.mem_cons_self ..
  obj := fun i h st b hb => by
    obtain ⟨⟨old, he⟩, ⟨o, ho, _, hd⟩, _⟩ := st
    rcases List.mem_cons.mp hb with z | z
    · exact z ▸ ⟨_, he, fun v q => nomatch q⟩
    · rw [List.mem_singleton.mp z]; exact ⟨o, ho, fun v q => by rw [hd] at q; cases q⟩
  keep := fun i h h' ⟨⟨old, he⟩, ⟨o, ho, hi⟩, hne⟩ k => ⟨⟨old, k e (by simp) _ he⟩, ⟨o, k it (by simp) o ho, hi⟩, hne⟩
  item := by
    intro X h1 h2 h3 hc i pins s σ H E I hf st hg
    subst h1 h2 h3
    obtain ⟨⟨old, he⟩, hit, hne⟩ := st
    obtain ⟨xs, x, hq, hx⟩ := hg
    obtain ⟨its, rv, pt, hz⟩ := I.tuple hq
    have pt : s.heap.IsTuple a its.toArray := pt
    obtain ⟨u, hu, ru⟩ := rv.get hx
    have eL : e < s.heap.objs.size := Heap.lt_size he
    have iL : it < s.heap.objs.size := by obtain ⟨_, q, _⟩ := hit; exact Heap.lt_size q
    have lt : i < its.toArray.size := by
      have := (List.getElem?_eq_some_iff.mp hu).1
      simpa using this
    refine wpAny_pyNext_enum_itemD (draws_tup (A := X.A.in1) (I.ok.hd hc) it a (tit_ne hit pt) its.toArray) he ⟨hit, pt⟩ lt hne (fun z => by
      rcases List.mem_cons.mp z with z | z
      · exact hne z
      · exact enum_ne he pt (List.mem_singleton.mp z)) fun y g tk hy ho st' hT hsz hk => ?_
    have hy : its.toArray[i]? = some y := hy
    have ey : y = u := by
      rw [List.getElem?_toArray, hu] at hy
      exact (Option.some.inj hy).symm
    subst ey
    refine ⟨_, rfl, wpAny_letOwnedTupleGo_enum (s := { s with heap := g, toks := tk + 1 }) ho fun g2 he2 sb => ?_⟩
    have hT2 : g2.get? s.heap.objs.size = some { cls := .type "tuple", data := .seq #[.int i tk, y] } := (sb.2 _ (Nat.ne_of_gt eL)).trans hT
    have fresh : ObjOk X.prog X.w (upd H s.heap.objs.size (.tup [.int (i : Nat), x])) g2 s.heap.objs.size (.tup [.int (i : Nat), x]) :=
      ⟨by rw [sizeLine_eq]; simp, [.int i tk, y], .cons ⟨_, rfl⟩ (.cons ru .nil), ⟨_, hT2, rfl, _, rfl⟩⟩
    have I1 : Inv X pins σ (upd H s.heap.objs.size (.tup [.int (i : Nat), x])) { s with heap := g2, toks := tk + 1 } :=
      I.turnedNew (ch := [e, it]) (fun b ob hb q => (sb.2 b (fun z => hb (z ▸ List.mem_cons_self ..))).trans (hk b ob (fun z => hb (z ▸ List.mem_cons_self ..)) (fun z => hb (z ▸ List.mem_cons_of_mem _ (List.mem_cons_self ..))) q)) hf (Nat.le_refl _) fresh
    refine ⟨.ref s.heap.objs.size, _, I1, rfl, ⟨_, x, rfl, I.hok.fresh (Nat.le_refl _), rfl, fun ys hy => by rw [I.tuple_inj hy hq]; exact hx⟩, ⟨⟨y, ?_⟩, ?_, hne⟩, fun b hb => ?_⟩
    · have z : ((i + 1 : Nat) : Int) = (i : Int) + 1 := by omega
      rw [z]; exact he2
    · obtain ⟨⟨o, ho1, ho2⟩, _⟩ := st'
      exact ⟨o, (sb.2 it (Ne.symm hne)).trans ho1, ho2⟩
    · have bL : b < s.heap.objs.size := by
        rcases List.mem_cons.mp hb with z | z
        · rw [z]; exact eL
        · rw [List.mem_singleton.mp z]; exact iL
      rw [upd_ne (Nat.ne_of_lt bL)]
      exact (hf b hb).1
  done := by
    intro X h1 h2 h3 hc i pins s σ H E I hf st hg
    subst h1 h2 h3
    obtain ⟨⟨old, he⟩, hit, hne⟩ := st
    obtain ⟨xs, hq, hx⟩ := hg
    obtain ⟨its, rv, pt, hz⟩ := I.tuple hq
    have pt : s.heap.IsTuple a its.toArray := pt
    obtain ⟨f0, f1, f2, f3, f4, f5⟩ := hf it (by simp)
    have hl := rv.length
    have e : i = its.toArray.size := by simp; omega
    subst e
    exact wpAny_pyNext_enum_endD (draws_tup (A := X.A.in1) (I.ok.hd hc) it a (tit_ne hit pt) its.toArray) he ⟨hit, pt⟩ fun g eb => ⟨rfl, I.turned (t' := s.toks) (fun b o hb q => eb b o hb q) f0 f1 f3 f4 f5⟩
  self := fun A i s Q E ⟨⟨_, he⟩, _⟩ h => wpAny_pyIter_enum he h
def iEnumT (K : PySem.W.Frag) (ta : TE) : TI := fun σ H R => ta σ H fun x H1 => ∃ a xs, x = .ref a ∧ SqT K H1 a xs ∧ R (IteT K a) H1
def iEnumL (K : PySem.W.Frag) (ta : TE) : TI := fun σ H R => ta σ H fun x H1 => ∃ a xs, x = .ref a ∧ SqL K H1 a xs ∧ R (Ite K a) H1
section
variable {X : Cx} {v : Ev} {g : G} {W : WX} {pos p p2 pos2 tpos : Pos} {a b : Expr} {e1 : Ex} {x y : Str} {elts es : List Expr} {kk : Nat} {fs : List Ex}
theorem pi_enumT {ta : TE} (hg : Gl X "enumerate") (hm : X.mg "enumerate" = none) (ha : PE X a ta) (hs : starEach [a] X.env = (false, eval a X.env) :: starEach [] X.env) : PI X (.Tuple elts kk tpos) (.Call (.Name "enumerate" p) [a] [] pos) (iEnumT X.K ta) := by
  refine ⟨fun pins s σ H R I h => ?_⟩
  refine Call_ (ld_blt I hg hm boot_enumerate (PyProof.Rows.callWith_type1 (thn ((pa_cons ha pa_nil hs).run pos pins s σ H (fun vs H1 => ∃ q xs, vs = [.ref q] ∧ SqT X.K H1 q xs ∧ R (IteT X.K q) H1) I (?_ : tCons ta tNil σ H _)) fun us s1 ⟨vs, H1, I1, r1, q1⟩ => ?_) hs rfl))
  · have e : (fun z H1 => tNil σ H1 fun xs H2 => (fun vs H1 => ∃ q xs, vs = [V.ref q] ∧ SqT X.K H1 q xs ∧ R (IteT X.K q) H1) (z :: xs) H2) = fun z H1 => ∃ q xs, z = V.ref q ∧ SqT X.K H1 q xs ∧ R (IteT X.K q) H1 := by
      funext z H1
      show (∃ q xs, [z] = [V.ref q] ∧ _) = _
      simp
    unfold tCons
    rw [e]
    exact h
  · obtain ⟨q, xs, ev, hq, z⟩ := q1
    subst ev
    cases r1 with
    | cons r rr =>
      cases rr
      cases r
      obtain ⟨its, rv, pt, hz⟩ := I1.tuple hq
      refine call_enumT (show s1.heap.IsTuple q its.toArray from pt) fun h' he hit hsz hk => wpAny_pyIter_enum he ?_
      have I2 : Inv X pins σ H1 { s1 with heap := h' } := I1.kept (t' := s1.toks) hk
      refine ⟨s1.heap.objs.size + 1, [s1.heap.objs.size + 1, s1.heap.objs.size], _, _, H1, rfl, I2, turn_enumT q (s1.heap.objs.size + 1) s1.heap.objs.size, ⟨⟨.none, he⟩, hit, Nat.succ_ne_self _⟩, fun b hb => ?_, z⟩
      have le : s1.heap.objs.size ≤ b := by
        rcases List.mem_cons.mp hb with z | z
        · rw [z]; exact Nat.le_add_right _ _
        · rw [List.mem_singleton.mp z]; exact Nat.le_refl _
      exact I1.fpOk le (I1.hok.fresh le)
theorem pi_enumL {ta : TE} (hg : Gl X "enumerate") (hm : X.mg "enumerate" = none) (ha : PE X a ta) (hs : starEach [a] X.env = (false, eval a X.env) :: starEach [] X.env) : PI X (.Tuple elts kk tpos) (.Call (.Name "enumerate" p) [a] [] pos) (iEnumL X.K ta) :=
  PI.imp (pi_enum hg hm (pa_cons ha pa_nil hs) (by rw [hs]; rfl)) fun σ H R h => by
    show tCons ta tNil σ H _
    have e : (fun z H1 => tNil σ H1 fun xs H2 => (fun vs H1 => ∃ q xs, vs = [V.ref q] ∧ SqL X.K H1 q xs ∧ R (Ite X.K q) H1) (z :: xs) H2) = fun z H1 => ∃ q xs, z = V.ref q ∧ SqL X.K H1 q xs ∧ R (Ite X.K q) H1 := by
      funext z H1
      show (∃ q xs, [z] = [V.ref q] ∧ _) = _
      simp
    unfold tCons
    rw [e]
    exact h
theorem enum_len : ∀ (ds : List D) (k : Nat), (enumL k ds).length = ds.length
  | [], _ => rfl
  | d :: ds, k => by
    show (enumL (k + 1) ds).length + 1 = ds.length + 1
    rw [enum_len]
theorem enum_at : ∀ (ds : List D) (k i : Nat) (d : D), ds[i]? = some d → (enumL k ds)[i]? = some (.tup [.int ((k + i : Nat) : Int), d])
  | [], _, _, _, e => by simp at e
  | c :: ds, k, 0, d, e => by simp at e; subst e; rfl
  | c :: ds, k, i + 1, d, e => by
    show (enumL (k + 1) ds)[i]? = _
    rw [enum_at ds (k + 1) i d (by simpa using e), Nat.add_right_comm, Nat.add_assoc]
theorem new_pair {ι : List Addr} {H : Hp} {h : Hh} {T : Addr} {i : Nat} {d : D} {x : V} (hr : HR v ι H h) (hT : H T = none) (r : RP v ι H d x) :
    Ext ι H ι (upd H T (.tup [.int (i : Int), x])) ∧ HR v ι (upd H T (.tup [.int (i : Int), x])) h ∧ RP v ι (upd H T (.tup [.int (i : Int), x])) (.tup [.int (i : Int), d]) (.ref T) :=
  ⟨ext_new hT, hr.new hT, .tup (SqT.of upd_same) (.cons (.int _) (.cons (r.mono (ext_new hT)) .nil))⟩
theorem src_enumT {ι : List Addr} {H : Hp} {q : Addr} {ds : List D} {vs : List V} {K : PySem.W.Frag} (hK : K = v.K) (h1 : SqT v.K H q vs) (h2 : RPs v ι H ds vs) : Src1 v ⟨enumL 0 ds, []⟩ (IteT K q) ι H := by
  subst hK
  refine ⟨fun ι' H' h' i e _ _ hi => ?_, fun ι' H' h' e _ _ => ⟨vs, e.sqT h1, by rw [enum_len]; exact h2.length.symm⟩, fun ι' H' h' i x H'' e hr _ hi y => ?_⟩
  · have hi : i < (enumL 0 ds).length := hi
    rw [enum_len, h2.length] at hi
    exact ⟨vs, vs[i], e.sqT h1, List.getElem?_eq_getElem hi⟩
  · have hi : i < (enumL 0 ds).length := hi
    rw [enum_len] at hi
    obtain ⟨T, z, rfl, hT, rfl, hz⟩ := y
    have hx := hz vs (e.sqT h1)
    obtain ⟨z', hz', r⟩ := h2.get (List.getElem?_eq_getElem hi)
    rw [hx] at hz'; cases hz'
    obtain ⟨n1, n2, n3⟩ := new_pair (i := i) hr hT (r.mono e)
    refine ⟨n1, n2, _, enum_at ds 0 i ds[i] (List.getElem?_eq_getElem hi), ?_⟩
    rw [Nat.zero_add]; exact n3
theorem src_enumL {ι : List Addr} {H : Hp} {q : Addr} {ds : List D} {gd : List (Nat × C)} {K : PySem.W.Frag} (hK : K = v.K) (k : ∀ ι' H' h', Ext ι H ι' H' → HR v ι' H' h' → gdOk h' gd = true → ∃ vs, SqL v.K H' q vs ∧ RPs v ι' H' ds vs) : Src1 v ⟨enumL 0 ds, gd⟩ (Ite K q) ι H := by
  subst hK
  refine ⟨fun ι' H' h' i e hr hg hi => ?_, fun ι' H' h' e hr hg => ?_, fun ι' H' h' i x H'' e hr hg hi y => ?_⟩
  · obtain ⟨vs, h1, h2⟩ := k ι' H' h' e hr hg
    have hi : i < (enumL 0 ds).length := hi
    rw [enum_len, h2.length] at hi
    exact ⟨vs, vs[i], h1, List.getElem?_eq_getElem hi⟩
  · obtain ⟨vs, h1, h2⟩ := k ι' H' h' e hr hg
    exact ⟨vs, h1, by rw [enum_len]; exact Nat.le_of_eq h2.length.symm⟩
  · obtain ⟨vs, h1, h2⟩ := k ι' H' h' e hr hg
    have hi : i < (enumL 0 ds).length := hi
    rw [enum_len] at hi
    obtain ⟨T, z, rfl, hT, rfl, hz⟩ := y
    have hx := hz vs h1
    obtain ⟨z', hz', r⟩ := h2.get (List.getElem?_eq_getElem hi)
    rw [hx] at hz'; cases hz'
    obtain ⟨n1, n2, n3⟩ := new_pair (i := i) hr hT r
    refine ⟨n1, n2, _, enum_at ds 0 i ds[i] (List.getElem?_eq_getElem hi), ?_⟩
    rw [Nat.zero_add]; exact n3
theorem i_enum (hb : Cb X v W) (hx : x = "enumerate") (hg : Gl X x) (hm : X.mg x = none) (ha : PE X a (tE v g W e1)) (hs : starEach [a] X.env = (false, eval a X.env) :: starEach [] X.env := by rfl) : PI X (.Tuple elts kk tpos) (.Call (.Name x p) [a] [] pos) (tI v g W (.enum e1)) := by
  subst hx
  refine PI.imp (PI.or (pi_enumT hg hm ha hs) (pi_enumL hg hm ha hs)) fun σ H R ⟨ι, δ, h, hr, hs, go⟩ => ?_
  have e : evI g (.enum e1) δ h = (evE g e1 δ h).bind fun x h => match srcT h x with
    | some s => .ok ⟨enumL 0 s.ds, s.gd⟩ h
    | none => .no := by simp only [evI] <;> rfl
  rw [e] at go
  by_cases t1 : ∃ ds h', evE g e1 δ h = .ok (.tup ds) h'
  · obtain ⟨ds, h', q⟩ := t1
    refine .inl ⟨ι, δ, h, hr, hs, Go.bind (SS := rrE v) go fun d h1 ι1 H1 x r1 ex1 hr1 rx1 go1 => ?_⟩
    rw [q] at r1; cases r1
    obtain ⟨p, vs, rfl, s1, s2⟩ := rv_tup rx1
    exact ⟨p, vs, rfl, by rw [hb.hK]; exact s1, Go.here (RR := rrI v) (show Go (rrI v) v ι1 H1 (.ok ⟨enumL 0 ds, []⟩ _) R _ from go1) hr1 (src_enumT hb.hK s1 s2)⟩
  · refine .inr ⟨ι, δ, h, hr, hs, Go.bind (SS := rrE v) go fun d h1 ι1 H1 x r1 ex1 hr1 rx1 go1 => ?_⟩
    have e2 : srcT h1 d = srcL h1 d := by
      cases d with
      | tup ds => exact absurd ⟨_, _, r1⟩ t1
      | _ => rfl
    rw [e2] at go1
    rw [hb.hK]
    cases q : srcL h1 d with
    | none => rw [q] at go1; exact go1.elim
    | some s =>
      rw [q] at go1
      have go1 : Go (rrI v) v ι1 H1 (.ok ⟨enumL 0 s.ds, s.gd⟩ h1) R _ := go1
      unfold srcL at q
      split at q
      · cases q
        obtain ⟨p, vs, rfl, h2, h3, h4⟩ := (show RV v ι1 H1 (.lst _) x from rx1.1)
        exact ⟨p, vs, rfl, SqL.of h3, Go.here (RR := rrI v) go1 hr1 (src_enumL rfl fun ι' H' h' ex _ _ => ⟨vs, SqL.of (ex.fix p _ h3 fun z => absurd z h2), h4.mono ex⟩)⟩
      · cases q
        cases (show RP v ι1 H1 (.rol _) x from rx1.1) with
        | rol h2 h3 => exact ⟨_, _, rfl, h2.sq, Go.here (RR := rrI v) go1 hr1 (src_enumL rfl fun ι' H' h' ex _ _ => ⟨_, (ex.roL h2).sq, h3.mono ex⟩)⟩
      · rename_i n
        obtain ⟨p, rfl, hp⟩ := rv_ref rx1
        split at q
        · rename_i xs eq
          cases q
          obtain ⟨vs, h2, h3⟩ := (show CR v ι1 H1 p (.lst _) from hr1.cell n p _ hp eq)
          refine ⟨p, vs, rfl, SqL.of h2, Go.here (RR := rrI v) go1 hr1 (src_enumL rfl fun ι' H' h' ex hr' hg => ?_)⟩
          have z := gd_at hg (List.mem_cons_self ..)
          obtain ⟨vs', h4, h5⟩ := (show CR v ι' H' p (.lst _) from hr'.cell n p _ (ex.at hp) z)
          exact ⟨vs', SqL.of h4, h5⟩
        · cases q
      · cases q
end
end Ivy

/-! Ivy, part Q: tuple(range(..)) of any size. -/
namespace Ivy
open PySem PySem.Spec PyProof.Rows L2
section
variable {P : Program} {w : World} {A : Around} {E : Value → Shared → Prop} {s : Shared} {r : Addr} {a b c : Int} {t u v : Tok} {n : Nat}
theorem long_extend {R : Result → Shared → Prop} (hh : A.handled = none) (hr : IsRange s.heap r a b c t u v) (big : Builtin.Range.small a b c = false) (hn : Builtin.Range.rangeSize a b c = n) (hlen : n ≤ 2 ^ 24) (S : Addr) (res : Value) (k0 : Nat)
    (hS : s.heap.get? S = some { cls := .type "list", data := .seq #[] k0 })
    (hR : ∀ g tk acc k, (∀ p o, p ≠ S → s.heap.get? p = some o → g.get? p = some o) → g.get? S = some { cls := .type "list", dict := none, data := .seq acc k, slots := #[] } → ItemsOf (fun i z => ∃ t, z = .int (a + i * c) t) acc n → R (.ok (.ret res)) { s with heap := g, toks := tk }) :
    wpAny (model P w) A.in1 (Builtin.List.listExtendWith (.ref S) (.ref r) res) (fun fin s2 => match fin with | .done f => R (.ok f) s2 | .again k => k.quiet = true ∧ codeAny (model P w) A k R s2) (fun e s2 => R (.error e) s2) s := by
  have nSr : S ≠ r := fun e => by rw [e, hr] at hS; simp at hS
  have ltS : S < s.heap.objs.size := Heap.lt_size hS
  have nSI : S ≠ s.heap.objs.size := Nat.ne_of_lt ltS
  have nSf : S ∉ [s.heap.objs.size] := fun hm => nSI (List.mem_singleton.mp hm)
  have W := (Walks.longrange (prog := P) (w := w) (A := A.in1) hh s.heap.objs.size a c n).toS
  have loop : ∀ (g : Heap) (k1 tk : Nat), IsLongIter g s.heap.objs.size (a + ((0 : Nat) : Int) * c) ((n : Int) - ((0 : Nat) : Int)) c → (∀ p o, p ≠ S → s.heap.get? p = some o → g.get? p = some o) → g.get? S = some { cls := .type "list", data := .seq #[] k1 } →
      codeAny (model P w) A (.builtin "list.extend.loop" ⟨[.ref S, .ref s.heap.objs.size, res], []⟩) R { s with heap := g, toks := tk } := by
    intro g k1 tk hit hk hS1
    refine codeAny_extend_loopS W (by rw [sizeLine_eq]; omega) S nSf res n 0 _ #[] k1 rfl (Nat.zero_le _) hit hS1 (ItemsOf.nil _) fun s2 acc k2 hm hS2 hacc => ?_
    rw [Moved.eq_with hm]
    refine hR s2.heap s2.toks acc k2 (fun p o hp e => hm.heap p o (fun mem => ?_) (hk p o hp e)) hS2 hacc
    rcases List.mem_cons.mp mem with z | mem
    · exact hp z
    · exact absurd (Heap.lt_size e) (by rw [List.mem_singleton.mp mem]; exact Nat.lt_irrefl _)
  unfold Builtin.List.listExtendWith
  refine wpAny_bind (wpAny_typeOf (T := "range") ⟨_, hr, rfl⟩ ?_)
  have q1 : Builtin.List.listSameRef (.ref S) (.ref r) = false := by simp [Builtin.List.listSameRef, nSr]
  have q2 : (Value.type "range" == Value.type "list") = false := by decide
  have q3 : (Value.type "range" == Value.type "tuple") = false := by decide
  simp only [q1, q2, q3, Bool.or_false, Bool.false_eq_true, if_false]
  refine wpAny_bind (wpAny_pyIter_longrange hr big ?_)
  refine wpAny_bind (wpAny_holding (wpAny_hint_range (n := n) (Heap.get?_push_of_some _ hr) hn hlen ?_))
  have it1 : IsLongIter (s.heap.push { cls := .type "longrange_iterator", data := .fields #[rawInt a, rawInt (Builtin.Range.rangeSize a b c), rawInt c] }) s.heap.objs.size (a + ((0 : Nat) : Int) * c) ((n : Int) - ((0 : Nat) : Int)) c := by
    show IsLongIter _ _ _ _ _
    rw [hn]
    simpa using Heap.get?_push_size _ rfl
  have S1 := Heap.get?_push_of_some { cls := .type "longrange_iterator", data := .fields #[rawInt a, rawInt (Builtin.Range.rangeSize a b c), rawInt c] } hS
  refine wpAny_ite_split (fun _ => ?_) (fun _ => wpAny_pure ⟨plainId_quiet F.plain_extend_loop _, loop _ k0 _ it1 (fun p o _ e => Heap.get?_push_of_some _ e) S1⟩)
  refine wpAny_bind (wpAny_rule ?_)
  refine wpAny_bind ?_
  show wpAny _ _ (updateSeq S (·.push .none) >>= fun _ => updateSeq S (·.pop)) _ _ _
  refine wpAny_bind (wpAny_updateSeq S1 rfl ?_)
  have S2 := Heap.get?_update_self (Obj.mapSeq (·.push Value.none)) S1 rfl
  refine wpAny_updateSeq (hz := by seq_fits) S2 rfl ?_
  have S3 := Heap.get?_update_self (Obj.mapSeq (·.pop)) S2 rfl
  refine wpAny_pure ⟨plainId_quiet F.plain_extend_loop _, loop _ _ _ ?_ (fun p o hp e => ?_) S3⟩
  · exact (Heap.get?_update_other _ _ nSI).trans ((Heap.get?_update_other _ _ nSI).trans it1)
  · exact (Heap.get?_update_other _ _ (Ne.symm hp)).trans ((Heap.get?_update_other _ _ (Ne.symm hp)).trans (Heap.get?_push_of_some _ e))
theorem long_collect {Q : List Value → Shared → Prop} (hh : A.handled = none) (hr : IsRange s.heap r a b c t u v) (big : Builtin.Range.small a b c = false) (hn : Builtin.Range.rangeSize a b c = n) (hlen : n ≤ 2 ^ 24)
    (hQ : ∀ (g : Heap) (tk : Nat) (acc : Array Value), (∀ p o, s.heap.get? p = some o → g.get? p = some o) → ItemsOf (fun i z => ∃ t, z = .int (a + i * c) t) acc n → Q acc.toList { s with heap := g, toks := tk }) : wpAny (model P w) A (collect (.ref r)) Q E s := by
  unfold collect
  refine wpAny_bind (wpAny_runValue (codeAny_builtin F.entry_proto_collect ?_)); rw [Around.under_plainId F.plain_proto_collect _]
  show wpAny _ A.in1 (newList [] >>= fun l => again (.builtin "list.__iadd__" ⟨[l, .ref r], []⟩)) _ _ s
  refine wpAny_bind (wpAny_newObj_type ?_); refine wpAny_pure ⟨plainId_quiet F.plain_list_iadd _, codeAny_builtin F.entry_list_iadd ?_⟩
  rw [Around.under_plainId F.plain_list_iadd _]
  show wpAny _ A.in1 (Builtin.List.listExtendWith (.ref s.heap.objs.size) (.ref r) (.ref s.heap.objs.size)) _ _ _
  have S0 : (s.heap.push { cls := .type "list", data := .seq ([] : List Value).toArray }).get? s.heap.objs.size = some { cls := .type "list", data := .seq #[] 0 } := Heap.get?_push_size _ rfl
  refine wpAny_mono (long_extend (A := A) (R := fun rr s2 => rr = .ok (.ret (.ref s.heap.objs.size)) ∧ ∃ (g : Heap) (tk : Nat) (acc : Array Value) (k : Nat), s2 = { s with heap := g, toks := tk } ∧ (∀ p o, s.heap.get? p = some o → g.get? p = some o) ∧
        g.get? s.heap.objs.size = some { cls := .type "list", dict := none, data := .seq acc k, slots := #[] } ∧ ItemsOf (fun i z => ∃ t, z = .int (a + i * c) t) acc n)
      (s := { s with heap := s.heap.push { cls := .type "list", data := .seq ([] : List Value).toArray } }) hh (Heap.get?_push_of_some _ hr) big hn hlen _ _ 0 S0
      (fun g tk acc k hk e hi => ⟨rfl, g, tk, acc, k, rfl, fun p o q => hk p o (Nat.ne_of_lt (Heap.lt_size q)) (Heap.get?_push_of_some _ q), e, hi⟩)) (fun fin s2 z => ?_) (fun e s2 z => ?_)
  · cases fin with
    | done f =>
      obtain ⟨e, g, tk, acc, k, rfl, hk, z2, hi⟩ := z
      cases e
      show wpAny _ A (load s.heap.objs.size >>= _) _ _ _
      exact wpAny_bind (wpAny_load z2 (wpAny_pure (hQ g tk acc hk hi)))
    | again k0 =>
      refine ⟨z.1, codeAny_mono z.2 fun rr s3 zz => ?_⟩
      obtain ⟨rfl, g, tk, acc, k, rfl, hk, z2, hi⟩ := zz
      show wpAny _ A (load s.heap.objs.size >>= _) _ _ _
      exact wpAny_bind (wpAny_load z2 (wpAny_pure (hQ g tk acc hk hi)))
  · exact absurd z.1 (by simp)
theorem long_tuple {Q : Value → Shared → Prop} (hh : A.handled = none) (hr : IsRange s.heap r a b c t u v) (big : Builtin.Range.small a b c = false) (hn : Builtin.Range.rangeSize a b c = n) (hlen : n ≤ 2 ^ 24)
    (hQ : ∀ (g : Heap) (tk : Nat) (acc : Array Value), (∀ p o, s.heap.get? p = some o → g.get? p = some o) → ItemsOf (fun i z => ∃ t, z = .int (a + i * c) t) acc n → Q (.ref g.objs.size) { s with heap := g.push { cls := .type "tuple", data := .seq acc }, toks := tk }) :
    wpAny (model P w) A (call (.type "tuple") [.ref r]) Q E s := by
  have new : codeAny (model P w) A.in1 (.call (.builtin "tuple.__new__") ⟨[.type "tuple", .ref r], []⟩) (wants (fun ob s₁ => s₁.TypeIs ob "tuple" ∧ Q ob s₁) E) s := by
    refine codeAny_of_tree ?_
    show wpAny _ A.in1.in1 (do checkBuiltinCall "tuple.__new__" ⟨[.type "tuple", .ref r], []⟩; again (.builtin "tuple.__new__" ⟨[.type "tuple", .ref r], []⟩)) _ _ s
    refine wpAny_bind (wpAny_of_eq (F.newCall_tuple_1 _) (wpAny_pure ⟨plainId_quiet F.plain_tuple_new _, codeAny_builtin F.entry_tuple_new ?_⟩))
    rw [Around.under_plainId F.plain_tuple_new _]
    have k1 := sub_tuple_self
    have k2 := init_tuple_lookup
    have k3 := madeHere_tuple
    have ty : s.TypeIs (.ref r) "range" := ⟨_, hr, rfl⟩
    have h1 : A.in1.in1.handled = none := hh
    wp_walk using wpAny_typeOf ty, long_collect (A := A.in1.in1) h1 hr big hn hlen
    intro g tk acc hk hacc
    show wpAny _ _ (Builtin.Tuple.tupleExact acc.toList.toArray >>= fun z => ret z) _ _ _
    unfold Builtin.Tuple.tupleExact
    refine wpAny_bind (wpAny_newObj_type ?_ (by show acc.toList.toArray.size ≤ sizeLine; simp only [Array.toArray_toList]; rw [hacc.1, sizeLine_eq]; omega)); refine wpAny_pure ?_
    have e : acc.toList.toArray = acc := by simp
    rw [e]
    exact ⟨⟨_, Heap.get?_push_size _ rfl, rfl⟩, hQ g tk acc hk hacc⟩
  refine callType_codes (Q₁ := fun ob s₁ => s₁.TypeIs ob "tuple" ∧ Q ob s₁) F.called_tuple (F.typeCall_tuple_1 _) F.entry_object_init new fun ob s₁ z => ?_
  exact ⟨z.1, F.args_object_init_2 ob _, object_init_meets F.called_tuple.init.lookup F.called_tuple.made (by decide) P w A.in1 _ s₁ ⟨z.1, rfl, z.2⟩⟩
theorem any_tuple {Q : Value → Shared → Prop} (hh : A.handled = none) (hr : IsRange s.heap r a b c t u v) (hn : Builtin.Range.rangeSize a b c = n) (hlen : n ≤ 2 ^ 24)
    (hQ : ∀ (g : Heap) (tk : Nat) (acc : Array Value), (∀ p o, s.heap.get? p = some o → g.get? p = some o) → ItemsOf (fun i z => ∃ t, z = .int (a + i * c) t) acc n → Q (.ref g.objs.size) { s with heap := g.push { cls := .type "tuple", data := .seq acc }, toks := tk }) :
    wpAny (model P w) A (call (.type "tuple") [.ref r]) Q E s := by
  cases sm : Builtin.Range.small a b c with
  | true => exact L2.call_tuple_range hh hr sm hn hlen hQ
  | false => exact long_tuple hh hr sm hn hlen hQ
end
section
variable {X : Cx} {v : Ev} {g : G} {W : WX} {pos p p2 pos2 : Pos} {a b : Expr} {e1 : Ex} {x y : Str} {es : List Expr} {fs : List Ex}
/-- the items of a range -/
def rgA (lo c : Int) (n : Nat) : List V := (List.range n).map fun (k : Nat) => V.int (lo + (k : Int) * c)
theorem rg_vals {lo c : Int} {n : Nat} {acc : Array Value} (h : ItemsOf (fun i z => ∃ t, z = .int (lo + i * c) t) acc n) : Vals (rgA lo c n) acc.toList := by
  have e : acc.toList.length = n := by rw [Array.length_toList]; exact h.1
  unfold rgA
  rw [← e]
  refine vals_of_get acc.toList _ fun j u hj => ?_
  obtain ⟨t, rfl⟩ := h.2 j u (by rw [← hj, Array.getElem?_toList])
  exact ⟨t, rfl⟩
/-- three readings of range's arguments, then a new tuple -/
def tTupA (ta : TA) : TE := fun σ H Q => ta σ H fun vs H1 => ∃ lo hi c, (vs = [.int hi] ∧ lo = 0 ∧ c = 1 ∨ (vs = [.int lo, .int hi] ∧ c = 1 ∨ vs = [.int lo, .int hi, .int c] ∧ c ≠ 0 ∧ c.natAbs.log2 < 9000)) ∧ rangeN lo hi c ≤ 2 ^ 24 ∧ ∀ q, H1 q = none → Q (.ref q) (upd H1 q (.tup (rgA lo c (rangeN lo hi c))))
theorem pe_tupA {ta : TA} (hc : X.calm = true) (hg : Gl X "tuple") (hm : X.mg "tuple" = none) (hg2 : Gl X "range") (hm2 : X.mg "range" = none) (ha : PA X (a :: es) ta) (hs : starEach (a :: es) X.env = (false, eval a X.env) :: starEach es X.env) (hpl : (backTo pos2 (starEach es X.env)).any (·.1) = false)
    (na : starEach [.Call (.Name "range" p2) (a :: es) [] pos2] X.env = (false, eval (.Call (.Name "range" p2) (a :: es) [] pos2) X.env) :: starEach [] X.env) :
    PE X (.Call (.Name "tuple" p) [.Call (.Name "range" p2) (a :: es) [] pos2] [] pos) (tTupA ta) := by
  refine ⟨fun pins s σ H Q I h => ?_⟩
  have fin : ∀ {s1 : Shared} {H1 : Hp} {lo hi c : Int} {t u w : Tok} {tk : Nat} (I1 : Inv X pins σ H1 s1), rangeN lo hi c ≤ 2 ^ 24 → (∀ q, H1 q = none → Q (.ref q) (upd H1 q (.tup (rgA lo c (rangeN lo hi c))))) →
      wpAny (model X.prog X.w) X.A (call (.type "tuple") [.ref s1.heap.objs.size]) (EP X pins σ Q) X.xe { s1 with heap := s1.heap.push { cls := .type "range", data := .fields #[.int lo t, .int hi u, .int c w] }, toks := tk } := fun {s1 H1 lo hi c t u w tk} I1 hl q => by
    have I2 : Inv X pins σ H1 { s1 with heap := s1.heap.push { cls := .type "range", data := .fields #[.int lo t, .int hi u, .int c w] }, toks := tk } := I1.kept fun b o e => Heap.get?_push_of_some _ e
    refine any_tuple (I1.ok.hd hc) (IsRange.new ..) (rangeN_eq lo hi c) hl fun h' tk2 acc hk hi2 => ?_
    have I3 : Inv X pins σ H1 { s1 with heap := h', toks := tk2 } := I1.kept fun b o e => hk b o (Heap.get?_push_of_some _ e)
    refine ⟨.ref h'.objs.size, upd H1 h'.objs.size (.tup (rgA lo c (rangeN lo hi c))), I3.laid (t' := tk2) (fun b o e => Heap.get?_push_of_some _ e) (Nat.le_refl _) (show ObjOk X.prog X.w _ _ _ (.tup _) from ⟨?_, acc.toList, rg_vals hi2, ?_⟩), rfl, q _ (I3.hok.fresh (Nat.le_refl _))⟩
    · rw [rgA, List.length_map, List.length_range, sizeLine_eq]; omega
    · rw [Array.toArray_toList]; exact IsTup.new _ _
  refine Call_ (ld_blt I hg hm boot_tuple (PyProof.Rows.callWith_type1 (args_cons ?_ na) na))
  refine Call_ (ld_blt I hg2 hm2 boot_range (PyProof.Rows.callWith_type1 (thn (ha.run pos2 pins s σ H _ I h) fun us s1 ⟨vs, H1, I1, r1, q1⟩ => ?_) hs hpl))
  obtain ⟨lo, hi, c, q1, hl, q⟩ := q1
  rcases q1 with ⟨rfl, rfl, rfl⟩ | ⟨rfl, rfl⟩ | ⟨rfl, c0, c1⟩
  · cases r1 with
    | cons r rr =>
      cases rr
      obtain ⟨t, rfl⟩ := r
      exact call_range_1 (args_nil (fin I1 hl q))
  · cases r1 with
    | cons r rr =>
    cases rr with
    | cons r' rr =>
      cases rr
      obtain ⟨t, rfl⟩ := r
      obtain ⟨t', rfl⟩ := r'
      exact call_range_2 (args_nil (fin I1 hl q))
  · cases r1 with
    | cons r rr =>
    cases rr with
    | cons r' rr =>
    cases rr with
    | cons r'' rr =>
      cases rr
      obtain ⟨t, rfl⟩ := r
      obtain ⟨t', rfl⟩ := r'
      obtain ⟨t'', rfl⟩ := r''
      exact call_range_3 c0 (args_nil (fin I1 hl q)) (.inl (PyProof.noPylong_of_log2 c1))
theorem rg_rps {ι : List Addr} {H : Hp} (lo c : Int) (n : Nat) : RPs v ι H (rangeL lo n c) (rgA lo c n) := by
  unfold rangeL rgA
  induction (List.range n) with
  | nil => exact .nil
  | cons k ks ih => exact .cons (.int _) ih
theorem e_tupRng (hc : Cc X v W) (hg : Gl X x) (hm : X.mg x = none) (hg2 : Gl X y) (hm2 : X.mg y = none) (ha : PA X (a :: es) (tL v g W fs)) (hx : x = "tuple" := by rfl) (hy : y = "range" := by rfl) (hs : starEach (a :: es) X.env = (false, eval a X.env) :: starEach es X.env := by rfl) (hpl : (backTo pos2 (starEach es X.env)).any (·.1) = false := by rfl)
    (na : starEach [.Call (.Name y p2) (a :: es) [] pos2] X.env = (false, eval (.Call (.Name y p2) (a :: es) [] pos2) X.env) :: starEach [] X.env := by rfl) :
    PE X (.Call (.Name x p) [.Call (.Name y p2) (a :: es) [] pos2] [] pos) (tE v g W (.op .tupRng fs)) := by
  subst hx hy
  refine PE.imp (pe_tupA hc.calm hg hm hg2 hm2 ha hs hpl na) fun σ H Q ⟨ι, δ, h, hr, hs, go⟩ => ?_
  rw [evE_op] at go
  refine ⟨ι, δ, h, hr, hs, Go.bind (SS := rrL v) go fun ds h1 ι1 H1 xs r1 ex1 hr1 rx1 go1 => ?_⟩
  have go1 : Go (rrE v) v ι1 H1 (match rngS ds with
    | some s => whenR (decide (s.ds.length ≤ cells)) (.ok (.tup s.ds) h1)
    | none => .no) Q _ := go1
  have fin : ∀ {lo hi c : Int}, Go (rrE v) v ι1 H1 (whenR (decide ((rangeL lo (rangeN lo hi c) c).length ≤ cells)) (.ok (.tup (rangeL lo (rangeN lo hi c) c)) h1)) Q (fun c d H' => W c d σ H') → rangeN lo hi c ≤ 2 ^ 24 ∧ ∀ q, H1 q = none → Q (.ref q) (upd H1 q (.tup (rgA lo c (rangeN lo hi c)))) := fun {lo hi c} go => by
    obtain ⟨z, go⟩ := go_when go
    have z := of_decide_eq_true z
    rw [rangeL, List.length_map, List.length_range] at z
    exact ⟨z, fun q hq => go_tup go hr1 (rg_rps lo c _) hq⟩
  cases q : rngS ds with
  | none => rw [q] at go1; exact go1.elim
  | some s =>
    rw [q] at go1
    unfold rngS at q
    split at q
    · cases q
      cases rx1 with
      | cons a1 t1 =>
        cases t1
        rw [rv_int a1]
        exact ⟨0, _, 1, .inl ⟨rfl, rfl, rfl⟩, fin go1⟩
    · cases q
      cases rx1 with
      | cons a1 t1 =>
      cases t1 with
      | cons a2 t1 =>
        cases t1
        rw [rv_int a1, rv_int a2]
        exact ⟨_, _, 1, .inr (.inl ⟨rfl, rfl⟩), fin go1⟩
    · split at q
      · rename_i cc
        cases q
        cases rx1 with
        | cons a1 t1 =>
        cases t1 with
        | cons a2 t1 =>
        cases t1 with
        | cons a3 t1 =>
          cases t1
          rw [rv_int a1, rv_int a2, rv_int a3]
          have c0 := cc.1
          exact ⟨_, _, _, .inr (.inr ⟨rfl, c0, (Nat.log2_lt (by omega)).mpr cc.2⟩), fin go1⟩
      · cases q
    · cases q
end
end Ivy

/-! Ivy, part R: calls without arguments, sorted, dict displays, pop, extend. -/
namespace Ivy
open PySem PySem.Spec PyProof.Rows L2
section
variable {X : Cx} {v : Ev} {g : G} {W : WX} {a b c : Expr} {e1 e2 e3 : Ex} {es rest : List Expr} {fs : List Ex} {pos p apos cpos : Pos} {o : Op} {x : Str} {id : String} {k f : Nat} {fa : Addr} {fd : FuncData} {ps : List Str}
theorem e_call0 (hb : Cb X v W) (F : FnOk X.prog X.w X.K X.mg X.base (L2.CX X.prog X.w) k fa fd ps (spD v (g.fn f) ps.length)) (hr : Room k X.A) (hg : Gl X x) (hm : X.mg x = some (.ref fa)) (hk : PySem.W.keepIn X.K (.ref fa) = true) (hbi : Binds X.K fd ps [])
    (hl : ps.length = 0 := by rfl) (hdb : (x == ("__debug__" : Str)) = false := by decide) : PE X (.Call (.Name x p) [] [] pos) (tE v g W (.call f [] [])) := by
  refine ⟨fun pins s σ H Q I ⟨ι, δ, h, hr', hs, go⟩ => ?_⟩
  rw [evE_call] at go
  have go : Go (rrE v) v ι H (g.fn f [] h) Q (fun c d H' => W c d σ H') := by
    have e : evEs g [] δ h = .ok [] h := by simp only [evEs]
    rw [e] at go
    exact go
  refine wpAny_Call_Name_kw (ld_glob I hg hm ?_ hdb)
  exact PySem.W.callWith_K0 I.kIn hk (run_fnSD (us := []) (vs := []) F hr hbi .nil (passAt hb.tk σ) I .nil ⟨ι, h, [], hr', .nil, hl.symm, go⟩)

/-! ### sorted -/
theorem insB_perm (x : Int) : ∀ l : List Int, (insB x l).Perm (x :: l)
  | [] => .refl _
  | y :: ys => by
    unfold insB
    split
    · exact .refl _
    · exact ((insB_perm x ys).cons y).trans (.swap ..)
theorem sortI_perm : ∀ l : List Int, (sortI l).Perm l
  | [] => .refl _
  | x :: xs => (insB_perm x _).trans ((sortI_perm xs).cons x)
theorem insB_sorted (x : Int) : ∀ l : List Int, l.Pairwise (· ≤ ·) → (insB x l).Pairwise (· ≤ ·)
  | [], _ => by simp [insB]
  | y :: ys, h => by
    unfold insB
    have h1 := List.pairwise_cons.mp h
    split
    · rename_i c
      exact List.pairwise_cons.mpr ⟨fun z hz => by
        rcases List.mem_cons.mp hz with rfl | hz
        · exact c
        · exact Int.le_trans c (h1.1 z hz), h⟩
    · rename_i c
      refine List.pairwise_cons.mpr ⟨fun z hz => ?_, insB_sorted x ys h1.2⟩
      rcases List.mem_cons.mp ((insB_perm x ys).mem_iff.mp hz) with rfl | hz
      · omega
      · exact h1.1 z hz
theorem sortI_sorted : ∀ l : List Int, (sortI l).Pairwise (· ≤ ·)
  | [] => .nil
  | x :: xs => insB_sorted x _ (sortI_sorted xs)
theorem sorted_uniq : ∀ {l l' : List Int}, l.Perm l' → l.Pairwise (· ≤ ·) → l'.Pairwise (· ≤ ·) → l = l'
  | [], l', h, _, _ => by rw [List.nil_perm.mp h]
  | x :: xs, [], h, _, _ => by cases List.perm_nil.mp h
  | x :: xs, y :: ys, h, h1, h2 => by
    have p1 := List.pairwise_cons.mp h1
    have p2 := List.pairwise_cons.mp h2
    have e : x = y := by
      have a1 : y ∈ x :: xs := h.mem_iff.mpr (List.mem_cons_self ..)
      have a2 : x ∈ y :: ys := h.mem_iff.mp (List.mem_cons_self ..)
      rcases List.mem_cons.mp a1 with rfl | a1
      · rfl
      · rcases List.mem_cons.mp a2 with rfl | a2
        · rfl
        · exact Int.le_antisymm (p1.1 y a1) (p2.1 x a2)
    subst e
    rw [sorted_uniq (List.Perm.cons_inv h) p1.2 p2.2]
theorem ltL_irr : ∀ x : Tx, ltL x x = false
  | [] => rfl
  | a :: x => by simp [ltL, ltL_irr x]
def c_sorted {X : Cx} : CallR X (.builtin "sorted") (rSortedI X.K) := cr_sortedI
theorem n_sorted (hK : X.K = v.K) : OpN v g .sorted (rSortedI X.K) := by
  rw [hK]
  refine one_arg' (fun _ => rfl) (fun d _ _ _ => by cases d <;> rfl) fun ι H H0 h d x Q E hr rx go => ?_
  have go : Go (rrE v) v ι H (match lsD h d with
    | some xs => (match intsL xs with
      | some ns => whenR (decide (ns.length ≤ cells)) (.ok (.lst ((sortI ns).map .int)) h)
      | none => .no)
    | none => .no) Q E := go
  split at go
  · rename_i ds q
    split at go
    · rename_i ns q2
      obtain ⟨c, go⟩ := go_when go
      obtain ⟨a, vs, rfl, s, r⟩ := ls_ok hr rx q
      have ev := ints_v r q2
      subst ev
      refine ⟨a, ns, rfl, s, fun ns' p hp hs hn => ?_⟩
      have e : ns' = sortI ns := sorted_uniq (hp.trans (sortI_perm ns).symm) hs (sortI_sorted ns)
      subst e
      have rr : ∀ l : List Int, RPs v ι H (l.map .int) (l.map V.int) := fun l => by
        induction l with
        | nil => exact .nil
        | cons i l ih => exact .cons (.int i) ih
      exact go_fresh go hr (rr _) hn
    · exact go.elim
  · exact go.elim

/-! ### pop, extend -/
theorem v_pop (ι : List Addr) (H H0 : Hp) (h : Hh) (n : Nat) (x : V) (Q : VK) (E : XK) (hr : HR v ι H h) (rx : rrE v ι H0 H (.ref n) x) (go : Go (rrE v) v ι H (opApp g.sub .pop [.ref n] h) Q E) : rPop x [] H Q := by
  obtain ⟨p, rfl, hp⟩ := rv_ref rx
  have go : Go (rrE v) v ι H (match h[n]? with
    | some (.lst xs) => (match xs[xs.length - 1]? with
      | some d => chg h n xs.dropLast d
      | none => .no)
    | _ => .no) Q E := go
  split at go
  · rename_i xs q
    split at go
    · rename_i dd q2
      obtain ⟨vs, hv, hd⟩ := (show CR v ι H p (.lst _) from hr.cell n p _ hp q)
      obtain ⟨y, hy, ry⟩ := hd.get q2
      refine ⟨p, vs, y, rfl, rfl, hv, by rw [← hd.length]; exact hy, ?_⟩
      have dl : RPs v ι H xs.dropLast vs.dropLast := by
        rw [List.dropLast_eq_take, List.dropLast_eq_take, hd.length]
        exact hd.take _
      have ex := ext_cell (o := .lst vs.dropLast) hr hp hv rfl
      have r2 := ry.mono ex
      refine go ι _ y ex (hr.set hp ex ⟨_, upd_same, dl.mono ex⟩) ?_
      cases dd <;> first | exact ⟨r2, trivial⟩ | cases r2
    · exact go.elim
  · exact go.elim
theorem v_extend (ι : List Addr) (H H0 H1 : Hp) (h : Hh) (n : Nat) (e : D) (x y : V) (Q : VK) (E : XK) (hr : HR v ι H h) (rx : rrE v ι H0 H (.ref n) x) (ry : rrE v ι H1 H e y) (go : Go (rrE v) v ι H (opApp g.sub .extend [.ref n, e] h) Q E) : rExtend x [y] H Q := by
  obtain ⟨p, rfl, hp⟩ := rv_ref rx
  have go : Go (rrE v) v ι H (match h[n]?, lmD h e with
    | some (.lst xs), some ys => whenR (decide (xs.length + ys.length ≤ cells)) (chg h n (xs ++ ys) .non)
    | _, _ => .no) Q E := go
  split at go
  · rename_i xs ys q q2
    obtain ⟨c, go⟩ := go_when go
    obtain ⟨b, vs, rfl, hb, rb⟩ := lm_ok hr ry q2
    obtain ⟨us, hv, hd⟩ := (show CR v ι H p (.lst _) from hr.cell n p _ hp q)
    refine ⟨p, b, us, vs, rfl, rfl, hv, hb, by rw [← hd.length, ← rb.length, ← cells_eq]; exact of_decide_eq_true c, ?_⟩
    exact go_set (show Go (rrE v) v ι H (.ok .non (h.set n (.lst (xs ++ ys)))) Q E from go) hr hp hv rfl (fun ex => ⟨_, upd_same, (hd.app rb).mono ex⟩) .non rfl
  · exact go.elim
theorem e_pop (hb : Cb X v W) (ha : PE X a (tE v g W e1)) (hbase : attributeBase a "pop" X.env (eval a X.env) = eval a X.env := by rfl) (hline : (apos.endLine == cpos.line) = true := by rfl) :
    PE X (.Call (.Attribute a "pop" apos) [] [] cpos) (tE v g W (.op .pop [.ck 1 e1])) :=
  e_lm0 hb PySem.F.slot_list_pop PySem.F.type_list_pop mt_pop v_pop ha hbase hline
theorem e_extend (hb : Cb X v W) (ha : PE X a (tE v g W e1)) (hi : PE X b (tE v g W e2)) (hbase : attributeBase a "extend" X.env (eval a X.env) = eval a X.env := by rfl)
    (hfew : ((backTo cpos (starEach [b] X.env)).all (fun x => !x.1) && (backToKw cpos (keywordEach [] X.env)).all (fun x => x.1.isSome)
      && decide ([b].length + ([] : List Keyword).length + (if ([] : List Keyword).isEmpty then 0 else 1) < 30)) = true := by rfl)
    (hline : (apos.endLine == cpos.line) = true := by rfl) (hs : starEach [b] X.env = (false, eval b X.env) :: starEach [] X.env := by rfl) (hplain : (backTo cpos (starEach [] X.env)).any (·.1) = false := by rfl) :
    PE X (.Call (.Attribute a "extend" apos) [b] [] cpos) (tE v g W (.op .extend [.ck 1 e1, e2])) :=
  e_lm1 hb PySem.F.slot_list_extend PySem.F.type_list_extend mt_extend v_extend ha hi hbase hfew hline hs hplain
end

/-! ### dict displays -/
section
variable {v : Ev}
mutual
theorem RP.swapD {ι : List Addr} {H : Hp} {A : Addr} {o : HO} {acc : List (Key × V)} (hA : H A = some (.dK acc)) : ∀ {d : D} {x : V}, RP v ι H d x → RP v ι (upd H A o) d x
  | _, _, .non => .non
  | _, _, .bl b => .bl b
  | _, _, .int i => .int i
  | _, _, .str x => .str x
  | _, _, .tup h r => .tup (by
    rcases h with (h | ⟨o, h⟩) | h
    · exact .inl (.inl (by rw [upd_ne fun z => by subst z; rw [hA] at h; cases h]; exact h))
    · exact .inl (.inr ⟨o, by rw [upd_ne fun z => by subst z; rw [hA] at h; cases h]; exact h⟩)
    · exact .inr h) (RPs.swapD hA r)
  | _, _, .rol h r => .rol (by
    rcases h with ⟨o, h⟩ | h
    · exact .inl ⟨o, by rw [upd_ne fun z => by subst z; rw [hA] at h; cases h]; exact h⟩
    · exact .inr h) (RPs.swapD hA r)
  | _, _, .ref h => .ref h
  | _, _, .exc (fs := fs) h => .exc (fs := fs) h
  | _, _, .exd h1 h2 h3 r => .exd h1 (by rw [upd_ne fun z => by subst z; rw [hA] at h2; cases h2]; exact h2) h3 (RPs.swapD hA r)
theorem RPs.swapD {ι : List Addr} {H : Hp} {A : Addr} {o : HO} {acc : List (Key × V)} (hA : H A = some (.dK acc)) : ∀ {ds : List D} {xs : List V}, RPs v ι H ds xs → RPs v ι (upd H A o) ds xs
  | _, _, .nil => .nil
  | _, _, .cons h r => .cons (RP.swapD hA h) (RPs.swapD hA r)
end
theorem HR.swapD {ι : List Addr} {H : Hp} {h : Hh} {A : Addr} {o : HO} {acc : List (Key × V)} (r : HR v ι H h) (hA : H A = some (.dK acc)) (nA : A ∉ ι) : HR v ι (upd H A o) h := ⟨r.len, r.nd, fun n p cc h1 h2 => by
  have q := r.cell n p cc h1 h2
  have ne : p ≠ A := fun z => nA (z ▸ List.mem_of_getElem? h1)
  cases cc with
  | lst ds => obtain ⟨vs, z1, z2⟩ := q; exact ⟨vs, by rw [upd_ne ne]; exact z1, z2.swapD hA⟩
  | dct ds => obtain ⟨vs, z1, z2⟩ := q; exact ⟨vs, by rw [upd_ne ne]; exact z1, z2.1, z2.2.swapD hA⟩
  | ins c' ds => obtain ⟨dx, vs, z0, z1, z2⟩ := q; exact ⟨dx, vs, z0, by rw [upd_ne ne]; exact z1, z2.1, z2.2.swapD hA⟩⟩
end
section
variable {X : Cx} {v : Ev} {g : G} {W : WX} {a b : Expr} {e1 e2 : Ex} {fs : List Ex} {pos : Pos} {keys : List (Option Expr)} {values : List Expr}
theorem tE_imp {σ : L2.St} {H : Hp} {Q Q' : VK} (t : tE v g W e1 σ H Q) (k : ∀ x H, Q x H → Q' x H) : tE v g W e1 σ H Q' := by
  obtain ⟨ι, δ, h, hr, hs, go⟩ := t
  exact ⟨ι, δ, h, hr, hs, go.imp k fun _ _ _ z => z⟩
def trsOf (v : Ev) (g : G) (W : WX) : List Ex → List (TE × TE)
  | k :: a :: r => (tE v g W k, tE v g W a) :: trsOf v g W r
  | _ => []
def pairUp {α : Type} : List α → List (α × α)
  | k :: a :: r => (k, a) :: pairUp r
  | _ => []
/-- as many keys as values -/
inductive PD (X : Cx) (v : Ev) (g : G) (W : WX) (pos : Pos) : List (Option Expr) → List Expr → List Ex → Prop
  | nil : PD X v g W pos [] [] []
  | cons {k a : Expr} {ks : List (Option Expr)} {vs : List Expr} {ek ea : Ex} {fs : List Ex} : PE X k (tE v g W ek) → PE X a (tE v g W ea) → PD X v g W pos ks vs fs → PD X v g W pos (some k :: ks) (a :: vs) (ek :: ea :: fs)
theorem PD.pps (h : PD X v g W pos keys values fs) : PPs X pos keys values (trsOf v g W fs) := by
  induction h with
  | nil => exact pps_nil
  | cons h1 h2 _ ih => exact pps_cons h1 h2 ih
theorem PD.len (h : PD X v g W pos keys values fs) : keys.length = values.length ∧ keys.all (·.isSome) = true ∧ fs.length = 2 * keys.length := by
  induction h with
  | nil => exact ⟨rfl, rfl, rfl⟩
  | cons h1 h2 _ ih => exact ⟨by simp [ih.1], by simpa using ih.2.1, by simp [ih.2.2]; omega⟩
theorem PD.pairs (hp : PD X v g W pos keys values fs) : ∀ {σ : L2.St} {H : Hp} {R : List (V × V) → Hp → Prop}, tL v g W fs σ H (fun xs H' => R (pairUp xs) H') → tPairs (trsOf v g W fs) σ H R := by
  induction hp with
  | nil =>
    intro σ H R ⟨ι, δ, h, hr, hs, go⟩
    exact go.here hr .nil
  | cons h1 h2 _ ih =>
    intro σ H R t
    refine tE_imp (l_cons t) fun x H1 q1 => tE_imp (l_cons q1) fun y H2 q2 => ?_
    exact ih q2
theorem pairs_ok {ι : List Addr} {H0 H : Hp} : ∀ {ds : List D} {xs : List V} {kvs : List (Ky × D)}, rrL v ι H0 H ds xs → pairsD ds = some kvs → ∃ kvs' : List (Key × V), pairUp xs = kvs'.map (fun kv => (kV kv.1, kv.2)) ∧ RK v ι H kvs kvs'
  | [], _, kvs, .nil, e => by cases e; exact ⟨[], rfl, rfl, .nil⟩
  | [_], _, kvs, .cons _ .nil, e => by cases e
  | k :: d :: ds, _, kvs, .cons (x := x) r1 (.cons (x := y) r2 r), e => by
    have e : (match kyD k, pairsD ds with
      | some k, some kvs => if D.pers d then some ((k, d) :: kvs) else none
      | _, _ => none) = some kvs := e
    split at e
    · rename_i k' kvs1 q1 q2
      split at e
      · rename_i c
        cases e
        obtain ⟨kvs', p1, p2, p3⟩ := pairs_ok r q2
        refine ⟨(kyV k', y) :: kvs', ?_, ?_, ?_⟩
        · rw [List.map_cons, ← p1, ← ky_val q1 r1]
          rfl
        · rw [List.map_cons, List.map_cons, p2]
        · rw [List.map_cons, List.map_cons]
          exact .cons (r2.1.rp c) p3
      · cases e
    · cases e
theorem merge_ok {ι : List Addr} {H : Hp} : ∀ {more : List (Ky × D)} {more' : List (Key × V)} {kvs : List (Ky × D)} {kvs' : List (Key × V)}, RK v ι H more more' → RK v ι H kvs kvs' → RK v ι H (more.foldl (fun acc kv => kPut acc kv.1 kv.2) kvs) (mergeK kvs' more')
  | [], [], _, _, _, r => r
  | [], _ :: _, _, _, r0, _ => by have := r0.1; cases this
  | _ :: _, [], _, _, r0, _ => by have := r0.1; cases this
  | (k, d) :: more, (k', x) :: more', kvs, kvs', r0, r => by
    obtain ⟨h1, h2⟩ := r0
    rw [List.map_cons, List.map_cons] at h1 h2
    obtain ⟨e1, e2⟩ := List.cons.inj h1
    cases h2 with
    | cons q1 q2 =>
      have e1 : k' = kyV k := e1
      subst e1
      exact merge_ok (more := more) (more' := more') ⟨e2, q2⟩ (r.put k q1)
theorem e_dict (hp : PD X v g W pos keys values fs) (h0 : keys ≠ []) (h15 : keys.length ≤ 15 := by decide) : PE X (.Dict keys values pos) (tE v g W (.op .dict fs)) := by
  obtain ⟨l1, l2, l3⟩ := hp.len
  refine PE.imp (pe_disp hp.pps l2 l1 h0 h15) fun σ H Q ⟨ι, δ, h, hr, hs, go⟩ p hn => ?_
  have eo : evE g (.op .dict fs) δ h = (evEs g fs δ h).bind fun ds h => opApp g.sub .dict ds h := by simp only [evE]
  rw [eo] at go
  have np := hr.notIn hn
  have ex0 : Ext ι H ι (upd H p (.dK [])) := ext_new hn
  have hr0 : HR v ι (upd H p (.dK [])) h := hr.new hn
  refine hp.pairs ⟨ι, δ, h, hr0, hs.mono ex0, ?_⟩
  refine Go.bind (SS := rrL v) (Go.shift ex0 hr0 go) fun ds h1 ι1 H1 xs r1 ex1 hr1 rx1 _ => ?_
  obtain ⟨np1, hp1⟩ := ex1.out upd_same np
  rw [r1, R.okb] at go
  have go : Go (rrE v) v ι H (match pairsD ds with
    | some kvs => .ok (.dct (kvs.foldl (fun acc kv => kPut acc kv.1 kv.2) [])) h1
    | none => .no) Q _ := go
  cases q : pairsD ds with
  | none => rw [q] at go; exact go.elim
  | some kvs =>
    rw [q] at go
    obtain ⟨kvs', p1, p2⟩ := pairs_ok rx1 q
    have ln : kvs'.length ≤ 15 := by
      have a1 := congrArg List.length p1
      rw [List.length_map] at a1
      have a2 : ∀ l : List V, (pairUp l).length * 2 ≤ l.length := fun l => by
        match l with
        | [] => simp [pairUp]
        | [_] => simp [pairUp]
        | _ :: _ :: r =>
          have : ∀ m (l : List V), l.length ≤ m → (pairUp l).length * 2 ≤ l.length := fun m => by
            induction m with
            | zero => intro l hl; cases l <;> simp_all [pairUp]
            | succ m ih =>
              intro l hl
              match l with
              | [] => simp [pairUp]
              | [_] => simp [pairUp]
              | _ :: _ :: r =>
                have := ih r (by simp at hl; omega)
                simp [pairUp]
                omega
          exact this _ _ (Nat.le_refl _)
      have a3 := a2 xs
      have a4 : xs.length = ds.length := by
        have : ∀ {ds : List D} {xs : List V}, rrL v ι1 (upd H p (.dK [])) H1 ds xs → xs.length = ds.length := fun {ds xs} r => by
          induction r with
          | nil => rfl
          | cons _ _ ih => simp [ih]
        exact this rx1
      have a5 := evEs_len r1
      omega
    refine ⟨hp1, kvs', p1, ln, ?_⟩
    have hr2 : HR v ι1 (upd H1 p (.dK (mergeK [] kvs'))) h1 := hr1.swapD hp1 np1
    have rk : RK v ι1 (upd H1 p (.dK (mergeK [] kvs'))) kvs kvs' := ⟨p2.1, p2.2.swapD hp1⟩
    exact go ι1 _ (.ref p) ((ex0.trans ex1).put hn) hr2 ⟨⟨p, _, rfl, np1, upd_same, merge_ok rk ⟨rfl, .nil⟩⟩, fun a e => by cases e; exact hn⟩
theorem e_dict0 : PE X (.Dict [] [] pos) (tE v g W (.op .dict [])) :=
  PE.imp pe_dnewK fun σ H Q ⟨ι, δ, h, hr, hs, go⟩ p hn => by
    have eo : evE g (.op .dict []) δ h = .ok (.dct []) h := by
      simp only [evE, evEs]
      rfl
    rw [eo] at go
    have hr2 := hr.new (o := .dK []) hn
    exact go ι _ (.ref p) (ext_new hn) hr2 ⟨⟨p, [], rfl, hr.notIn hn, upd_same, rfl, .nil⟩, fun a e => by cases e; exact hn⟩
end

/-! ### list(range(..)) -/
section
variable {X : Cx} {v : Ev} {g : G} {W : WX} {a b : Expr} {e1 e2 : Ex} {pos p p2 pos2 : Pos} {x y : Str}
theorem rangeN_1 (lo hi : Int) : rangeN lo hi 1 = (hi - lo).toNat := by
  unfold rangeN
  rw [if_pos (by decide)]
  split
  · rw [Int.ediv_one]; omega
  · omega
theorem rgV_rps {ι : List Addr} {H : Hp} (lo hi : Int) : RPs v ι H (rangeL lo (rangeN lo hi 1) 1) (rgV lo hi) := by
  rw [rangeN_1]
  unfold rangeL rgV
  induction (List.range (hi - lo).toNat) with
  | nil => exact .nil
  | cons k ks ih =>
    refine .cons ?_ ih
    show RP v ι H (.int (lo + (k : Int) * 1)) (.int (lo + (k : Int)))
    rw [Int.mul_one]
    exact .int _
theorem lrg_fin {ι : List Addr} {H : Hp} {h : Hh} {lo hi : Int} {Q : VK} {E : XK} {c2 : Bool} (hr : HR v ι H h) (go : Go (rrE v) v ι H (whenR (decide ((rangeL lo (rangeN lo hi 1) 1).length ≤ cells) && (decide (lo.natAbs < 4611686018427387904) && decide (hi.natAbs < 4611686018427387904))) (.ok (.lst (rangeL lo (rangeN lo hi 1) 1)) h)) Q E) :
    RgOk lo hi ∧ ∀ q, H q = none → Q (.ref q) (upd H q (.lst (rgV lo hi))) := by
  obtain ⟨c, go⟩ := go_when go
  rw [Bool.and_eq_true, Bool.and_eq_true] at c
  have c0 := of_decide_eq_true c.1
  have c1 := of_decide_eq_true c.2.1
  have c2 := of_decide_eq_true c.2.2
  rw [rangeL, List.length_map, List.length_range, rangeN_1] at c0
  have z : (cells : Nat) = 2 ^ 24 := by decide
  rw [z] at c0
  exact ⟨⟨by omega, by omega, by omega, by omega, c0⟩, fun q hq => go_fresh go hr (rgV_rps lo hi) hq⟩
theorem e_lstRng1 (hc : Cc X v W) (hg : Gl X x) (hm : X.mg x = none) (hg2 : Gl X y) (hm2 : X.mg y = none) (ha : PE X a (tE v g W e1)) (hx : x = "list" := by rfl) (hy : y = "range" := by rfl) (hs : starEach [a] X.env = (false, eval a X.env) :: starEach [] X.env := by rfl) (hpl : (backTo pos2 (starEach [] X.env)).any (·.1) = false := by rfl)
    (na : starEach [.Call (.Name y p2) [a] [] pos2] X.env = (false, eval (.Call (.Name y p2) [a] [] pos2) X.env) :: starEach [] X.env := by rfl) :
    PE X (.Call (.Name x p) [.Call (.Name y p2) [a] [] pos2] [] pos) (tE v g W (.op .listRng [e1])) := by
  subst hx hy
  refine PE.imp (pe_listRg hc.calm hg hm (prg_1 hg2 hm2 ha hs) na) fun σ H Q ⟨ι, δ, h, hr, hs, go⟩ => ?_
  rw [evE_op1] at go
  refine ⟨ι, δ, h, hr, hs, Go.bind (SS := rrE v) go fun d h1 ι1 H1 xs r1 ex1 hr1 rx1 go1 => ?_⟩
  cases d <;> first | exact go1.elim | skip
  rw [rv_int rx1]
  rename_i j
  refine ⟨j, rfl, lrg_fin (c2 := true) hr1 (E := fun c d H' => W c d σ H') ?_⟩
  have e : opApp g.sub .listRng [.int j] h1 = whenR (decide ((rangeL 0 (rangeN 0 j 1) 1).length ≤ cells) && (decide ((0 : Int).natAbs < 4611686018427387904) && decide (j.natAbs < 4611686018427387904))) (.ok (.lst (rangeL 0 (rangeN 0 j 1) 1)) h1) := by
    show whenR (decide ((rangeL 0 (rangeN 0 j 1) 1).length ≤ cells) && [D.int j].all smallD) (.ok (.lst (rangeL 0 (rangeN 0 j 1) 1)) h1 : R D) = _
    simp [smallD]
  rw [← e]
  exact go1
end

/-! ### a comprehension within another -/
def relabS (S sc : Scope) : Scope := { S with names := S.names.map fun (n, k) => if (k == .free && sc.kind == .function && sc.names.lookup n == some .cell) then (n, .cell) else (n, k) }
theorem blk_nest {X : Cx} {s : Shared} {H : Hp} {S T sc : Scope} {C : Addr} {cl : List (Str × Addr)} {fp : List Addr} {N : List Str} {own : List (Str × Nat)} (hN : X.N = N) (hs : X.env.scope = sc) (h1 : T.kind = .function) (h2 : ∀ y ∈ T.names, T.names.lookup y.1 = some y.2) (h3 : ∀ p ∈ own, N[p.2]? = some p.1)
    (h4 : ∀ y ∈ T.names, y.2 = .free → (relabS S sc).names.lookup y.1 = some .cell ∨ (relabS S sc).names.lookup y.1 = some .free) (h5 : ∀ y ∈ T.names, y.2 = .local ∨ y.2 = .cell → y.1 ∈ own.map (·.1) ∨ y.1 ∉ N) :
    BlkOk (X.blk s H S (compEnvC S cl C X.env) fp).N (X.blk s H S (compEnvC S cl C X.env) fp).env.scope T own := by
  subst hN hs
  exact ⟨h1, h2, h3, h4, h5⟩
end Ivy

/-! Ivy, part S: lemmas for running the evaluator by simp. -/
namespace Ivy
section
variable {α β : Type} {s : Nat → Nat → Bool} {h : Hh} {i j k : Int} {x y : Tx} {a b c d : D} {xs ys : List D} {n m : Nat} {δ : Sl} {p q : Bool}
@[simp] theorem s_okb (a : α) (k : α → Hh → R β) : (R.ok a h).bind k = k a h := rfl
@[simp] theorem s_nob (k : α → Hh → R β) : (R.no : R α).bind k = .no := rfl
@[simp] theorem s_go (a : α) (k : α → Hh → Rs) : (R.ok a h).go δ k = k a h := rfl
@[simp] theorem s_calm (a : α) : (R.ok a h).calm = .ok a h := rfl
@[simp] theorem s_wt (r : R α) : whenR true r = r := rfl
@[simp] theorem s_wf (r : R α) : whenR false r = .no := rfl
@[simp] theorem s_int : intR i h = .ok (.int i) h := rfl
@[simp] theorem s_bl : blR p h = .ok (.bl p) h := rfl
@[simp] theorem s_fin : finish h d h = .ok d h := by simp [finish]
@[simp] theorem s_endN : endF h (.nx δ h) = .ok .non h := by simp [endF]
@[simp] theorem s_endR : endF h (.ret d h) = .ok d h := by simp [endF]
theorem fin_len {g : Hh} (e : g.length = h.length) : finish h d g = .ok d g := by simp [finish, e]
/-! arithmetic -/
@[simp] theorem o_addI : opApp s .add [.int i, .int j] h = .ok (.int (i + j)) h := rfl
@[simp] theorem o_iaddI : opApp s .iadd [.int i, .int j] h = .ok (.int (i + j)) h := rfl
@[simp] theorem o_subI : opApp s .sub [.int i, .int j] h = .ok (.int (i - j)) h := rfl
@[simp] theorem o_mulI' : opApp s .mul [.int i, .int j] h = whenR (mulOk i j) (.ok (.int (i * j)) h) := rfl
@[simp] theorem o_imulI : opApp s .imul [.int i, .int j] h = whenR (mulOk i j) (.ok (.int (i * j)) h) := rfl
@[simp] theorem o_fdivI : opApp s .fdiv [.int i, .int j] h = whenR (decide (j ≠ 0) && decide (j.natAbs < bigD)) (.ok (.int (i.fdiv j)) h) := rfl
@[simp] theorem o_modI : opApp s .mod [.int i, .int j] h = whenR (decide (j ≠ 0)) (.ok (.int (i.fmod j)) h) := rfl
@[simp] theorem o_powI : opApp s .pow [.int i, .int j] h = whenR (decide (0 ≤ j) && decide (j ≤ 1000000) && decide (i.natAbs < 18446744073709551616)) (.ok (.int (i ^ j.toNat)) h) := rfl
@[simp] theorem o_shlI : opApp s .shl [.int i, .int j] h = whenR (decide (0 ≤ j) && decide (j ≤ 1000000) && decide (i.natAbs < big)) (.ok (.int (i * 2 ^ j.toNat)) h) := rfl
@[simp] theorem o_negI : opApp s .neg [.int i] h = .ok (.int (-i)) h := rfl
@[simp] theorem o_absI : opApp s .abs [.int i] h = .ok (.int (if i < 0 then -i else i)) h := rfl
@[simp] theorem o_intI : opApp s .int [.int i] h = .ok (.int i) h := rfl
@[simp] theorem o_bits : opApp s .bits [.int i] h = .ok (.int (bitLen i)) h := rfl
/-! order, equality -/
@[simp] theorem o_ltI : opApp s .lt [.int i, .int j] h = .ok (.bl (decide (i < j))) h := rfl
@[simp] theorem o_leI : opApp s .le [.int i, .int j] h = .ok (.bl (decide (i ≤ j))) h := rfl
@[simp] theorem o_gtI : opApp s .gt [.int i, .int j] h = .ok (.bl (decide (j < i))) h := rfl
@[simp] theorem o_geI : opApp s .ge [.int i, .int j] h = .ok (.bl (decide (j ≤ i))) h := rfl
@[simp] theorem o_eqI : opApp s .eq [.int i, .int j] h = .ok (.bl (decide (i = j))) h := rfl
@[simp] theorem o_neI : opApp s .ne [.int i, .int j] h = .ok (.bl (!decide (i = j))) h := rfl
@[simp] theorem o_eqS : opApp s .eq [.str x, .str y] h = .ok (.bl (decide (x = y))) h := rfl
@[simp] theorem o_neS : opApp s .ne [.str x, .str y] h = .ok (.bl (!decide (x = y))) h := rfl
@[simp] theorem o_eqB : opApp s .eq [.bl p, .bl q] h = .ok (.bl (p == q)) h := rfl
@[simp] theorem o_isN : opApp s .isNone [a] h = .ok (.bl (D.isNon a)) h := rfl
@[simp] theorem o_notN : opApp s .notNone [a] h = .ok (.bl (!D.isNon a)) h := rfl
/-! displays, items -/
@[simp] theorem o_tup : opApp s .tup xs h = whenR (persL xs && decide (xs.length ≤ cells)) (.ok (.tup xs) h) := rfl
@[simp] theorem o_lst : opApp s .lst xs h = whenR (persL xs && decide (xs.length ≤ cells)) (.ok (.lst xs) h) := rfl
@[simp] theorem s_pers0 : persL [] = true := rfl
@[simp] theorem s_pers1 : persL (a :: xs) = (D.pers a && persL xs) := rfl
@[simp] theorem at0 : atP (a :: xs) 0 = some a := by simp [atP, ixP]
@[simp] theorem at1 : atP (a :: b :: xs) 1 = some b := by
  unfold atP ixP
  rw [if_pos (by omega), if_pos (by simp only [List.length_cons]; omega)]
  rfl
@[simp] theorem at2 : atP (a :: b :: c :: xs) 2 = some c := by
  unfold atP ixP
  rw [if_pos (by omega), if_pos (by simp only [List.length_cons]; omega)]
  rfl
@[simp] theorem at3 : atP (a :: b :: c :: d :: xs) 3 = some d := by
  unfold atP ixP
  rw [if_pos (by omega), if_pos (by simp only [List.length_cons]; omega)]
  rfl
@[simp] theorem o_idxT : opApp s .idx [.tup xs, .int i] h = (match atP xs i with
  | some d => .ok d h
  | none => .no) := rfl
@[simp] theorem o_lenT : opApp s .len [.tup xs] h = .ok (.int xs.length) h := rfl
theorem o_idxL (e : h[n]? = some (.lst xs)) : opApp s .idx [.ref n, .int i] h = (match atP xs i with
  | some d => .ok d h
  | none => .no) := by
  show opIdx h (.ref n) (.int i) = _
  unfold opIdx
  simp [dcD, sqD, lsD, e] <;> rfl
theorem o_lenL (e : h[n]? = some (.lst xs)) : opApp s .len [.ref n] h = .ok (.int xs.length) h := by
  show (match sqD h (.ref n) with
    | some xs => intR xs.length h
    | none => match dcD h (.ref n) with
      | some kvs => intR kvs.length h
      | none => .no) = _
  simp [sqD, lsD, e]
theorem o_setL (e : h[n]? = some (.lst xs)) : opApp s .setItem [d, .ref n, .int i] h = (match ixP xs.length i with
  | some k => whenR (D.pers d) (.ok .non (h.set n (.lst (xs.set k d))))
  | none => .no) := by
  show (match h[n]?, (D.int i : D) with
    | some (.lst xs), .int i => (match ixP xs.length i with
      | some k => whenR (D.pers d) (chg h n (xs.set k d) .non)
      | none => .no)
    | some (.dct kvs), b => (match kyD b with
      | some k => whenR (D.pers d && decide (kvs.length < cells)) (.ok .non (h.set n (.dct (kPut kvs k d))))
      | none => .no)
    | _, _ => .no) = _
  rw [e]
  rfl
@[simp] theorem o_isi (ts : List Ty) : opApp s (.isi ts) [a] h = (match tyD h a with
    | some k => .ok (.bl (ts.any (tyIs s k))) h
    | none => .no) := rfl
@[simp] theorem o_sl01T : opApp s (.slice false true) [.tup xs, .int j] h = .ok (.tup (cut xs none (some j))) h := rfl
@[simp] theorem o_sl10T : opApp s (.slice true false) [.tup xs, .int j] h = .ok (.tup (cut xs (some j) none)) h := rfl
@[simp] theorem s_boxT : boxR (.tup xs) h = .ok (.tup xs) h := rfl
@[simp] theorem s_boxI : boxR (.int i) h = .ok (.int i) h := rfl
@[simp] theorem s_boxN : boxR .non h = .ok .non h := rfl
@[simp] theorem s_boxB : boxR (.bl p) h = .ok (.bl p) h := rfl
@[simp] theorem s_boxS : boxR (.str x) h = .ok (.str x) h := rfl
@[simp] theorem s_boxR : boxR (.ref n) h = .ok (.ref n) h := rfl
@[simp] theorem s_boxL : boxR (.lst xs) h = .ok (.ref h.length) (h ++ [.lst xs]) := rfl
@[simp] theorem s_truB : truD h (.bl p) = .ok p h := rfl
@[simp] theorem s_truI : truD h (.int i) = .ok (i != 0) h := rfl
@[simp] theorem p_non : D.pers .non = true := rfl
@[simp] theorem p_bl : D.pers (.bl p) = true := rfl
@[simp] theorem p_int : D.pers (.int i) = true := rfl
@[simp] theorem p_str : D.pers (.str x) = true := rfl
@[simp] theorem p_tup : D.pers (.tup xs) = true := rfl
@[simp] theorem p_ref : D.pers (.ref n) = true := rfl
@[simp] theorem n_non : D.isNon .non = true := rfl
@[simp] theorem n_bl : D.isNon (.bl p) = false := rfl
@[simp] theorem n_int : D.isNon (.int i) = false := rfl
@[simp] theorem nn_str : D.isNon (.str x) = false := rfl
@[simp] theorem n_tup : D.isNon (.tup xs) = false := rfl
@[simp] theorem n_ref : D.isNon (.ref n) = false := rfl
@[simp] theorem g_name' : putT (.name m) d δ = if D.pers d = true then some (δ.set m (some d)) else none := by simp [putT]
@[simp] theorem g_tup' (ts : List Tg) : putT (.tup ts) (.tup xs) δ = putTs ts xs δ := by simp [putT]
@[simp] theorem g_nil' : putTs [] [] δ = some δ := by simp [putTs]
@[simp] theorem g_cons' (t : Tg) (ts : List Tg) : putTs (t :: ts) (d :: xs) δ = (match putT t d δ with
  | some δ' => putTs ts xs δ'
  | none => none) := by simp [putTs] <;> rfl
@[simp] theorem t_non : tyD h .non = some (.inl .none) := rfl
@[simp] theorem t_bl : tyD h (.bl p) = some (.inl .bool) := rfl
@[simp] theorem t_int : tyD h (.int i) = some (.inl .int) := rfl
@[simp] theorem t_str : tyD h (.str x) = some (.inl .str) := rfl
@[simp] theorem t_tup : tyD h (.tup xs) = some (.inl .tuple) := rfl
end
/-! loops, turn by turn -/
section
variable {T : Sl → Hh → R Bool} {B : Sl → Hh → Rs} {ks : List Nat} {n : Nat} {δ δ1 δ2 : Sl} {h h1 h2 : Hh} {t : Tg} {x : D} {xs : List D} {gd : List (Nat × C)}
theorem lpW_go (hT : T δ h = .ok true h1) (hB : B δ h1 = .nx δ2 h2) : lpW T ks B (n + 1) δ h = lpW T ks B n (wipeS δ2 ks) h2 := by
  show (T δ h).go δ _ = _
  rw [hT]
  simp only [s_go, if_true]
  rw [hB]
theorem lpW_end (hT : T δ h = .ok false h1) : lpW T ks B (n + 1) δ h = .nx (wipeS δ ks) h1 := by
  show (T δ h).go δ _ = _
  rw [hT]
  rfl
theorem lpF_nil : lpF [] t ks B [] δ h = .nx (wipeS δ ks) h := rfl
theorem lpF_go (hp : putT t x δ = some δ1) (hB : B δ1 h = .nx δ2 h2) : lpF [] t ks B (x :: xs) δ h = lpF [] t ks B xs (wipeS δ2 ks) h2 := by
  show (match putT t x δ with
    | some δ' => _
    | none => _) = _
  rw [hp]
  simp only
  rw [hB]
theorem lpF_brk (hp : putT t x δ = some δ1) (hB : B δ1 h = .brk δ2 h2) : lpF [] t ks B (x :: xs) δ h = .nx (wipeS δ2 ks) h2 := by
  show (match putT t x δ with
    | some δ' => _
    | none => _) = _
  rw [hp]
  simp only
  rw [hB]
theorem lpF_ret {d : D} (hp : putT t x δ = some δ1) (hB : B δ1 h = .ret d h2) : lpF [] t ks B (x :: xs) δ h = .ret d h2 := by
  show (match putT t x δ with
    | some δ' => _
    | none => _) = _
  rw [hp]
  simp only
  rw [hB]
end
@[simp] theorem cells_n : cells = 16777216 := rfl
@[simp] theorem wipe0 {δ : Sl} : wipeS δ [] = δ := rfl
@[simp] theorem wipe1 {δ : Sl} {k : Nat} {ks : List Nat} : wipeS δ (k :: ks) = (wipeS δ ks).set k none := rfl
theorem mulOk_of {i j : Int} (hi : i.natAbs < 2 ^ 400000) (hj : j.natAbs < 2 ^ 400000) : mulOk i j = true := by
  have h : 2 ^ 400000 ≤ big := Nat.pow_le_pow_right (by omega) (by omega)
  unfold mulOk
  rw [Bool.or_eq_true, Bool.and_eq_true]
  exact .inr ⟨decide_eq_true (Nat.lt_of_lt_of_le hi h), decide_eq_true (Nat.lt_of_lt_of_le hj h)⟩
theorem callF_eq (P : Pg) (n f : Nat) (ds : List D) (h : Hh) : callF P (n + 1) f ds h = match P.fns[f]? with
    | some fn => runF ⟨callF P n, P.cs, P.sub, P.w⟩ fn ds h
    | none => .no := rfl
end Ivy

/-! Ivy, part T: more lemmas for plain laws. -/
namespace Ivy
section
variable {α β : Type} {s : Nat → Nat → Bool} {h g : Hh} {i j k : Int} {x y : Tx} {a b c d : D} {xs ys : List D} {n m r : Nat} {δ : Sl} {p q : Bool} {kvs : List (Ky × D)}
@[simp] theorem p_rol : D.pers (.rol xs) = true := rfl
@[simp] theorem p_lst : D.pers (.lst xs) = false := rfl
@[simp] theorem srcD_tup : srcD h (.tup xs) = some ⟨xs, []⟩ := rfl
@[simp] theorem srcT_tup : srcT h (.tup xs) = some ⟨xs, []⟩ := rfl
@[simp] theorem srcD_lst : srcD h (.lst xs) = some ⟨xs, []⟩ := rfl
@[simp] theorem srcT_lst : srcT h (.lst xs) = some ⟨xs, []⟩ := rfl
theorem srcD_at (e : h[n]? = some (.lst xs)) : srcD h (.ref n) = some ⟨xs, [(n, .lst xs)]⟩ := by
  show srcL h (.ref n) = _
  unfold srcL
  simp [e]
theorem srcT_at (e : h[n]? = some (.lst xs)) : srcT h (.ref n) = some ⟨xs, [(n, .lst xs)]⟩ := by
  show srcL h (.ref n) = _
  unfold srcL
  simp [e]
mutual
theorem beq_refl : ∀ d : D, D.beq d d = true
  | .non => by simp [D.beq]
  | .bl b => by simp [D.beq]
  | .int b => by simp [D.beq]
  | .str b => by simp [D.beq]
  | .tup xs => by simp [D.beq, beqL_refl xs]
  | .rol xs => by simp [D.beq, beqL_refl xs]
  | .lst xs => by simp [D.beq, beqL_refl xs]
  | .dct xs => by simp [D.beq, beqK_refl xs]
  | .ref n => by simp [D.beq]
  | .exc c fs => by simp [D.beq, beqF_refl fs]
theorem beqL_refl : ∀ d : List D, D.beqL d d = true
  | [] => by simp [D.beqL]
  | d :: ds => by simp [D.beqL, beq_refl d, beqL_refl ds]
theorem beqK_refl : ∀ d : List (Ky × D), D.beqK d d = true
  | [] => by simp [D.beqK]
  | (k, d) :: ds => by simp [D.beqK, beq_refl d, beqK_refl ds]
theorem beqF_refl : ∀ d : List (Tx × D), D.beqF d d = true
  | [] => by simp [D.beqF]
  | (k, d) :: ds => by simp [D.beqF, beq_refl d, beqF_refl ds]
end
theorem cbeq_refl (c : C) : C.beq c c = true := by cases c <;> simp [C.beq, beqL_refl, beqK_refl, beqF_refl]
theorem gd_nil : gdOk h [] = true := rfl
theorem gd_one (e : h[r]? = some (.lst xs)) : gdOk h [(r, .lst xs)] = true := by simp [gdOk, e, cbeq_refl]
/-! ### statements one behind the other -/
theorem evSs_nil {g : G} : evSs g [] δ h = .nx δ h := by simp only [evSs]
theorem evSs_cons {g : G} {s : St} {ss : List St} {δ2 : Sl} {h2 : Hh} (e : evS g s δ h = .nx δ2 h2) : evSs g (s :: ss) δ h = evSs g ss δ2 h2 := by
  show (match evS g s δ h with
    | .nx δ2 h2 => evSs g ss δ2 h2
    | r => r) = _
  rw [e]
theorem evSs_ret {g : G} {s : St} {ss : List St} {h2 : Hh} (e : evS g s δ h = .ret d h2) : evSs g (s :: ss) δ h = .ret d h2 := by
  show (match evS g s δ h with
    | .nx δ2 h2 => evSs g ss δ2 h2
    | r => r) = _
  rw [e]
theorem evSs_app {g : G} : ∀ {ss ts : List St} {δ δ2 : Sl} {h h2 : Hh}, evSs g ss δ h = .nx δ2 h2 → evSs g (ss ++ ts) δ h = evSs g ts δ2 h2
  | [], ts, δ, δ2, h, h2, e => by
    have e : Rs.nx δ h = .nx δ2 h2 := e
    cases e
    rfl
  | s :: ss, ts, δ, δ2, h, h2, e => by
    have e : (match evS g s δ h with
      | .nx δ2 h2 => evSs g ss δ2 h2
      | r => r) = .nx δ2 h2 := e
    show (match evS g s δ h with
      | .nx δ2 h2 => evSs g (ss ++ ts) δ2 h2
      | r => r) = _
    cases q : evS g s δ h <;> rw [q] at e <;> first | exact evSs_app e | cases e
/-! ### loops with a guard -/
section
variable {T : Sl → Hh → R Bool} {B : Sl → Hh → Rs} {ks : List Nat} {δ1 δ2 : Sl} {h1 h2 : Hh} {t : Tg} {gd : List (Nat × C)}
theorem lpG_nil (e : gdOk h gd = true) : lpF gd t ks B [] δ h = .nx (wipeS δ ks) h := by
  show (if gdOk h gd = true then _ else _) = _
  rw [if_pos e]
theorem lpG_go (e : gdOk h gd = true) (hp : putT t a δ = some δ1) (hB : B δ1 h = .nx δ2 h2) : lpF gd t ks B (a :: xs) δ h = lpF gd t ks B xs (wipeS δ2 ks) h2 := by
  show (if gdOk h gd = true then _ else _) = _
  rw [if_pos e, hp]
  simp only
  rw [hB]
theorem lpG_cont (e : gdOk h gd = true) (hp : putT t a δ = some δ1) (hB : B δ1 h = .cont δ2 h2) : lpF gd t ks B (a :: xs) δ h = lpF gd t ks B xs (wipeS δ2 ks) h2 := by
  show (if gdOk h gd = true then _ else _) = _
  rw [if_pos e, hp]
  simp only
  rw [hB]
theorem lpG_brk (e : gdOk h gd = true) (hp : putT t a δ = some δ1) (hB : B δ1 h = .brk δ2 h2) : lpF gd t ks B (a :: xs) δ h = .nx (wipeS δ2 ks) h2 := by
  show (if gdOk h gd = true then _ else _) = _
  rw [if_pos e, hp]
  simp only
  rw [hB]
theorem lpG_ret (e : gdOk h gd = true) (hp : putT t a δ = some δ1) (hB : B δ1 h = .ret d h2) : lpF gd t ks B (a :: xs) δ h = .ret d h2 := by
  show (if gdOk h gd = true then _ else _) = _
  rw [if_pos e, hp]
  simp only
  rw [hB]
end
/-! ### comprehensions -/
theorem lpC_eq {gd : List (Nat × C)} {step : D → Hh → R (Option D)} : lpC gd step (a :: xs) h = whenR (gdOk h gd) (((step a h).calm).bind fun y h => (lpC gd step xs h).bind fun ys h => .ok (match y with
      | some y => y :: ys
      | none => ys) h) := rfl
theorem lpC_map {gd : List (Nat × C)} {step : D → Hh → R (Option D)} (e : gdOk h gd = true) (F G : α → D) : ∀ zs : List α, (∀ z ∈ zs, step (F z) h = .ok (some (G z)) h) → lpC gd step (zs.map F) h = .ok (zs.map G) h
  | [], _ => by show whenR (gdOk h gd) _ = _; rw [e]; rfl
  | z :: zs, hz => by
    rw [List.map_cons, lpC_eq, e, hz z (List.mem_cons_self ..)]
    simp only [s_wt, s_calm, s_okb]
    rw [lpC_map e F G zs fun y hy => hz y (List.mem_cons_of_mem _ hy)]
    simp
theorem lpC_filter {gd : List (Nat × C)} {step : D → Hh → R (Option D)} (e : gdOk h gd = true) (F G : α → D) (p : α → Bool) : ∀ zs : List α, (∀ z ∈ zs, step (F z) h = .ok (if p z = true then some (G z) else none) h) → lpC gd step (zs.map F) h = .ok ((zs.filter p).map G) h
  | [], _ => by show whenR (gdOk h gd) _ = _; rw [e]; rfl
  | z :: zs, hz => by
    rw [List.map_cons, lpC_eq, e, hz z (List.mem_cons_self ..)]
    simp only [s_wt, s_calm, s_okb]
    rw [lpC_filter e F G p zs fun y hy => hz y (List.mem_cons_of_mem _ hy)]
    by_cases c : p z = true <;> simp [c]
/-- each item makes a new cell -/
theorem lpC_box {step : D → Hh → R (Option D)} (F : α → D) (c : α → C) : ∀ (zs : List α) (g : Hh), (∀ z ∈ zs, ∀ g, step (F z) g = .ok (some (.ref g.length)) (g ++ [c z])) → lpC [] step (zs.map F) g = .ok ((List.range zs.length).map fun i => .ref (g.length + i)) (g ++ zs.map c)
  | [], g, _ => by
    show whenR (gdOk g []) (.ok [] g) = _
    simp [gd_nil]
  | z :: zs, g, hz => by
    rw [List.map_cons, lpC_eq, gd_nil, hz z (List.mem_cons_self ..)]
    simp only [s_wt, s_calm, s_okb]
    rw [lpC_box F c zs _ fun y hy => hz y (List.mem_cons_of_mem _ hy)]
    simp only [s_okb, List.length_append, List.length_cons, List.length_nil, List.range_succ_eq_map, List.map_cons, List.map_map, List.append_assoc]
    congr 1
    rw [show (D.ref (g.length + 0)) = .ref g.length from rfl]
    congr 1
    refine List.map_congr_left fun i _ => ?_
    simp
    omega
theorem bools_map (f : α → Bool) : ∀ zs : List α, boolsL (zs.map fun z => .bl (f z)) = some (zs.map f)
  | [] => rfl
  | z :: zs => by
    show (boolsL (zs.map fun z => D.bl (f z))).map _ = _
    rw [bools_map f zs]; rfl
theorem ints_map (f : α → Int) : ∀ zs : List α, intsL (zs.map fun z => .int (f z)) = some (zs.map f)
  | [] => rfl
  | z :: zs => by
    show (intsL (zs.map fun z => D.int (f z))).map _ = _
    rw [ints_map f zs]; rfl
theorem o_any (f : α → Bool) (zs : List α) : opApp s .any [.lst (zs.map fun z => .bl (f z))] h = .ok (.bl (zs.any f)) h := by
  show (match (some (zs.map fun z => D.bl (f z))).bind boolsL with
    | some bs => blR (bs.any id) h
    | none => .no : R D) = _
  rw [Option.bind_some, bools_map]
  simp [List.any_map]
theorem o_all (f : α → Bool) (zs : List α) : opApp s .all [.lst (zs.map fun z => .bl (f z))] h = .ok (.bl (zs.all f)) h := by
  show (match (some (zs.map fun z => D.bl (f z))).bind boolsL with
    | some bs => blR (bs.all id) h
    | none => .no : R D) = _
  rw [Option.bind_some, bools_map]
  simp [List.all_map]
theorem o_sumL (f : α → Int) (zs : List α) : opApp s .sum [.lst (zs.map fun z => .int (f z))] h = .ok (.int (zs.map f).sum) h := by
  show (match (some (zs.map fun z => D.int (f z))).bind intsL with
    | some ns => intR ns.sum h
    | none => .no : R D) = _
  rw [Option.bind_some, ints_map]
  rfl
theorem o_sortL (f : α → Int) (zs : List α) (hl : zs.length ≤ cells) : opApp s .sorted [.lst (zs.map fun z => .int (f z))] h = .ok (.lst ((sortI (zs.map f)).map .int)) h := by
  show (match intsL (zs.map fun z => D.int (f z)) with
    | some ns => whenR (decide (ns.length ≤ cells)) (.ok (.lst ((sortI ns).map .int)) h)
    | none => .no : R D) = _
  rw [ints_map]
  simp at hl ⊢
  simp [hl]
/-! ### places -/
theorem atP_nat {xs : List α} {j : Nat} (h : j < xs.length) : atP xs (j : Int) = some xs[j] := by
  unfold atP ixP
  rw [if_pos (by omega), if_pos (by omega)]
  simp [h]
theorem atP_map {f : α → D} {zs : List α} {j : Nat} {z : α} (e : zs[j]? = some z) : atP (zs.map f) (j : Int) = some (f z) := by
  have hl := (List.getElem?_eq_some_iff.mp e).1
  have e2 := (List.getElem?_eq_some_iff.mp e).2
  rw [atP_nat (by simpa using hl)]
  simp [e2]
theorem cut_drop (xs : List α) (k : Nat) (h : k ≤ xs.length) : cut xs (some (k : Int)) none = xs.drop k := by
  simp only [cut, clip]
  rw [if_neg (by omega)]
  have : min ((k : Int).toNat) xs.length = k := by omega
  simp only [this]
  rw [List.take_of_length_le (by rw [List.length_drop]; omega)]
theorem cut_take (xs : List α) (k : Nat) (h : k ≤ xs.length) : cut xs none (some (k : Int)) = xs.take k := by
  simp only [cut, clip]
  rw [if_neg (by omega)]
  have : min ((k : Int).toNat) xs.length = k := by omega
  simp only [this]
  simp
/-! ### lists in the heap -/
theorem ck_at (e : h[n]? = some (.lst xs)) : ckR 1 (.ref n) h = .ok (.ref n) h := by
  unfold ckR
  simp [e]
theorem o_appendL (e : h[n]? = some (.lst xs)) : opApp s .append [.ref n, d] h = whenR (D.pers d && decide (xs.length < cells)) (.ok .non (h.set n (.lst (xs ++ [d])))) := by
  show (match h[n]? with
    | some (.lst xs) => whenR (D.pers d && decide (xs.length < cells)) (chg h n (xs ++ [d]) .non)
    | _ => .no) = _
  rw [e]
  rfl
theorem o_extendL (e : h[n]? = some (.lst xs)) : opApp s .extend [.ref n, .lst ys] h = whenR (decide (xs.length + ys.length ≤ cells)) (.ok .non (h.set n (.lst (xs ++ ys)))) := by
  show (match h[n]?, lmD h (.lst ys) with
    | some (.lst xs), some ys => whenR (decide (xs.length + ys.length ≤ cells)) (chg h n (xs ++ ys) .non)
    | _, _ => .no : R D) = _
  rw [e]
  rfl
theorem o_addT : opApp s .add [.tup xs, .tup ys] h = whenR (decide (xs.length + ys.length ≤ cells)) (.ok (.tup (xs ++ ys)) h) := rfl
theorem o_addLL : opApp s .add [.lst xs, .lst ys] h = whenR (decide (xs.length + ys.length ≤ cells)) (.ok (.lst (xs ++ ys)) h) := rfl
theorem o_tupAt (e : h[n]? = some (.lst xs)) : opApp s .tuple [.ref n] h = .ok (.tup xs) h := by
  show (match lsD h (.ref n) with
    | some xs => .ok (.tup xs) h
    | none => .no : R D) = _
  simp [lsD, e]
@[simp] theorem o_tupL : opApp s .tuple [.lst xs] h = .ok (.tup xs) h := rfl
@[simp] theorem o_lenLf : opApp s .len [.lst xs] h = .ok (.int xs.length) h := rfl
theorem o_rngL {zs : List Int} : (zs.map D.int).length = zs.length := List.length_map ..
/-! ### dicts in the heap -/
theorem o_idxK (e : h[n]? = some (.dct kvs)) (x : Tx) : opApp s .idx [.ref n, .str x] h = (match kGet kvs (.inr x) with
  | some d => .ok d h
  | none => .no) := by
  show opIdx h (.ref n) (.str x) = _
  unfold opIdx
  simp [dcD, e, kyD] <;> rfl
theorem o_idxKi (e : h[n]? = some (.dct kvs)) (i : Int) : opApp s .idx [.ref n, .int i] h = (match kGet kvs (.inl i) with
  | some d => .ok d h
  | none => .no) := by
  show opIdx h (.ref n) (.int i) = _
  unfold opIdx
  simp [dcD, e, kyD] <;> rfl
theorem o_setK (e : h[n]? = some (.dct kvs)) (x : Tx) : opApp s .setItem [d, .ref n, .str x] h = whenR (D.pers d && decide (kvs.length < cells)) (.ok .non (h.set n (.dct (kPut kvs (.inr x) d)))) := by
  show (match h[n]?, (D.str x : D) with
    | some (.lst xs), .int i => (match ixP xs.length i with
      | some k => whenR (D.pers d) (chg h n (xs.set k d) .non)
      | none => .no)
    | some (.dct kvs), b => (match kyD b with
      | some k => whenR (D.pers d && decide (kvs.length < cells)) (.ok .non (h.set n (.dct (kPut kvs k d))))
      | none => .no)
    | _, _ => .no) = _
  rw [e]
  rfl
theorem o_setKi (e : h[n]? = some (.dct kvs)) (i : Int) : opApp s .setItem [d, .ref n, .int i] h = whenR (D.pers d && decide (kvs.length < cells)) (.ok .non (h.set n (.dct (kPut kvs (.inl i) d)))) := by
  show (match h[n]?, (D.int i : D) with
    | some (.lst xs), .int i => (match ixP xs.length i with
      | some k => whenR (D.pers d) (chg h n (xs.set k d) .non)
      | none => .no)
    | some (.dct kvs), b => (match kyD b with
      | some k => whenR (D.pers d && decide (kvs.length < cells)) (.ok .non (h.set n (.dct (kPut kvs k d))))
      | none => .no)
    | _, _ => .no) = _
  rw [e]
  rfl
theorem o_notInK (e : h[n]? = some (.dct kvs)) (i : Int) : opApp s .notIn [.int i, .ref n] h = .ok (.bl (!(kGet kvs (.inl i)).isSome)) h := by
  show opIn h true (.int i) (.ref n) = _
  unfold opIn
  simp [dcD, e, kyD]
/-- not in a list of ints -/
theorem o_notInL {zs : List Int} (e : h[n]? = some (.lst (zs.map .int))) : opApp s .notIn [.int i, .ref n] h = .ok (.bl (!decide (i ∈ zs))) h := by
  show opIn h true (.int i) (.ref n) = _
  have fl : ((zs.map D.int).all flatD) = true := by simp [flatD]
  have an : ((zs.map D.int).any fun y => D.eqv y (.int i)) = decide (i ∈ zs) := by
    rw [List.any_map]
    by_cases c : i ∈ zs
    · rw [decide_eq_true c]
      simp
      exact ⟨i, c, by simp [D.eqv]⟩
    · rw [decide_eq_false c]
      simp
      intro z hz
      simp [D.eqv]
      intro q
      subst q
      exact c hz
  unfold opIn
  simp only [dcD, e, sqD, lsD, fl, an, flatD, Bool.true_and]
  simp
/-! ### the heap behind a call -/
/-- the old cells stand as they stood -/
structure Grow (h g : Hh) : Prop where
  len : h.length ≤ g.length
  off : ∀ i, i < h.length → g[i]? = h[i]?
theorem Grow.refl : Grow h h := ⟨Nat.le_refl _, fun _ _ => rfl⟩
theorem Grow.trans {f : Hh} (x : Grow f g) (y : Grow g h) : Grow f h := ⟨Nat.le_trans x.len y.len, fun i hi => (y.off i (Nat.lt_of_lt_of_le hi x.len)).trans (x.off i hi)⟩
theorem Grow.app (cs : List C) : Grow h (h ++ cs) := ⟨by simp, fun i hi => List.getElem?_append_left hi⟩
theorem Grow.at {c : C} (x : Grow h g) (e : h[n]? = some c) : g[n]? = some c := (x.off n (List.getElem?_eq_some_iff.mp e).1).trans e
theorem Grow.set {c : C} (x : Grow h g) (hr : h.length ≤ r) : Grow h (g.set r c) := ⟨by rw [List.length_set]; exact x.len, fun i hi => by rw [List.getElem?_set_ne (by omega)]; exact x.off i hi⟩
theorem Grow.take (x : Grow h g) : g.take h.length = h := by
  refine List.ext_getElem? fun i => ?_
  by_cases hi : i < h.length
  · rw [List.getElem?_take_of_lt hi, x.off i hi]
  · rw [List.getElem?_eq_none (by rw [List.length_take]; have := x.len; omega), List.getElem?_eq_none (by omega)]
theorem trim_grow {n : Nat} : ∀ (h g : Hh), Grow h g → trimOk n h g = true
  | [], _, _ => rfl
  | c :: h, [], x => by have := x.len; simp at this
  | c :: h, c' :: g, x => by
    show ((C.beq c c' || C.low n c') && trimOk n h g) = true
    have e : c' = c := by have := x.off 0 (by simp); simpa using this
    subst e
    rw [cbeq_refl, trim_grow h g ⟨by have := x.len; simpa using this, fun i hi => by have := x.off (i + 1) (by simpa using hi); simpa using this⟩]
    rfl
def isRef : D → Bool
  | .ref _ => true
  | _ => false
theorem fin_grow (x : Grow h g) (hd : D.low h.length d = true) (hr : isRef d = false) : finish h d g = .ok d h := by
  by_cases e : g.length = h.length
  · have : g = h := by
      rw [← x.take, ← e, List.take_length]
    subst this
    exact s_fin
  · have el : lift h.length g d = d := by cases d <;> first | rfl | cases hr
    unfold finish
    rw [if_neg e, el, hd, trim_grow h g x, x.take]
    rfl
/-- a new list of flat data handed back -/
theorem fin_list (x : Grow h g) (hn : h.length ≤ n) (e : g[n]? = some (.lst xs)) (hd : D.lowL h.length xs = true) : finish h (.ref n) g = .ok (.lst xs) h := by
  have hl := (List.getElem?_eq_some_iff.mp e).1
  have el : lift h.length g (.ref n) = .lst xs := by
    unfold lift
    simp only
    rw [if_pos hn, e]
  unfold finish
  rw [if_neg (by omega), el, trim_grow h g x, x.take]
  simp [D.low, hd]
theorem low_map (f : α → D) (hf : ∀ z, D.low n (f z) = true) : ∀ zs : List α, D.lowL n (zs.map f) = true
  | [] => by simp [D.lowL]
  | z :: zs => by simp [D.lowL, hf z, low_map f hf zs]
end
/-! ### numbers -/
theorem fmod_pos {a b : Int} (hb : 0 < b) : a.fmod b = a % b := by
  rw [Int.fmod_eq_emod, if_pos (.inl (by omega))]; omega
theorem fdiv_pos {a b : Int} (hb : 0 < b) : a.fdiv b = a / b := Int.fdiv_eq_ediv_of_nonneg a (by omega)
theorem pw {k l : Nat} (h : k ≤ l) : 2 ^ k ≤ 2 ^ l := Nat.pow_le_pow_right (by omega) h
theorem small_bigD {x : Int} (h : x.natAbs < 1000000000000000000) : x.natAbs < bigD := Nat.lt_trans h (Nat.lt_of_lt_of_le (by decide : 1000000000000000000 < 2 ^ 60) (pw (by omega)))
theorem mul_small {i j : Int} (h : i.natAbs < 18446744073709551616 ∨ j.natAbs < 18446744073709551616) : mulOk i j = true := by
  unfold mulOk
  rcases h with h | h <;> simp [h]
theorem rangeN_one (lo hi : Int) : rangeN lo hi 1 = (hi - lo).toNat := by
  unfold rangeN
  rw [if_pos (by decide)]
  split
  · rw [Int.ediv_one]; omega
  · omega
/-- range(n) as naturals -/
theorem range_nat (n : Nat) : rangeL 0 (rangeN 0 (n : Int) 1) 1 = (List.range n).map fun (k : Nat) => D.int (k : Int) := by
  rw [rangeN_one]
  unfold rangeL
  have : ((n : Int) - 0).toNat = n := by omega
  rw [this]
  refine List.map_congr_left fun k _ => ?_
  simp
theorem rangeL_pers {lo c : Int} {n : Nat} : ∀ x ∈ rangeL lo n c, D.pers x = true := fun x hx => by
  obtain ⟨k, _, rfl⟩ := List.mem_map.mp hx
  rfl
theorem rng1 (i : Int) : rngS [.int i] = some ⟨rangeL 0 (rangeN 0 i 1) 1, []⟩ := rfl
theorem rng2 (i j : Int) : rngS [.int i, .int j] = some ⟨rangeL i (rangeN i j 1) 1, []⟩ := rfl
end Ivy

namespace Lk09
open Ivy
def nexts_of : Fn := ⟨1, 1, [.ite (.ex (.op .eq [(.op .idx [(.var 0), (.lit (.int 0))]), (.lit (.str [99, 104, 111, 111, 115, 101]))])) [.ret (.op .idx [(.var 0), (.lit (.int 1))])] [], .ret (.ifx (.ex (.op .eq [(.op .idx [(.var 0), (.lit (.int 0))]), (.lit (.str [114, 101, 116, 117, 114, 110]))])) (.op .tup []) (.op .tup [(.op .idx [(.var 0), (.lit (.int 2))])]))]⟩
def goes_on : Fn := ⟨4, 5, [.ite (.ex (.op .eq [(.op .idx [(.var 1), (.lit (.int 0))]), (.lit (.str [114, 101, 116, 117, 114, 110]))])) [.ret (.lit (.bl true))] [], .ite (.and (.ex (.op .eq [(.op .idx [(.var 1), (.lit (.int 0))]), (.lit (.str [99, 97, 108, 108]))])) (.not (.ex (.op .idx [(.op .idx [(.var 2), (.op .idx [(.var 1), (.lit (.int 1))])]), (.lit (.int 0))])))) [.ret (.lit (.bl false))] [], .ret (.op .any [(.comp [4] (.name 4) (.seq (.call 0 [(.var 1)] [])) [] (.op .idx [(.var 3), (.var 4)]))])]⟩
def ended_marks_l1 : List St := [.ex (.op .append [(.ck 1 (.var 5)), (.box (.comp [2] (.name 2) (.seq (.var 3)) [] (.box (.call 1 [(.var 0), (.var 2), (.var 1), (.op .idx [(.var 1), (.var 6)])] []))))])]
def ended_marks_l2 : List St := [.asg (.name 5) (.box (.op .lst [])), .for (.tup [(.name 6), (.name 3)]) (.enum (.var 0)) ended_marks_l1 [2, 3, 6], .asg (.name 4) (.op .ne [(.var 5), (.var 1)]), .asg (.name 1) (.var 5)]
def ended_marks : Fn := ⟨1, 7, [.asg (.name 1) (.box (.comp [3] (.name 3) (.seq (.var 0)) [] (.box (.comp [2] (.name 2) (.seq (.var 3)) [] (.lit (.bl false)))))), .asg (.name 4) (.lit (.bl true)), .whl (.ex (.var 4)) ended_marks_l2 [2, 3, 5, 6], .ret (.var 1)]⟩
def ended_rows : Fn := ⟨1, 4, [.ret (.op .tuple [(.comp [3] (.name 3) (.seq (.call 2 [(.var 0)] [])) [] (.op .tuple [(.comp [1, 2] (.tup [(.name 1), (.name 2)]) (.enum (.var 3)) [(.ex (.var 2))] (.var 1))]))])]⟩
def lost_words : Fn := ⟨1, 3, [.ret (.op .tuple [(.comp [1, 2] (.tup [(.name 1), (.name 2)]) (.enum (.call 2 [(.var 0)] [])) [(.not (.ex (.op .idx [(.var 2), (.lit (.int 0))])))] (.var 1))])]⟩
def ways_on : Fn := ⟨4, 5, [.asg (.name 4) (.op .idx [(.op .idx [(.var 0), (.var 2)]), (.var 3)]), .ret (.ifx (.and (.ex (.op .eq [(.op .idx [(.var 4), (.lit (.int 0))]), (.lit (.str [99, 97, 108, 108]))])) (.not (.ex (.op .idx [(.op .idx [(.var 1), (.op .idx [(.var 4), (.lit (.int 1))])]), (.lit (.int 0))])))) (.op .tup []) (.call 0 [(.var 4)] []))]⟩
def met_by_l1 : List St := [.ite (.ex (.op .notIn [(.var 5), (.var 3)])) [.ex (.op .append [(.ck 1 (.var 3)), (.var 5)])] []]
def met_by_l2 : List St := [.for (.name 5) (.seq (.call 5 [(.var 0), (.var 1), (.var 2), (.op .idx [(.var 3), (.var 4)])] [])) met_by_l1 [5], .asg (.name 4) (.op .iadd [(.var 4), (.lit (.int 1))])]
def met_by : Fn := ⟨3, 6, [.asg (.name 3) (.box (.op .lst [(.lit (.int 0))])), .asg (.name 4) (.lit (.int 0)), .whl (.ex (.op .lt [(.var 4), (.op .len [(.var 3)])])) met_by_l2 [5], .ret (.var 3)]⟩
def met_rows : Fn := ⟨2, 2, [.ret (.op .tuple [(.op .sorted [(.call 6 [(.var 0), (.box (.call 2 [(.var 0)] [])), (.var 1)] [])])])]⟩
def needed_by_l1 : List St := [.asg (.name 6) (.op .idx [(.op .idx [(.var 0), (.op .idx [(.var 3), (.var 4)])]), (.var 5)]), .ite (.and (.ex (.op .eq [(.op .idx [(.var 6), (.lit (.int 0))]), (.lit (.str [99, 97, 108, 108]))])) (.and (.ex (.op .idx [(.op .idx [(.var 1), (.op .idx [(.var 3), (.var 4)])]), (.var 5)])) (.ex (.op .notIn [(.op .idx [(.var 6), (.lit (.int 1))]), (.var 3)])))) [.ex (.op .append [(.ck 1 (.var 3)), (.op .idx [(.var 6), (.lit (.int 1))])])] []]
def needed_by_l2 : List St := [.for (.name 5) (.seq (.call 6 [(.var 0), (.var 1), (.op .idx [(.var 3), (.var 4)])] [])) needed_by_l1 [5, 6], .asg (.name 4) (.op .iadd [(.var 4), (.lit (.int 1))])]
def needed_by : Fn := ⟨3, 7, [.asg (.name 3) (.box (.op .lst [(.var 2)])), .asg (.name 4) (.lit (.int 0)), .whl (.ex (.op .lt [(.var 4), (.op .len [(.var 3)])])) needed_by_l2 [5, 6], .ret (.var 3)]⟩
def needed_words : Fn := ⟨2, 2, [.ret (.op .tuple [(.op .sorted [(.call 8 [(.var 0), (.box (.call 2 [(.var 0)] [])), (.var 1)] [])])])]⟩
def _law_rack_l1 : List St := [.asg (.name 4) (.op .mod [(.op .abs [(.op .int [(.op .idx [(.var 0), (.var 3)])])]), (.op .pow [(.lit (.int 10)), (.lit (.int 22))])]), .ex (.op .extend [(.ck 1 (.var 1)), (.op .lst [(.op .mod [(.var 4), (.lit (.int 1299709))]), (.op .mod [(.op .fdiv [(.var 4), (.lit (.int 1299709))]), (.lit (.int 1299709))])])]), .asg (.name 2) (.op .mod [(.op .add [(.op .add [(.op .add [(.op .mul [(.var 2), (.lit (.int 65539))]), (.var 4)]), (.op .mul [(.lit (.int 2)), (.var 3)])]), (.op .int [(.op .lt [(.op .idx [(.var 0), (.var 3)]), (.lit (.int 0))])])]), (.lit (.int 2147483249))])]
def _law_rack : Fn := ⟨1, 5, [.asg (.tup [(.name 1), (.name 2)]) (.op .tup [(.box (.op .lst [(.lit (.int 909))])), (.lit (.int 99))]), .for (.name 3) (.rng [(.op .min2 [(.lit (.int 44)), (.op .len [(.var 0)])])]) _law_rack_l1 [3, 4], .ret (.op .dict [(.lit (.str [99, 111, 114, 107, 115])), (.var 1), (.lit (.str [115, 116, 105, 114])), (.var 2), (.lit (.str [116, 117, 114, 110])), (.lit (.int 0)), (.lit (.str [109, 111, 111, 100])), (.box (.op .dict []))])]⟩
def _law_cork : Fn := ⟨3, 5, [.ex (.op .setItem [(.box (.op .add [(.op .idx [(.var 0), (.lit (.str [116, 117, 114, 110]))]), (.lit (.int 1))])), (.var 0), (.lit (.str [116, 117, 114, 110]))]), .asg (.name 3) (.op .idx [(.op .idx [(.var 0), (.lit (.str [99, 111, 114, 107, 115]))]), (.op .mod [(.op .int [(.op .mul [(.op .idx [(.var 0), (.lit (.str [116, 117, 114, 110]))]), (.lit (.int 3))])]), (.op .len [(.op .idx [(.var 0), (.lit (.str [99, 111, 114, 107, 115]))])])])]), .ex (.op .setItem [(.op .mod [(.op .int [(.op .add [(.op .add [(.op .mul [(.op .idx [(.var 0), (.lit (.str [115, 116, 105, 114]))]), (.lit (.int 45991))]), (.op .mul [(.var 3), (.lit (.int 19))])]), (.op .idx [(.var 0), (.lit (.str [116, 117, 114, 110]))])])]), (.lit (.int 2147483249))]), (.var 0), (.lit (.str [115, 116, 105, 114]))]), .asg (.name 4) (.op .int [(.op .fdiv [(.op .idx [(.var 0), (.lit (.str [115, 116, 105, 114]))]), (.lit (.int 61))])]), .ite (.ex (.op .notIn [(.var 1), (.op .idx [(.var 0), (.lit (.str [109, 111, 111, 100]))])])) [.ex (.op .setItem [(.op .mod [(.op .int [(.op .fdiv [(.var 4), (.lit (.int 3))])]), (.lit (.int 14))]), (.op .idx [(.var 0), (.lit (.str [109, 111, 111, 100]))]), (.var 1)])] [], .ite (.and (.ex (.op .lt [(.op .idx [(.op .idx [(.var 0), (.lit (.str [109, 111, 111, 100]))]), (.var 1)]), (.lit (.int 2))])) (.ex (.op .gt [(.op .mod [(.var 4), (.lit (.int 5))]), (.lit (.int 0))]))) [.ret (.op .idx [(.op .tup [(.lit (.int 0)), (.op .sub [(.var 2), (.lit (.int 1))])]), (.op .idx [(.op .idx [(.var 0), (.lit (.str [109, 111, 111, 100]))]), (.var 1)])])] [], .ret (.op .mod [(.var 4), (.var 2)])]⟩
def _law_word_l1 : List St := [.asg (.name 7) (.box (.call 11 [(.var 0), (.lit (.int 2)), (.lit (.int 16))] [])), .asg (.name 8) (.box (.ifx (.ex (.op .gt [(.call 11 [(.var 0), (.lit (.int 3)), (.lit (.int 3))] []), (.lit (.int 0))])) (.op .mod [(.op .add [(.var 6), (.lit (.int 1))]), (.var 4)]) (.call 11 [(.var 0), (.lit (.int 4)), (.var 4)] []))), .ite (.ex (.op .lt [(.var 7), (.var 3)])) [.ex (.op .append [(.ck 1 (.var 5)), (.op .tup [(.lit (.str [99, 97, 108, 108])), (.box (.ifx (.ex (.op .eq [(.call 11 [(.var 0), (.lit (.int 5)), (.lit (.int 3))] []), (.lit (.int 0))])) (.op .mod [(.op .add [(.var 2), (.lit (.int 1))]), (.var 1)]) (.call 11 [(.var 0), (.lit (.int 6)), (.var 1)] []))), (.var 8)])])] [.ite (.ex (.op .lt [(.var 7), (.lit (.int 11))])) [.asg (.name 9) (.box (.op .add [(.lit (.int 1)), (.call 11 [(.var 0), (.lit (.int 7)), (.lit (.int 6))] [])])), .ex (.op .append [(.ck 1 (.var 5)), (.op .tup [(.lit (.str [100, 101, 101, 100])), (.op .tup [(.box (.call 11 [(.var 0), (.lit (.int 8)), (.var 9)] [])), (.var 9), (.op .sub [(.call 11 [(.var 0), (.lit (.int 9)), (.lit (.int 9))] []), (.lit (.int 4))]), (.op .idx [(.op .tup [(.lit (.int 1)), (.op .neg [(.lit (.int 1))]), (.lit (.int 2))]), (.call 11 [(.var 0), (.lit (.int 10)), (.lit (.int 3))] [])])]), (.var 8)])])] [.ite (.ex (.op .lt [(.var 7), (.lit (.int 14))])) [.ex (.op .append [(.ck 1 (.var 5)), (.op .tup [(.lit (.str [99, 104, 111, 111, 115, 101])), (.op .tuple [(.op .add [(.op .lst [(.var 8)]), (.comp [10] (.name 10) (.rng [(.op .add [(.lit (.int 1)), (.call 11 [(.var 0), (.lit (.int 12)), (.lit (.int 2))] [])])]) [] (.box (.call 11 [(.var 0), (.lit (.int 11)), (.var 4)] [])))])])])])] [.ex (.op .append [(.ck 1 (.var 5)), (.op .tup [(.lit (.str [114, 101, 116, 117, 114, 110]))])])]]]]
def _law_word : Fn := ⟨4, 11, [.asg (.name 4) (.box (.op .add [(.lit (.int 1)), (.call 11 [(.var 0), (.lit (.int 1)), (.lit (.int 7))] [])])), .asg (.name 5) (.box (.op .lst [])), .for (.name 6) (.rng [(.var 4)]) _law_word_l1 [6, 7, 8, 9, 10], .ite (.ex (.op .gt [(.call 11 [(.var 0), (.lit (.int 13)), (.lit (.int 3))] []), (.lit (.int 0))])) [.ex (.op .append [(.ck 1 (.var 5)), (.op .tup [(.lit (.str [114, 101, 116, 117, 114, 110]))])])] [], .ret (.op .tuple [(.var 5)])]⟩
def _law_code : Fn := ⟨1, 4, [.asg (.name 1) (.op .idx [(.op .tup [(.lit (.int 1)), (.lit (.int 2)), (.lit (.int 3)), (.lit (.int 4)), (.lit (.int 12))]), (.call 11 [(.var 0), (.lit (.int 14)), (.lit (.int 5))] [])]), .asg (.name 2) (.op .idx [(.op .tup [(.lit (.int 2)), (.lit (.int 4)), (.lit (.int 8))]), (.call 11 [(.var 0), (.lit (.int 15)), (.lit (.int 3))] [])]), .ret (.op .tuple [(.comp [3] (.name 3) (.rng [(.var 1)]) [] (.box (.call 12 [(.var 0), (.var 1), (.var 3), (.var 2)] [])))])]⟩
def _law_chain_l1 : List St := [.asg (.name 4) (.op .idx [(.op .tup [(.op .tup [(.op .tup [(.lit (.str [99, 104, 111, 111, 115, 101])), (.op .tup [(.lit (.int 1)), (.lit (.int 2))])]), (.op .tup [(.lit (.str [99, 97, 108, 108])), (.box (.op .add [(.var 3), (.lit (.int 1))])), (.lit (.int 2))]), (.op .tup [(.lit (.str [114, 101, 116, 117, 114, 110]))])]), (.op .tup [(.op .tup [(.lit (.str [99, 97, 108, 108])), (.box (.op .add [(.var 3), (.lit (.int 1))])), (.lit (.int 1))]), (.op .tup [(.lit (.str [114, 101, 116, 117, 114, 110]))])])]), (.op .int [(.op .gt [(.call 11 [(.var 0), (.lit (.int 17)), (.lit (.int 4))] []), (.lit (.int 0))])])]), .ex (.op .append [(.ck 1 (.var 2)), (.var 4)])]
def _law_chain : Fn := ⟨1, 6, [.asg (.name 1) (.box (.op .add [(.lit (.int 2)), (.call 11 [(.var 0), (.lit (.int 16)), (.lit (.int 11))] [])])), .asg (.name 2) (.box (.op .lst [])), .for (.name 3) (.rng [(.op .sub [(.var 1), (.lit (.int 1))])]) _law_chain_l1 [3, 4], .asg (.name 5) (.box (.call 11 [(.var 0), (.lit (.int 18)), (.lit (.int 3))] [])), .ex (.op .append [(.ck 1 (.var 2)), (.op .idx [(.op .tup [(.op .tup [(.op .tup [(.lit (.str [114, 101, 116, 117, 114, 110]))])]), (.op .tup [(.op .tup [(.lit (.str [99, 97, 108, 108])), (.lit (.int 0)), (.lit (.int 1))]), (.op .tup [(.lit (.str [114, 101, 116, 117, 114, 110]))])]), (.op .tup [(.op .tup [(.lit (.str [99, 97, 108, 108])), (.op .sub [(.var 1), (.lit (.int 1))]), (.lit (.int 0))])])]), (.var 5)])]), .ret (.op .tuple [(.var 2)])]⟩
def _law_nexts : Fn := ⟨1, 1, [.ret (.ifx (.ex (.op .eq [(.op .idx [(.var 0), (.lit (.int 0))]), (.lit (.str [99, 104, 111, 111, 115, 101]))])) (.op .idx [(.var 0), (.lit (.int 1))]) (.ifx (.ex (.op .ne [(.op .idx [(.var 0), (.lit (.int 0))]), (.lit (.str [114, 101, 116, 117, 114, 110]))])) (.op (.slice true false) [(.var 0), (.lit (.int 2))]) (.op .tup [])))]⟩
def _law_ended_l1 : List St := [.asg (.name 7) (.op .idx [(.op .idx [(.var 0), (.var 5)]), (.var 6)]), .asg (.name 8) (.or (.op .eq [(.op .idx [(.var 7), (.lit (.int 0))]), (.lit (.str [114, 101, 116, 117, 114, 110]))]) (.op .gt [(.op .len [(.comp [9] (.name 9) (.seq (.call 15 [(.var 7)] [])) [(.ex (.op .idx [(.op .idx [(.var 1), (.var 5)]), (.var 9)]))] (.var 9))]), (.lit (.int 0))])), .ite (.and (.ex (.op .eq [(.op .idx [(.var 7), (.lit (.int 0))]), (.lit (.str [99, 97, 108, 108]))])) (.not (.ex (.op .idx [(.op .idx [(.var 1), (.op .idx [(.var 7), (.lit (.int 1))])]), (.lit (.int 0))])))) [.asg (.name 8) (.lit (.bl false))] [], .ite (.and (.ex (.var 8)) (.not (.ex (.op .idx [(.op .idx [(.var 1), (.var 5)]), (.var 6)])))) [.ex (.op .setItem [(.lit (.bl true)), (.op .idx [(.var 1), (.var 5)]), (.var 6)]), .asg (.name 4) (.lit (.bl true))] []]
def _law_ended_l2 : List St := [.for (.name 6) (.rng [(.op .sub [(.op .len [(.op .idx [(.var 0), (.var 5)])]), (.lit (.int 1))]), (.op .neg [(.lit (.int 1))]), (.op .neg [(.lit (.int 1))])]) _law_ended_l1 [6, 7, 8, 9]]
def _law_ended_l3 : List St := [.asg (.name 4) (.lit (.bl false)), .for (.name 5) (.rng [(.op .len [(.var 0)])]) _law_ended_l2 [5, 6, 7, 8, 9], .ite (.not (.ex (.var 4))) [.brk] []]
def _law_ended : Fn := ⟨1, 10, [.asg (.name 1) (.box (.comp [2] (.name 2) (.seq (.var 0)) [] (.box (.op .mul [(.op .lst [(.lit (.bl false))]), (.op .len [(.var 2)])])))), .for (.name 3) (.rng [(.op .add [(.lit (.int 2)), (.op .sum [(.comp [2] (.name 2) (.seq (.var 0)) [] (.op .len [(.var 2)]))])])]) _law_ended_l3 [3, 4, 5, 6, 7, 8, 9], .ret (.var 1)]⟩
def _law_met_l1 : List St := [.ite (.ex (.op .notIn [(.var 7), (.var 3)])) [.ex (.op .append [(.ck 1 (.var 3)), (.var 7)]), .ex (.op .append [(.ck 1 (.var 4)), (.var 7)])] []]
def _law_met_l2 : List St := [.ite (.ex (.op .eq [(.op .len [(.var 4)]), (.lit (.int 0))])) [.brk] [], .asg (.name 6) (.op .idx [(.op .idx [(.var 0), (.var 2)]), (.op .pop [(.ck 1 (.var 4))])]), .ite (.and (.ex (.op .eq [(.op .idx [(.var 6), (.lit (.int 0))]), (.lit (.str [99, 97, 108, 108]))])) (.not (.ex (.op .idx [(.op .idx [(.var 1), (.op .idx [(.var 6), (.lit (.int 1))])]), (.lit (.int 0))])))) [.cont] [], .for (.name 7) (.seq (.call 15 [(.var 6)] [])) _law_met_l1 [7]]
def _law_met : Fn := ⟨3, 8, [.asg (.tup [(.name 3), (.name 4)]) (.op .tup [(.box (.op .lst [(.lit (.int 0))])), (.box (.op .lst [(.lit (.int 0))]))]), .for (.name 5) (.rng [(.op .add [(.op .len [(.op .idx [(.var 0), (.var 2)])]), (.lit (.int 1))])]) _law_met_l2 [5, 6, 7], .ret (.op .sorted [(.var 3)])]⟩
def _law_needed_l1 : List St := [.asg (.name 7) (.op .idx [(.op .idx [(.var 0), (.var 5)]), (.var 6)]), .ite (.and (.ex (.op .idx [(.op .idx [(.var 1), (.var 5)]), (.var 6)])) (.and (.ex (.op .eq [(.op .idx [(.var 7), (.lit (.int 0))]), (.lit (.str [99, 97, 108, 108]))])) (.ex (.op .notIn [(.op .idx [(.var 7), (.lit (.int 1))]), (.var 3)])))) [.ex (.op .append [(.ck 1 (.var 3)), (.op .idx [(.var 7), (.lit (.int 1))])])] []]
def _law_needed_l2 : List St := [.ite (.ex (.op .ge [(.var 4), (.op .len [(.var 3)])])) [.brk] [], .asg (.name 5) (.op .idx [(.var 3), (.var 4)]), .for (.name 6) (.seq (.call 17 [(.var 0), (.var 1), (.var 5)] [])) _law_needed_l1 [6, 7]]
def _law_needed : Fn := ⟨3, 8, [.asg (.name 3) (.box (.op .lst [(.var 2)])), .for (.name 4) (.rng [(.op .len [(.var 0)])]) _law_needed_l2 [4, 5, 6, 7], .ret (.op .sorted [(.var 3)])]⟩
def _law_same : Fn := ⟨2, 3, [.ite (.ex (.op (.isi [.tuple]) [(.var 1)])) [.ite (.or (.not (.ex (.op (.isi [.tuple]) [(.var 0)]))) (.ex (.op .ne [(.op .len [(.var 0)]), (.op .len [(.var 1)])]))) [.ret (.lit (.bl false))] [], .ret (.op .eq [(.op .len [(.comp [2] (.name 2) (.rng [(.op .len [(.var 1)])]) [(.not (.ex (.call 19 [(.op .idx [(.var 0), (.var 2)]), (.op .idx [(.var 1), (.var 2)])] [])))] (.var 2))]), (.lit (.int 0))])] [], .ret (.and (.op (.isi [.int]) [(.var 0)]) (.and (.not (.ex (.op (.isi [.bool]) [(.var 0)]))) (.op .eq [(.var 0), (.var 1)])))]⟩
def _law_asked_l1 : List St := [.asg (.name 7) (.op .tup [(.box (.call 7 [(.var 0), (.var 5)] [])), (.box (.ifx (.ex (.var 1)) (.call 9 [(.var 5), (.var 0)] [1, 0]) (.call 9 [(.var 0), (.var 5)] [])))]), .ite (.not (.ex (.call 19 [(.var 7), (.op .tup [(.op .tuple [(.call 17 [(.var 0), (.var 2), (.var 5)] [])]), (.op .tuple [(.call 18 [(.var 0), (.var 2), (.var 5)] [])])])] []))) [.ret (.lit (.bl false))] []]
def _law_asked : Fn := ⟨2, 9, [.asg (.name 2) (.box (.call 16 [(.var 0)] [])), .asg (.name 3) (.op .tuple [(.comp [5] (.name 5) (.seq (.var 2)) [] (.op .tuple [(.comp [4] (.name 4) (.rng [(.op .len [(.var 5)])]) [(.ex (.op .idx [(.var 5), (.var 4)]))] (.var 4))]))]), .asg (.name 6) (.op .tuple [(.comp [5] (.name 5) (.rng [(.op .len [(.var 0)])]) [(.not (.ex (.op .idx [(.op .idx [(.var 2), (.var 5)]), (.lit (.int 0))])))] (.var 5))]), .asg (.name 7) (.ifx (.ex (.var 1)) (.op .tup [(.box (.call 3 [(.var 0)] [0])), (.box (.call 4 [(.var 0)] [0]))]) (.op .tup [(.box (.call 3 [(.var 0)] [])), (.box (.call 4 [(.var 0)] []))])), .ite (.not (.ex (.call 19 [(.var 7), (.op .tup [(.var 3), (.var 6)])] []))) [.ret (.lit (.bl false))] [], .asg (.name 8) (.box (.op .listRng [(.op .len [(.var 0)])])), .for (.name 5) (.seq (.ifx (.ex (.op .lt [(.op .len [(.var 0)]), (.lit (.int 5))])) (.var 8) (.op .lst [(.lit (.int 0)), (.op .fdiv [(.op .len [(.var 0)]), (.lit (.int 2))]), (.op .sub [(.op .len [(.var 0)]), (.lit (.int 1))])]))) _law_asked_l1 [5, 7], .ret (.lit (.bl true))]⟩
def _law_turned : Fn := ⟨2, 5, [.asg (.name 2) (.box (.call 11 [(.var 0), (.lit (.int 19)), (.op .len [(.var 1)])] [])), .asg (.name 3) (.box (.call 11 [(.var 0), (.lit (.int 20)), (.op .len [(.op .idx [(.var 1), (.var 2)])])] [])), .asg (.name 4) (.ifx (.ex (.op .eq [(.call 11 [(.var 0), (.lit (.int 21)), (.lit (.int 2))] []), (.lit (.int 0))])) (.op .tup [(.lit (.str [114, 101, 116, 117, 114, 110]))]) (.op .tup [(.lit (.str [99, 97, 108, 108])), (.box (.call 11 [(.var 0), (.lit (.int 22)), (.op .len [(.var 1)])] [])), (.box (.call 11 [(.var 0), (.lit (.int 23)), (.op .len [(.op .idx [(.var 1), (.var 2)])])] []))])), .ret (.op .add [(.op .add [(.op (.slice false true) [(.var 1), (.var 2)]), (.op .tup [(.box (.op .add [(.op .add [(.op (.slice false true) [(.op .idx [(.var 1), (.var 2)]), (.var 3)]), (.op .tup [(.var 4)])]), (.op (.slice true false) [(.op .idx [(.var 1), (.var 2)]), (.op .add [(.var 3), (.lit (.int 1))])])]))])]), (.op (.slice true false) [(.var 1), (.op .add [(.var 2), (.lit (.int 1))])])])]⟩
def _law_hand_l1 : List St := [.asg (.name 9) (.box (.op .listRng [(.op .len [(.var 4)])])), .asg (.name 10) (.op .tup [(.op .tuple [(.comp [11] (.name 11) (.seq (.var 9)) [] (.box (.call 7 [(.var 4), (.var 11)] [])))]), (.op .tuple [(.comp [11] (.name 11) (.seq (.var 9)) [] (.box (.call 9 [(.var 4), (.var 11)] [])))])]), .asg (.name 12) (.box (.op .add [(.op .tup [(.box (.call 3 [(.var 4)] [])), (.box (.call 4 [(.var 4)] []))]), (.var 10)])), .ite (.not (.ex (.call 19 [(.var 12), (.op .tup [(.var 5), (.var 6), (.var 7), (.var 8)])] []))) [.ret (.lit (.bl false))] []]
def _law_hand : Fn := ⟨0, 13, [.asg (.tup [(.name 0), (.name 1)]) (.op .tup [(.op .tup [(.lit (.str [100, 101, 101, 100])), (.op .tup [(.lit (.int 0)), (.lit (.int 1)), (.lit (.int 1)), (.lit (.int 1))]), (.lit (.int 1))]), (.op .tup [(.lit (.str [114, 101, 116, 117, 114, 110]))])]), .asg (.name 2) (.box (.op .lst [(.op .tup [(.op .tup [(.op .tup [(.op .tup [(.lit (.str [99, 97, 108, 108])), (.lit (.int 0)), (.lit (.int 1))]), (.var 1)])]), (.op .tup [(.op .tup [(.lit (.int 1))])]), (.op .tup [(.lit (.int 0))]), (.op .tup [(.op .tup [(.lit (.int 0))])]), (.op .tup [(.op .tup [(.lit (.int 0))])])])])), .asg (.name 2) (.box (.op .add [(.var 2), (.op .lst [(.op .tup [(.op .tup [(.op .tup [(.op .tup [(.lit (.str [99, 104, 111, 111, 115, 101])), (.op .tup [(.lit (.int 0)), (.lit (.int 0))])]), (.var 1)])]), (.op .tup [(.op .tup [(.lit (.int 1))])]), (.op .tup [(.lit (.int 0))]), (.op .tup [(.op .tup [(.lit (.int 0))])]), (.op .tup [(.op .tup [(.lit (.int 0))])])])])])), .asg (.name 2) (.box (.op .add [(.var 2), (.op .lst [(.op .tup [(.op .tup [(.op .tup [(.op .tup [(.lit (.str [99, 104, 111, 111, 115, 101])), (.op .tup [(.lit (.int 0)), (.lit (.int 1))])]), (.var 1)])]), (.op .tup [(.op .tup [(.lit (.int 0)), (.lit (.int 1))])]), (.op .tup []), (.op .tup [(.op .tup [(.lit (.int 0)), (.lit (.int 1))])]), (.op .tup [(.op .tup [(.lit (.int 0))])])])])])), .ex (.op .append [(.ck 1 (.var 2)), (.op .tup [(.op .tup [(.op .tup [(.op .tup [(.lit (.str [99, 97, 108, 108])), (.lit (.int 1)), (.lit (.int 1))]), (.var 1)]), (.op .tup [(.op .tup [(.lit (.str [99, 97, 108, 108])), (.lit (.int 0)), (.lit (.int 1))]), (.var 1)])]), (.op .tup [(.op .tup [(.lit (.int 1))]), (.op .tup [(.lit (.int 1))])]), (.op .tup [(.lit (.int 0)), (.lit (.int 1))]), (.op .tup [(.op .tup [(.lit (.int 0))]), (.op .tup [(.lit (.int 0))])]), (.op .tup [(.op .tup [(.lit (.int 0))]), (.op .tup [(.lit (.int 1))])])])]), .asg (.name 3) (.op .tup [(.op .tup [(.op .tup [(.lit (.str [99, 104, 111, 111, 115, 101])), (.op .tup [(.lit (.int 1)), (.lit (.int 3))])]), (.op .tup [(.lit (.str [99, 97, 108, 108])), (.lit (.int 1)), (.lit (.int 2))]), (.op .tup [(.lit (.str [99, 97, 108, 108])), (.lit (.int 2)), (.lit (.int 3))]), (.var 1)]), (.op .tup [(.op .tup [(.lit (.str [99, 97, 108, 108])), (.lit (.int 1)), (.lit (.int 1))]), (.var 1)]), (.op .tup [(.var 1)])]), .ex (.op .append [(.ck 1 (.var 2)), (.op .tup [(.var 3), (.op .tup [(.op .tup [(.lit (.int 0)), (.lit (.int 2)), (.lit (.int 3))]), (.op .tup [(.lit (.int 1))]), (.op .tup [(.lit (.int 0))])]), (.op .tup [(.lit (.int 1))]), (.op .tup [(.op .tup [(.lit (.int 0)), (.lit (.int 1)), (.lit (.int 3))]), (.op .tup [(.lit (.int 0))]), (.op .tup [(.lit (.int 0))])]), (.op .tup [(.op .tup [(.lit (.int 0))]), (.op .tup [(.lit (.int 1))]), (.op .tup [(.lit (.int 2))])])])]), .ex (.op .append [(.ck 1 (.var 2)), (.op .tup [(.op .tup [(.op .tup [(.op .tup [(.lit (.str [99, 104, 111, 111, 115, 101])), (.op .tup [(.lit (.int 1)), (.lit (.int 2))])]), (.op .tup [(.lit (.str [99, 97, 108, 108])), (.lit (.int 0)), (.lit (.int 2))]), (.var 1)])]), (.op .tup [(.op .tup [(.lit (.int 0)), (.lit (.int 1)), (.lit (.int 2))])]), (.op .tup []), (.op .tup [(.op .tup [(.lit (.int 0)), (.lit (.int 1)), (.lit (.int 2))])]), (.op .tup [(.op .tup [(.lit (.int 0))])])])]), .asg (.name 3) (.op .tup [(.op .tup [(.var 0), (.op .tup [(.lit (.str [99, 97, 108, 108])), (.lit (.int 1)), (.lit (.int 2))]), (.var 1)]), (.op .tup [(.op .tup [(.lit (.str [99, 104, 111, 111, 115, 101])), (.op .tup [(.lit (.int 1)), (.lit (.int 2))])]), (.op .tup [(.lit (.str [99, 97, 108, 108])), (.lit (.int 2)), (.lit (.int 2))]), (.var 1)]), (.op .tup [(.var 1), (.op .tup [(.lit (.str [99, 97, 108, 108])), (.lit (.int 0)), (.lit (.int 0))])])]), .ex (.op .append [(.ck 1 (.var 2)), (.op .tup [(.var 3), (.op .tup [(.op .tup [(.lit (.int 0)), (.lit (.int 1)), (.lit (.int 2))]), (.op .tup [(.lit (.int 0)), (.lit (.int 1)), (.lit (.int 2))]), (.op .tup [(.lit (.int 0)), (.lit (.int 1))])]), (.op .tup []), (.op .tup [(.op .tup [(.lit (.int 0)), (.lit (.int 1)), (.lit (.int 2))]), (.op .tup [(.lit (.int 0)), (.lit (.int 1)), (.lit (.int 2))]), (.op .tup [(.lit (.int 0))])]), (.op .tup [(.op .tup [(.lit (.int 0)), (.lit (.int 1)), (.lit (.int 2))]), (.op .tup [(.lit (.int 1)), (.lit (.int 2))]), (.op .tup [(.lit (.int 2))])])])]), .ex (.op .append [(.ck 1 (.var 2)), (.op .tup [(.op .tup [(.op .tup [(.var 0), (.op .tup [(.lit (.str [99, 104, 111, 111, 115, 101])), (.op .tup [(.lit (.int 0)), (.lit (.int 0))])]), (.op .tup [(.lit (.str [99, 97, 108, 108])), (.lit (.int 1)), (.lit (.int 3))]), (.var 1)]), (.op .tup [(.var 1)])]), (.op .tup [(.op .tup [(.lit (.int 2)), (.lit (.int 3))]), (.op .tup [(.lit (.int 0))])]), (.op .tup [(.lit (.int 0))]), (.op .tup [(.op .tup [(.lit (.int 0)), (.lit (.int 1))]), (.op .tup [(.lit (.int 0))])]), (.op .tup [(.op .tup [(.lit (.int 0))]), (.op .tup [(.lit (.int 1))])])])]), .for (.tup [(.name 4), (.name 5), (.name 6), (.name 7), (.name 8)]) (.seq (.var 2)) _law_hand_l1 [4, 5, 6, 7, 8, 9, 10, 11, 12], .ret (.lit (.bl true))]⟩
def law_l1 : List St := [.asg (.name 3) (.box (.call 13 [(.var 1)] [])), .ite (.or (.not (.ex (.call 20 [(.var 3), (.op .eq [(.var 2), (.lit (.int 1))])] []))) (.or (.not (.ex (.call 20 [(.box (.call 21 [(.var 1), (.var 3)] [])), (.lit (.bl false))] []))) (.not (.ex (.call 20 [(.box (.call 14 [(.var 1)] [])), (.op .eq [(.var 2), (.lit (.int 0))])] []))))) [.ret (.lit (.bl false))] []]
def law : Fn := ⟨1, 8, [.asg (.name 1) (.box (.call 10 [(.var 0)] [])), .ite (.not (.ex (.call 22 [] []))) [.ret (.lit (.bl false))] [], .for (.name 2) (.rng [(.lit (.int 2))]) law_l1 [2, 3], .ite (.ex (.op .ne [(.call 11 [(.var 1), (.lit (.int 0)), (.lit (.int 13))] []), (.lit (.int 3))])) [.ret (.lit (.bl true))] [], .asg (.name 4) (.op .tuple [(.comp [5] (.name 5) (.rng [(.lit (.int 2)), (.lit (.int 100))]) [] (.op .tup [(.lit (.str [99, 104, 111, 111, 115, 101])), (.op .tup [(.var 5), (.op .sub [(.var 5), (.lit (.int 1))])])]))]), .asg (.name 6) (.box (.op .add [(.op .add [(.op .tup [(.op .tup [(.lit (.str [100, 101, 101, 100])), (.op .tup [(.lit (.int 0)), (.lit (.int 1)), (.lit (.int 0)), (.lit (.int 1))]), (.lit (.int 99))]), (.op .tup [(.lit (.str [99, 97, 108, 108])), (.lit (.int 1)), (.lit (.int 100))])]), (.var 4)]), (.op .tup [(.op .tup [(.lit (.str [114, 101, 116, 117, 114, 110]))])])])), .asg (.name 3) (.box (.op .add [(.op .add [(.op .tup [(.var 6)]), (.op .tuple [(.comp [7] (.name 7) (.rng [(.lit (.int 1)), (.lit (.int 11))]) [] (.op .tup [(.op .tup [(.lit (.str [99, 97, 108, 108])), (.box (.op .add [(.var 7), (.lit (.int 1))])), (.lit (.int 1))]), (.op .tup [(.lit (.str [114, 101, 116, 117, 114, 110]))])]))])]), (.op .tup [(.op .tup [(.op .tup [(.lit (.str [114, 101, 116, 117, 114, 110]))])])])])), .ret (.and (.call 20 [(.var 3), (.lit (.bl false))] []) (.call 20 [(.box (.op .add [(.op (.slice false true) [(.var 3), (.op .neg [(.lit (.int 1))])]), (.op .tup [(.op .tup [(.op .tup [(.lit (.str [99, 97, 108, 108])), (.lit (.int 11)), (.lit (.int 0))])])])])), (.lit (.bl true))] []))]⟩

def cs : Nat → D := fun k => match k with
  | _ => .non
def sub : Nat → Nat → Bool := fun c d => match c, d with
  | _, _ => false
def fns : List Fn := [nexts_of, goes_on, ended_marks, ended_rows, lost_words, ways_on, met_by, met_rows, needed_by, needed_words, _law_rack, _law_cork, _law_word, _law_code, _law_chain, _law_nexts, _law_ended, _law_met, _law_needed, _law_same, _law_asked, _law_turned, _law_hand, law]
def Pr (w : Nat) : Pg := ⟨fns, cs, sub, w⟩
def gk (w n : Nat) : G := ⟨callF (Pr w) n, cs, sub, w⟩
@[simp] theorem gk_fn {w n : Nat} : (gk w n).fn = callF (Pr w) n := rfl
@[simp] theorem gk_w {w n : Nat} : (gk w n).w = w := rfl
@[simp] theorem gk_sub {w n : Nat} : (gk w n).sub = sub := rfl
@[simp] theorem gk_cs {w n : Nat} : (gk w n).cs = cs := rfl
theorem u0 {w n : Nat} {ds : List D} {h : Hh} : callF (Pr w) (n + 1) 0 ds h = runF (gk w n) nexts_of ds h := rfl
theorem u1 {w n : Nat} {ds : List D} {h : Hh} : callF (Pr w) (n + 1) 1 ds h = runF (gk w n) goes_on ds h := rfl
theorem u2 {w n : Nat} {ds : List D} {h : Hh} : callF (Pr w) (n + 1) 2 ds h = runF (gk w n) ended_marks ds h := rfl
theorem u3 {w n : Nat} {ds : List D} {h : Hh} : callF (Pr w) (n + 1) 3 ds h = runF (gk w n) ended_rows ds h := rfl
theorem u4 {w n : Nat} {ds : List D} {h : Hh} : callF (Pr w) (n + 1) 4 ds h = runF (gk w n) lost_words ds h := rfl
theorem u5 {w n : Nat} {ds : List D} {h : Hh} : callF (Pr w) (n + 1) 5 ds h = runF (gk w n) ways_on ds h := rfl
theorem u6 {w n : Nat} {ds : List D} {h : Hh} : callF (Pr w) (n + 1) 6 ds h = runF (gk w n) met_by ds h := rfl
theorem u7 {w n : Nat} {ds : List D} {h : Hh} : callF (Pr w) (n + 1) 7 ds h = runF (gk w n) met_rows ds h := rfl
theorem u8 {w n : Nat} {ds : List D} {h : Hh} : callF (Pr w) (n + 1) 8 ds h = runF (gk w n) needed_by ds h := rfl
theorem u9 {w n : Nat} {ds : List D} {h : Hh} : callF (Pr w) (n + 1) 9 ds h = runF (gk w n) needed_words ds h := rfl
theorem u10 {w n : Nat} {ds : List D} {h : Hh} : callF (Pr w) (n + 1) 10 ds h = runF (gk w n) _law_rack ds h := rfl
theorem u11 {w n : Nat} {ds : List D} {h : Hh} : callF (Pr w) (n + 1) 11 ds h = runF (gk w n) _law_cork ds h := rfl
theorem u12 {w n : Nat} {ds : List D} {h : Hh} : callF (Pr w) (n + 1) 12 ds h = runF (gk w n) _law_word ds h := rfl
theorem u13 {w n : Nat} {ds : List D} {h : Hh} : callF (Pr w) (n + 1) 13 ds h = runF (gk w n) _law_code ds h := rfl
theorem u14 {w n : Nat} {ds : List D} {h : Hh} : callF (Pr w) (n + 1) 14 ds h = runF (gk w n) _law_chain ds h := rfl
theorem u15 {w n : Nat} {ds : List D} {h : Hh} : callF (Pr w) (n + 1) 15 ds h = runF (gk w n) _law_nexts ds h := rfl
theorem u16 {w n : Nat} {ds : List D} {h : Hh} : callF (Pr w) (n + 1) 16 ds h = runF (gk w n) _law_ended ds h := rfl
theorem u17 {w n : Nat} {ds : List D} {h : Hh} : callF (Pr w) (n + 1) 17 ds h = runF (gk w n) _law_met ds h := rfl
theorem u18 {w n : Nat} {ds : List D} {h : Hh} : callF (Pr w) (n + 1) 18 ds h = runF (gk w n) _law_needed ds h := rfl
theorem u19 {w n : Nat} {ds : List D} {h : Hh} : callF (Pr w) (n + 1) 19 ds h = runF (gk w n) _law_same ds h := rfl
theorem u20 {w n : Nat} {ds : List D} {h : Hh} : callF (Pr w) (n + 1) 20 ds h = runF (gk w n) _law_asked ds h := rfl
theorem u21 {w n : Nat} {ds : List D} {h : Hh} : callF (Pr w) (n + 1) 21 ds h = runF (gk w n) _law_turned ds h := rfl
theorem u22 {w n : Nat} {ds : List D} {h : Hh} : callF (Pr w) (n + 1) 22 ds h = runF (gk w n) _law_hand ds h := rfl
theorem u23 {w n : Nat} {ds : List D} {h : Hh} : callF (Pr w) (n + 1) 23 ds h = runF (gk w n) law ds h := rfl
end Lk09

namespace Lk09
open Ivy
/-! ### codes -/
inductive Rw where
  | ret | call (c n : Nat) | deed (d : D) (n : Nat) | cho (ns : List Nat)
abbrev Cd := List (List Rw)
def sRet : Tx := [114, 101, 116, 117, 114, 110]
def sCall : Tx := [99, 97, 108, 108]
def sDeed : Tx := [100, 101, 101, 100]
def sCho : Tx := [99, 104, 111, 111, 115, 101]
def nD (n : Nat) : D := .int (n : Int)
def rwD : Rw → D
  | .ret => .tup [.str sRet]
  | .call c n => .tup [.str sCall, nD c, nD n]
  | .deed d n => .tup [.str sDeed, d, nD n]
  | .cho ns => .tup [.str sCho, .tup (ns.map nD)]
def wdD (rs : List Rw) : D := .tup (rs.map rwD)
def cdD (C : Cd) : D := .tup (C.map wdD)
def Rw.nx : Rw → List Nat
  | .ret => []
  | .call _ n => [n]
  | .deed _ n => [n]
  | .cho ns => ns
/-- well-made: every row leads within its word, calls name words, words have rows -/
structure WF (C : Cd) : Prop where
  pos : ∀ rs ∈ C, 0 < rs.length
  nx : ∀ rs ∈ C, ∀ r ∈ rs, ∀ j ∈ r.nx, j < rs.length
  call : ∀ rs ∈ C, ∀ r ∈ rs, ∀ c n, r = .call c n → c < C.length
  wide : ∀ rs ∈ C, ∀ r ∈ rs, r.nx.length ≤ 1000
  few : C.length ≤ 1000
  few2 : ∀ rs ∈ C, rs.length ≤ 1000
theorem nexts_ok {w : Nat} (n : Nat) (r : Rw) (h : Hh) : callF (Pr w) (n + 1) 0 [rwD r] h = .ok (.tup (r.nx.map nD)) h := by
  rw [u0]
  cases r <;> simp [runF, nexts_of, startS, evSs, evS, evE, evEs, evT, rwD, sRet, sCall, sDeed, sCho, Rw.nx, nD]
theorem cut3 {a b c : D} : cut [a, b, c] (some 2) none = [c] := by
  simp [cut, clip]
theorem law_nexts_ok {w : Nat} (n : Nat) (r : Rw) (h : Hh) : callF (Pr w) (n + 1) 15 [rwD r] h = .ok (.tup (r.nx.map nD)) h := by
  rw [u15]
  cases r <;> simp [runF, _law_nexts, startS, evSs, evS, evE, evEs, evT, rwD, sRet, sCall, sDeed, sCho, Rw.nx, nD, cut3]
/-! ### marks -/
abbrev Mk := List (List Bool)
def gt (M : Mk) (w i : Nat) : Bool := ((M[w]?).bind fun m => m[i]?).getD false
/-- marks in the heap -/
structure MkA (g : Hh) (n : Nat) (rs : List Nat) (M : Mk) : Prop where
  top : g[n]? = some (.lst (rs.map .ref))
  len : rs.length = M.length
  row : ∀ (w r : Nat) (m : List Bool), rs[w]? = some r → M[w]? = some m → g[r]? = some (.lst (m.map .bl))
theorem MkA.grow {g g' : Hh} {n : Nat} {rs : List Nat} {M : Mk} (x : MkA g n rs M) (y : Grow g g') : MkA g' n rs M := ⟨y.at x.top, x.len, fun w r m h1 h2 => y.at (x.row w r m h1 h2)⟩
/-- shaped as the code is -/
structure Sh (C : Cd) (M : Mk) : Prop where
  len : M.length = C.length
  row : ∀ (w : Nat) (m : List Bool) (rs : List Rw), M[w]? = some m → C[w]? = some rs → m.length = rs.length
theorem MkA.at_ {g : Hh} {n : Nat} {rs : List Nat} {M : Mk} (x : MkA g n rs M) {w : Nat} {m : List Bool} (h : M[w]? = some m) : ∃ r, rs[w]? = some r ∧ g[r]? = some (.lst (m.map .bl)) := by
  have hl := (List.getElem?_eq_some_iff.mp h).1
  have : w < rs.length := by rw [x.len]; exact hl
  exact ⟨rs[w], List.getElem?_eq_getElem this, x.row w _ m (List.getElem?_eq_getElem this) h⟩
/-- does a row go on -/
def goF (f : Nat → Nat → Bool) (w : Nat) : Rw → Bool
  | .ret => true
  | .call c n => f c 0 && f w n
  | .deed _ n => f w n
  | .cho ns => ns.any fun j => f w j
theorem gt_at {M : Mk} {w i : Nat} {m : List Bool} (h : M[w]? = some m) (hi : i < m.length) : m[i]? = some (gt M w i) := by
  unfold gt
  rw [h]
  simp [hi]
theorem o_idxM {s : Nat → Nat → Bool} {g : Hh} {n : Nat} {rs : List Nat} {M : Mk} (x : MkA g n rs M) {w r : Nat} (h : rs[w]? = some r) : opApp s .idx [.ref n, nD w] g = .ok (.ref r) g := by
  rw [show nD w = .int (w : Int) from rfl, o_idxL x.top, atP_map h]
theorem o_idxB {s : Nat → Nat → Bool} {g : Hh} {r i : Nat} {m : List Bool} {M : Mk} {w : Nat} (h : M[w]? = some m) (e : g[r]? = some (.lst (m.map .bl))) (hi : i < m.length) : opApp s .idx [.ref r, nD i] g = .ok (.bl (gt M w i)) g := by
  rw [show nD i = .int (i : Int) from rfl, o_idxL e, atP_map (gt_at h hi)]
theorem goes_ok {W : Nat} (k : Nat) {C : Cd} {M : Mk} {g : Hh} {n r w : Nat} {rs : List Nat} {m : List Bool} {row : Rw} {wr : List Rw} (wf : WF C) (sh : Sh C M) (x : MkA g n rs M) (hr : rs[w]? = some r) (hm : M[w]? = some m) (hw : C[w]? = some wr) (hrow : row ∈ wr) :
    callF (Pr W) (k + 2) 1 [cdD C, rwD row, .ref n, .ref r] g = .ok (.bl (goF (gt M) w row)) g := by
  have hwm := List.mem_of_getElem? hw
  have ml := sh.row w m wr hm hw
  have er := x.row w r m hr hm
  have nx := wf.nx wr hwm row hrow
  have e0 := nexts_ok (w := W) k row g
  have ix : ∀ j ∈ row.nx, opApp sub .idx [.ref r, .int (j : Int)] g = .ok (.bl (gt M w j)) g := fun j hj => o_idxB hm er (by rw [ml]; exact nx j hj)
  have a1 : ∀ b : Bool, opApp sub .any [.lst [.bl b]] g = .ok (.bl b) g := fun b => by
    have := o_any (s := sub) (h := g) (fun _ : Unit => b) [()]
    simpa using this
  rw [u1]
  unfold cdD at *
  cases row with
  | ret => simp [runF, goes_on, startS, evSs, evS, evE, evEs, evT, rwD, sRet, goF]
  | deed d j =>
    have ij := ix j (by simp [Rw.nx])
    simp [rwD, sDeed, Rw.nx, nD] at e0
    simp [runF, goes_on, startS, evSs, evS, evE, evEs, evT, evI, evTs, rwD, sDeed, goF, nD, e0, lpC_eq, gd_nil, lpC, ij]
    simp [a1]
  | call c j =>
    have ij := ix j (by simp [Rw.nx])
    have hc := wf.call wr hwm _ hrow c j rfl
    obtain ⟨mc, hmc⟩ : ∃ mc, M[c]? = some mc := ⟨_, List.getElem?_eq_getElem (by rw [sh.len]; exact hc)⟩
    obtain ⟨rc, hrc, erc⟩ := x.at_ hmc
    have i1 := o_idxM (s := sub) x hrc
    have hcc : C[c]? = some C[c] := List.getElem?_eq_getElem hc
    have i2 := o_idxB (s := sub) (i := 0) hmc erc (by rw [sh.row c mc _ hmc hcc]; exact wf.pos _ (List.getElem_mem ..))
    simp [nD] at i1 i2
    simp [rwD, sCall, Rw.nx, nD] at e0
    cases q : gt M c 0 with
    | false =>
      rw [q] at i2
      simp [runF, goes_on, startS, evSs, evS, evE, evEs, evT, evI, evTs, rwD, sCall, sRet, goF, nD, i1, i2, q]
    | true =>
      rw [q] at i2
      simp [runF, goes_on, startS, evSs, evS, evE, evEs, evT, evI, evTs, rwD, sCall, sRet, goF, nD, e0, lpC_eq, gd_nil, lpC, ij, i1, i2, q]
      simp [a1]
  | cho ns =>
    simp [rwD, sCho, Rw.nx] at e0
    simp [runF, goes_on, startS, evSs, evS, evE, evEs, evT, evI, evTs, rwD, sCho, sRet, sCall, goF, e0]
    rw [lpC_map gd_nil nD (fun j => .bl (gt M w j)) ns]
    · have hl : ns.length ≤ 16777216 := by have := wf.wide wr hwm _ hrow; simp only [Rw.nx] at this; omega
      simp [hl, o_any (fun j => gt M w j) ns]
    · intro j hj
      have ij := ix j hj
      simp [nD, evTs, evE, evEs, ij]
end Lk09

namespace Lk09
open Ivy
/-! ### one step for all rows -/
def stepM (C : Cd) (M : Mk) : Mk := C.mapIdx fun w rs => rs.map (goF (gt M) w)
def botM (C : Cd) : Mk := C.map fun rs => rs.map fun _ => false
theorem step_at {C : Cd} {M : Mk} {w : Nat} {rs : List Rw} (h : C[w]? = some rs) : (stepM C M)[w]? = some (rs.map (goF (gt M) w)) := by
  unfold stepM
  rw [List.getElem?_mapIdx, h]; rfl
theorem step_sh (C : Cd) (M : Mk) : Sh C (stepM C M) := ⟨by simp [stepM], fun w m rs h1 h2 => by
  rw [step_at h2] at h1
  cases h1
  simp⟩
theorem bot_sh (C : Cd) : Sh C (botM C) := ⟨by simp [botM], fun w m rs h1 h2 => by
  unfold botM at h1
  rw [List.getElem?_map, h2] at h1
  cases h1
  simp⟩
theorem gt_step {C : Cd} {M : Mk} {w i : Nat} {rs : List Rw} {r : Rw} (h : C[w]? = some rs) (hr : rs[i]? = some r) : gt (stepM C M) w i = goF (gt M) w r := by
  show ((((stepM C M)[w]?).bind fun m => m[i]?).getD false) = _
  rw [step_at h]
  simp [hr]
theorem gt_bot {C : Cd} {w i : Nat} : gt (botM C) w i = false := by
  unfold gt botM
  rw [List.getElem?_map]
  cases C[w]? with
  | none => rfl
  | some rs =>
    simp
    cases rs[i]? <;> rfl
def Le (f g : Nat → Nat → Bool) : Prop := ∀ w i, f w i = true → g w i = true
theorem goF_mono {f g : Nat → Nat → Bool} (h : Le f g) {w : Nat} {r : Rw} (e : goF f w r = true) : goF g w r = true := by
  cases r with
  | ret => rfl
  | call c n =>
    simp only [goF, Bool.and_eq_true] at e ⊢
    exact ⟨h _ _ e.1, h _ _ e.2⟩
  | deed d n => exact h _ _ e
  | cho ns =>
    simp only [goF, List.any_eq_true] at e ⊢
    obtain ⟨j, h1, h2⟩ := e
    exact ⟨j, h1, h _ _ h2⟩
theorem step_mono {C : Cd} {M M' : Mk} (h : Le (gt M) (gt M')) : Le (gt (stepM C M)) (gt (stepM C M')) := fun w i e => by
  cases hc : C[w]? with
  | none =>
    unfold gt stepM at e
    rw [List.getElem?_mapIdx, hc] at e
    cases e
  | some rs =>
    cases hr : rs[i]? with
    | none =>
      unfold gt at e
      rw [step_at hc] at e
      simp [hr] at e
    | some r =>
      rw [gt_step hc hr] at e ⊢
      exact goF_mono h e
/-- shaped alike and the same everywhere -/
theorem sh_ext {C : Cd} {M M' : Mk} (s1 : Sh C M) (s2 : Sh C M') (h : ∀ w i, gt M w i = gt M' w i) : M = M' := by
  refine List.ext_getElem? fun w => ?_
  by_cases hw : w < C.length
  · obtain ⟨m, e1⟩ : ∃ m, M[w]? = some m := ⟨_, List.getElem?_eq_getElem (by rw [s1.len]; exact hw)⟩
    obtain ⟨m', e2⟩ : ∃ m, M'[w]? = some m := ⟨_, List.getElem?_eq_getElem (by rw [s2.len]; exact hw)⟩
    have ec : C[w]? = some C[w] := List.getElem?_eq_getElem hw
    have l1 := s1.row w _ _ e1 ec
    have l2 := s2.row w _ _ e2 ec
    rw [e1, e2]
    congr 1
    refine List.ext_getElem? fun i => ?_
    by_cases hi : i < C[w].length
    · have := h w i
      unfold gt at this
      rw [e1, e2] at this
      simp only [Option.bind_some] at this
      rw [List.getElem?_eq_getElem (by omega), List.getElem?_eq_getElem (by omega)] at this ⊢
      simpa using this
    · rw [List.getElem?_eq_none (by omega), List.getElem?_eq_none (by omega)]
  · rw [List.getElem?_eq_none (by rw [s1.len]; omega), List.getElem?_eq_none (by rw [s2.len]; omega)]
/-- the least marks that a step leaves as they are -/
structure LFP (C : Cd) (M : Mk) : Prop where
  sh : Sh C M
  fix : stepM C M = M
  least : ∀ M', stepM C M' = M' → Le (gt M) (gt M')
theorem lfp_uniq {C : Cd} {M M' : Mk} (a : LFP C M) (b : LFP C M') : M = M' := sh_ext a.sh b.sh fun w i => by
  have h1 := a.least M' b.fix w i
  have h2 := b.least M a.fix w i
  cases e : gt M w i <;> cases e' : gt M' w i <;> simp_all
/-! ### how many are still unmarked -/
def offL (m : List Bool) : Nat := (m.filter fun b => !b).length
def offs (M : Mk) : Nat := (M.map offL).sum
def Le2 (M M' : Mk) : Prop := Le (gt M) (gt M')
theorem off_le : ∀ {m m' : List Bool}, m.length = m'.length → (∀ i : Nat, (m[i]?).getD false = true → (m'[i]?).getD false = true) → offL m' ≤ offL m ∧ (offL m' = offL m → m = m')
  | [], [], _, _ => ⟨Nat.le_refl _, fun _ => rfl⟩
  | [], _ :: _, h, _ => by cases h
  | _ :: _, [], h, _ => by cases h
  | b :: m, b' :: m', h, k => by
    obtain ⟨i1, i2⟩ := off_le (m := m) (m' := m') (by simpa using h) fun i hi => by
      have := k (i + 1)
      simp only [List.getElem?_cons_succ] at this
      exact this hi
    have k0 := k 0
    simp at k0
    unfold offL at *
    cases b <;> cases b' <;> simp_all
    · constructor
      · omega
      · omega
theorem offs_le : ∀ {M M' : Mk}, M.length = M'.length → (∀ (w : Nat) (m m' : List Bool), M[w]? = some m → M'[w]? = some m' → m.length = m'.length) → Le2 M M' → offs M' ≤ offs M ∧ (offs M' = offs M → M = M')
  | [], [], _, _, _ => ⟨Nat.le_refl _, fun _ => rfl⟩
  | [], _ :: _, h, _, _ => by cases h
  | _ :: _, [], h, _, _ => by cases h
  | m :: M, m' :: M', h, hl, k => by
    obtain ⟨i1, i2⟩ := offs_le (M := M) (M' := M') (by simpa using h) (fun w a b h1 h2 => hl (w + 1) a b (by simpa using h1) (by simpa using h2)) fun w i e => by
      have := k (w + 1) i
      unfold gt at this e ⊢
      simp only [List.getElem?_cons_succ] at this
      exact this e
    obtain ⟨j1, j2⟩ := off_le (m := m) (m' := m') (hl 0 m m' rfl rfl) fun i e => by
      have := k 0 i
      unfold gt at this
      simp only [List.getElem?_cons_zero, Option.bind_some] at this
      exact this e
    unfold offs at *
    simp only [List.map_cons, List.sum_cons]
    refine ⟨by omega, fun e => ?_⟩
    rw [i2 (by omega), j2 (by omega)]
theorem offs_sh {C : Cd} {M M' : Mk} (a : Sh C M) (b : Sh C M') (h : Le2 M M') : offs M' ≤ offs M ∧ (offs M' = offs M → M = M') :=
  offs_le (by rw [a.len, b.len]) (fun w m m' h1 h2 => by
    have hw : w < C.length := by rw [← a.len]; exact (List.getElem?_eq_some_iff.mp h1).1
    rw [a.row w m _ h1 (List.getElem?_eq_getElem hw), b.row w m' _ h2 (List.getElem?_eq_getElem hw)]) h
def rowsN (C : Cd) : Nat := (C.map List.length).sum
theorem offL_bot (rs : List Rw) : offL (rs.map fun _ => false) = rs.length := by
  unfold offL
  induction rs with
  | nil => rfl
  | cons r rs ih => simp at ih ⊢; exact ih
theorem offs_bot : ∀ C : Cd, offs (botM C) = rowsN C
  | [] => rfl
  | rs :: C => by
    have ih := offs_bot C
    show offL (rs.map fun _ => false) + offs (botM C) = rs.length + rowsN C
    rw [ih, offL_bot]
end Lk09

namespace Lk09
open Ivy
/-! ### marks compared -/
theorem told_top {g : Hh} {n : Nat} {rs : List Nat} {M : Mk} (x : MkA g n rs M) : told 3 g (.ref n) = .lst (M.map fun m => .lst (m.map .bl)) := by
  show (match g[n]? with
    | some (.lst xs) => .lst (xs.map (told 2 g))
    | _ => .ref n : D) = _
  rw [x.top]
  simp only
  congr 1
  rw [List.map_map]
  refine List.ext_getElem? fun w => ?_
  rw [List.getElem?_map, List.getElem?_map]
  by_cases hw : w < M.length
  · obtain ⟨m, e1⟩ : ∃ m, M[w]? = some m := ⟨_, List.getElem?_eq_getElem hw⟩
    obtain ⟨r, h1, h2⟩ := x.at_ e1
    rw [e1, h1]
    simp only [Option.map_some, Function.comp]
    congr 1
    show (match g[r]? with
      | some (.lst xs) => .lst (xs.map (told 1 g))
      | _ => .ref r : D) = _
    rw [h2]
    simp only
    congr 1
    rw [List.map_map]
    exact List.map_congr_left fun b _ => rfl
  · rw [List.getElem?_eq_none (l := M) (by omega), List.getElem?_eq_none (l := rs) (by rw [x.len]; omega)]
    rfl
theorem dat_bools (k : Nat) : ∀ m : List Bool, D.datL k (m.map .bl) = true
  | [] => by simp [D.datL]
  | b :: m => by simp [D.datL, D.dat, dat_bools k m]
theorem dat_marks (k : Nat) : ∀ M : Mk, D.datL (k + 1) (M.map fun m => .lst (m.map .bl)) = true
  | [] => by simp [D.datL]
  | m :: M => by simp [D.datL, D.dat, dat_marks k M, dat_bools k m]
theorem eqv_bools : ∀ m m' : List Bool, D.eqvL (m.map .bl) (m'.map .bl) = decide (m = m')
  | [], [] => by simp [D.eqvL]
  | [], _ :: _ => by simp [D.eqvL]
  | _ :: _, [] => by simp [D.eqvL]
  | b :: m, b' :: m' => by
    simp only [List.map_cons, D.eqvL, eqv_bools m m', D.eqv, List.cons.injEq, Bool.decide_and]
    cases b <;> cases b' <;> simp
theorem eqv_marks : ∀ M M' : Mk, D.eqvL (M.map fun m => .lst (m.map .bl)) (M'.map fun m => .lst (m.map .bl)) = decide (M = M')
  | [], [] => by simp [D.eqvL]
  | [], _ :: _ => by simp [D.eqvL]
  | _ :: _, [] => by simp [D.eqvL]
  | m :: M, m' :: M' => by
    simp only [List.map_cons, D.eqvL, eqv_marks M M', D.eqv, eqv_bools, List.cons.injEq, Bool.decide_and]
theorem o_neM {s : Nat → Nat → Bool} {g : Hh} {a b : Nat} {rs rs' : List Nat} {M M' : Mk} (x : MkA g a rs M) (y : MkA g b rs' M') : opApp s .ne [.ref a, .ref b] g = .ok (.bl (!decide (M = M'))) g := by
  show (match eqD g (.ref a) (.ref b) with
    | some k => blR (!k) g
    | none => .no : R D) = _
  have e : eqD g (.ref a) (.ref b) = some (decide (M = M')) := by
    unfold eqD
    rw [told_top x, told_top y]
    have d1 : D.dat 60 (.lst (M.map fun m => .lst (m.map .bl))) = true := by simp only [D.dat]; exact dat_marks 58 M
    have d2 : D.dat 60 (.lst (M'.map fun m => .lst (m.map .bl))) = true := by simp only [D.dat]; exact dat_marks 58 M'
    rw [d1, d2]
    simp only [D.eqv, eqv_marks]
    simp [scalD]
  rw [e]
  rfl
/-! ### one round -/
def dem (C : Cd) (n : Nat) (c l : Option D) : Sl := [some (cdD C), some (.ref n), none, none, c, l, none]
theorem enum_cons (k : Nat) (d : D) (ds : List D) : enumL k (d :: ds) = .tup [.int (k : Int), d] :: enumL (k + 1) ds := rfl
theorem round_loop {W : Nat} (kk : Nat) {C : Cd} {M : Mk} {g0 : Hh} {n : Nat} {rs : List Nat} {c : Option D} (wf : WF C) (sh : Sh C M) (x : MkA g0 n rs M) : ∀ (rest : Cd) (k : Nat) (g : Hh), C.drop k = rest → k + rest.length = C.length → Grow g0 g → g.length = g0.length + 1 + k →
    g[g0.length]? = some (.lst ((List.range k).map fun i => .ref (g0.length + 1 + i))) → (∀ i m, i < k → (stepM C M)[i]? = some m → g[g0.length + 1 + i]? = some (.lst (m.map .bl))) →
    ∃ g', Grow g0 g' ∧ g'.length = g0.length + 1 + C.length ∧ g'[g0.length]? = some (.lst ((List.range C.length).map fun i => .ref (g0.length + 1 + i))) ∧ (∀ i m, i < C.length → (stepM C M)[i]? = some m → g'[g0.length + 1 + i]? = some (.lst (m.map .bl))) ∧
      lpF [] (.tup [.name 6, .name 3]) [2, 3, 6] (evSs (gk W (kk + 2)) ended_marks_l1) (enumL k (rest.map wdD)) (dem C n c (some (.ref g0.length))) g = .nx (dem C n c (some (.ref g0.length))) g'
  | [], k, g, hd, hk, gr, gl, gt_, gi => by
    simp at hk
    subst hk
    exact ⟨g, gr, gl, gt_, gi, by show lpF [] _ _ _ [] _ _ = _; rw [lpF_nil]; simp [dem]⟩
  | wr :: rest, k, g, hd, hk, gr, gl, gt_, gi => by
    rw [List.length_cons] at hk
    have hw : C[k]? = some wr := by
      have := congrArg List.head? hd
      rw [List.head?_drop] at this
      exact this
    have hd2 : C.drop (k + 1) = rest := by
      rw [← List.drop_drop, hd]; rfl
    have hwm := List.mem_of_getElem? hw
    have xg := x.grow gr
    obtain ⟨m, hm⟩ : ∃ m, M[k]? = some m := ⟨_, List.getElem?_eq_getElem (by rw [sh.len]; omega)⟩
    obtain ⟨r, hr, er⟩ := xg.at_ hm
    have ix := o_idxM (s := sub) xg hr
    have hs := step_at (M := M) hw
    have ck := ck_at gt_
    have lr : wr.length ≤ 16777216 := by have := wf.few2 wr hwm; omega
    obtain ⟨g2, hg2⟩ : ∃ g2 : Hh, g2 = g ++ [.lst ((wr.map (goF (gt M) k)).map .bl)] := ⟨_, rfl⟩
    have t2 : g2[g0.length]? = some (.lst ((List.range k).map fun i => .ref (g0.length + 1 + i))) := by rw [hg2]; exact (Grow.app _).at gt_
    have ap := o_appendL (s := sub) (d := .ref (g0.length + 1 + k)) t2
    have kl : k < 16777216 := by have := wf.few; omega
    simp [kl] at ap
    obtain ⟨g3, hg3⟩ : ∃ g3 : Hh, g3 = g2.set g0.length (.lst ((List.range k).map (fun i => D.ref (g0.length + 1 + i)) ++ [.ref (g0.length + 1 + k)])) := ⟨_, rfl⟩
    rw [← hg3] at ap
    have gr3 : Grow g0 g3 := by rw [hg3, hg2]; exact (gr.trans (Grow.app _)).set (Nat.le_refl _)
    have l3 : g3.length = g0.length + 1 + (k + 1) := by rw [hg3, hg2]; simp; omega
    have t3 : g3[g0.length]? = some (.lst ((List.range (k + 1)).map fun i => .ref (g0.length + 1 + i))) := by
      rw [hg3, List.getElem?_set_self (by rw [hg2]; simp; omega), List.range_succ, List.map_append]
      rfl
    obtain ⟨g', a1, a2, a3, a4, a5⟩ := round_loop kk (W := W) (c := c) wf sh x rest (k + 1) g3 hd2 (by omega) gr3 l3 t3 (fun i mi hi hmi => by
      rw [hg3, List.getElem?_set_ne (by omega), hg2]
      by_cases h2 : i < k
      · exact (Grow.app _).at (gi i mi h2 hmi)
      · have : i = k := by omega
        subst this
        rw [hs] at hmi
        cases hmi
        rw [List.getElem?_append_right (by omega), gl]
        simp)
    refine ⟨g', a1, a2, a3, a4, ?_⟩
    have cp : evE (gk W (kk + 2)) (.comp [2] (.name 2) (.seq (.var 3)) [] (.box (.call 1 [(.var 0), (.var 2), (.var 1), (.op .idx [(.var 1), (.var 6)])] []))) [some (cdD C), some (.ref n), none, some (wdD wr), c, some (.ref g0.length), some (.int (k : Int))] g = .ok (.lst ((wr.map (goF (gt M) k)).map .bl)) g := by
      simp [evE, evI, wdD]
      rw [lpC_map gd_nil rwD (fun r => .bl (goF (gt M) k r)) wr]
      · simp [lr]
      · intro row hrow
        have e := goes_ok (W := W) kk wf sh xg hr hm hw hrow
        have pr : D.pers (rwD row) = true := by cases row <;> rfl
        have ix2 : opApp sub .idx [.ref n, .int (k : Int)] g = .ok (.ref r) g := ix
        simp [evTs, evE, evEs, pr, ix2, cdD]
        simp [cdD] at e
        simp [e]
    have body : evSs (gk W (kk + 2)) ended_marks_l1 [some (cdD C), some (.ref n), none, some (wdD wr), c, some (.ref g0.length), some (.int (k : Int))] g = .nx [some (cdD C), some (.ref n), none, some (wdD wr), c, some (.ref g0.length), some (.int (k : Int))] g3 := by
      have e0 : ended_marks_l1 = [.ex (.op .append [(.ck 1 (.var 5)), (.box (.comp [2] (.name 2) (.seq (.var 3)) [] (.box (.call 1 [(.var 0), (.var 2), (.var 1), (.op .idx [(.var 1), (.var 6)])] []))))])] := rfl
      have e1 : evE (gk W (kk + 2)) (.op .append [(.ck 1 (.var 5)), (.box (.comp [2] (.name 2) (.seq (.var 3)) [] (.box (.call 1 [(.var 0), (.var 2), (.var 1), (.op .idx [(.var 1), (.var 6)])] []))))]) [some (cdD C), some (.ref n), none, some (wdD wr), c, some (.ref g0.length), some (.int (k : Int))] g = .ok .non g3 := by
        have e2 : ∀ (G : G) (a b : Ex) (δ : Sl) (h : Hh), evE G (.op .append [a, .box b]) δ h = (evE G a δ h).bind fun x h => ((evE G b δ h).bind fun d h => boxR d h).bind fun y h => opApp G.sub .append [x, y] h := fun G a b δ h => by
          simp only [evE, evEs]
          cases evE G a δ h with
          | err _ _ _ => rfl
          | no => rfl
          | ok a1 h1 =>
            simp only [s_okb]
            cases evE G b δ h1 with
            | err _ _ _ => rfl
            | no => rfl
            | ok a2 h2 =>
              simp only [s_okb]
              cases boxR a2 h2 <;> rfl
        have e3 : evE (gk W (kk + 2)) (.ck 1 (.var 5)) [some (cdD C), some (.ref n), none, some (wdD wr), c, some (.ref g0.length), some (.int (k : Int))] g = .ok (.ref g0.length) g := by
          simp [evE, ck]
        rw [e2, e3]
        simp only [s_okb]
        rw [cp]
        simp only [s_okb, s_boxL, gk_sub]
        rw [← hg2, show g.length = g0.length + 1 + k from gl]
        exact ap
      rw [e0, evSs_cons (δ2 := [some (cdD C), some (.ref n), none, some (wdD wr), c, some (.ref g0.length), some (.int (k : Int))]) (h2 := g3) (by simp only [evS, e1, s_go]), evSs_nil]
    rw [List.map_cons, enum_cons, lpF_go (δ1 := [some (cdD C), some (.ref n), none, some (wdD wr), c, some (.ref g0.length), some (.int (k : Int))]) (by simp [dem, wdD]) body]
    exact a5
end Lk09

namespace Lk09
open Ivy
/-! ### rounds until nothing changes -/
theorem round_ok {W : Nat} (kk : Nat) {C : Cd} {M : Mk} {g0 : Hh} {n : Nat} {rs : List Nat} {c l : Option D} (wf : WF C) (sh : Sh C M) (x : MkA g0 n rs M) :
    ∃ g' rs', Grow g0 g' ∧ MkA g' g0.length rs' (stepM C M) ∧ (∀ r ∈ rs', g0.length ≤ r) ∧ evSs (gk W (kk + 2)) ended_marks_l2 (dem C n c l) g0 = .nx [some (cdD C), some (.ref g0.length), none, none, some (.bl (!decide (stepM C M = M))), some (.ref g0.length), none] g' := by
  obtain ⟨g', a1, a2, a3, a4, a5⟩ := round_loop (W := W) kk (c := c) wf sh x C 0 (g0 ++ [.lst []]) rfl (by simp) (Grow.app _) (by simp) (by simp) (fun i m hi _ => by omega)
  have mk : MkA g' g0.length ((List.range C.length).map fun i => g0.length + 1 + i) (stepM C M) := ⟨by rw [a3, List.map_map]; rfl, by simp [stepM], fun w r m h1 h2 => by
    rw [List.getElem?_map] at h1
    have hw : w < C.length := by
      have := (List.getElem?_eq_some_iff.mp h2).1
      simpa [stepM] using this
    rw [List.getElem?_range hw] at h1
    cases h1
    exact a4 w m hw h2⟩
  refine ⟨g', _, a1, mk, fun r hr => by obtain ⟨i, _, rfl⟩ := List.mem_map.mp hr; omega, ?_⟩
  have ne := o_neM (s := sub) mk (x.grow a1)
  unfold dem cdD at *
  simp [ended_marks_l2, evSs, evS, evE, evEs, evT, evI, a5, ne]
theorem ended_loop {W : Nat} (kk : Nat) {C : Cd} (wf : WF C) : ∀ (d N : Nat) (M : Mk) (g : Hh) (n : Nat) (rs : List Nat) (l : Option D), offs M ≤ d → d + 2 ≤ N → Sh C M → Le2 M (stepM C M) → (∀ M', stepM C M' = M' → Le2 M M') → MkA g n rs M →
    ∃ g' n' rs' M' l', Grow g g' ∧ g.length ≤ n' ∧ MkA g' n' rs' M' ∧ (∀ r ∈ rs', g.length ≤ r) ∧ LFP C M' ∧ lpW (evT (gk W (kk + 2)) (.ex (.var 4))) [2, 3, 5, 6] (evSs (gk W (kk + 2)) ended_marks_l2) N (dem C n (some (.bl true)) l) g = .nx [some (cdD C), some (.ref n'), none, none, some (.bl false), l', none] g'
  | d, 0, _, _, _, _, _, _, h, _, _, _, _ => by omega
  | d, 1, _, _, _, _, _, _, h, _, _, _, _ => by omega
  | d, N + 2, M, g, n, rs, l, hd, hN, sh, up, lo, x => by
    obtain ⟨g1, rs1, a1, a2, a4, a3⟩ := round_ok (W := W) kk (c := some (.bl true)) (l := l) wf sh x
    have st := step_sh C M
    obtain ⟨o1, o2⟩ := offs_sh sh st up
    have T : evT (gk W (kk + 2)) (.ex (.var 4)) (dem C n (some (.bl true)) l) g = .ok true g := by simp [dem, evT, evE]
    by_cases e : stepM C M = M
    · rw [decide_eq_true e] at a3
      refine ⟨g1, g.length, rs1, M, none, a1, Nat.le_refl _, by rw [e] at a2; exact a2, a4, ⟨sh, e, lo⟩, ?_⟩
      rw [lpW_go T a3]
      rw [lpW_end (h1 := g1) (by simp [evT, evE])]
      simp
    · have lt : offs (stepM C M) < offs M := by
        rcases Nat.lt_or_ge (offs (stepM C M)) (offs M) with q | q
        · exact q
        · exact absurd (o2 (by omega)).symm e
      rw [decide_eq_false e] at a3
      match d, hd with
      | 0, hd => omega
      | d + 1, hd =>
        obtain ⟨g', n', rs', M', l', b1, b2, b3, b6, b4, b5⟩ := ended_loop kk (W := W) wf d (N + 1) (stepM C M) g1 g.length rs1 none (by omega) (by omega) st (step_mono up) (fun M' hM' => by
          have := step_mono (C := C) (lo M' hM')
          rw [hM'] at this
          exact this) a2
        refine ⟨g', n', rs', M', l', a1.trans b1, Nat.le_trans a1.len b2, b3, (fun r hr => Nat.le_trans a1.len (b6 r hr)), b4, ?_⟩
        rw [lpW_go T a3]
        rw [← b5]
        simp [dem]
theorem ended_ok {W : Nat} (kk : Nat) {C : Cd} (h : Hh) (wf : WF C) (h0 : 0 < C.length) (hW : rowsN C + 2 ≤ W) : ∃ g n rs M, Grow h g ∧ h.length ≤ n ∧ MkA g n rs M ∧ LFP C M ∧ callF (Pr W) (kk + 3) 2 [cdD C] h = .ok (.ref n) g := by
  obtain ⟨H, hH⟩ : ∃ H : Hh, H = h ++ C.map fun rs => .lst (rs.map fun _ => .bl false) := ⟨_, rfl⟩
  have lH : H.length = h.length + C.length := by rw [hH]; simp
  obtain ⟨H1, hH1⟩ : ∃ H1 : Hh, H1 = H ++ [.lst ((List.range C.length).map fun i => .ref (h.length + i))] := ⟨_, rfl⟩
  have gr : Grow h H1 := by rw [hH1, hH]; exact (Grow.app _).trans (Grow.app _)
  have mk : MkA H1 H.length ((List.range C.length).map fun i => h.length + i) (botM C) := ⟨by rw [hH1]; simp [Function.comp_def], by simp [botM], fun w r m h1 h2 => by
    have hw : w < C.length := by
      have := (List.getElem?_eq_some_iff.mp h2).1
      simpa [botM] using this
    rw [List.getElem?_map, List.getElem?_range hw] at h1
    have h1 : h.length + w = r := by simpa using h1
    subst h1
    refine (by rw [hH1]; exact Grow.app _ : Grow H H1).at ?_
    rw [hH, List.getElem?_append_right (by omega), List.getElem?_map]
    unfold botM at h2
    rw [List.getElem?_map] at h2
    simp only [Nat.add_sub_cancel_left]
    cases q : C[w]? with
    | none => rw [q] at h2; cases h2
    | some rs =>
      rw [q] at h2
      cases h2
      simp [Function.comp_def]⟩
  obtain ⟨g', n', rs', M', l', b1, b2, b3, b6, b4, b5⟩ := ended_loop (W := W) kk wf (rowsN C) W (botM C) H1 H.length _ none (by rw [offs_bot]; exact Nat.le_refl _) hW (bot_sh C) (fun w i e => by rw [gt_bot] at e; cases e) (fun M' _ w i e => by rw [gt_bot] at e; cases e) mk
  have l1 : H1.length = h.length + C.length + 1 := by rw [hH1]; simp [lH]
  refine ⟨g', n', rs', M', gr.trans b1, by omega, b3, b4, ?_⟩
  have cl : C.length ≤ 16777216 := by have := wf.few; omega
  have inner : ∀ (rs : List Rw) (g : Hh) (a b e f i : Option D), evE (gk W (kk + 2)) (.comp [2] (.name 2) (.seq (.var 3)) [] (.lit (.bl false))) [a, b, e, some (wdD rs), f, i, none] g = .ok (.lst (rs.map fun _ => .bl false)) g ∨ rs.length > 1000 := fun rs g a b e f i => by
    by_cases hl : rs.length > 1000
    · exact .inr hl
    · refine .inl ?_
      simp [evE, evI, wdD]
      rw [lpC_map gd_nil rwD (fun _ => .bl false) rs]
      · simp [show rs.length ≤ 16777216 by omega]
      · intro row hrow
        have pr : D.pers (rwD row) = true := by cases row <;> rfl
        simp [evTs, evE, pr]
  have comp : evE (gk W (kk + 2)) (.comp [3] (.name 3) (.seq (.var 0)) [] (.box (.comp [2] (.name 2) (.seq (.var 3)) [] (.lit (.bl false))))) [some (cdD C), none, none, none, none, none, none] h = .ok (.lst ((List.range C.length).map fun i => .ref (h.length + i))) H := by
    rw [hH]
    have e2 : ∀ (G : G) (b : Ex) (δ : Sl) (h : Hh), evE G (.box b) δ h = (evE G b δ h).bind fun d h => boxR d h := fun G b δ h => by simp only [evE]
    have e3 : ∀ (G : G) (b : Ex) (δ : Sl) (h : Hh), evE G (.comp [3] (.name 3) (.seq (.var 0)) [] b) δ h = (evI G (.seq (.var 0)) δ h).bind fun src h => (lpC src.gd (fun x h => match putT (.name 3) x (wipeS δ [3]) with
      | some δ' => (evTs G [] δ' h).bind fun k h => if k = true then (evE G b δ' h).bind fun y h => whenR (D.pers y) (.ok (some y) h) else .ok none h
      | none => .no) src.ds h).bind fun ys h => whenR (decide (ys.length ≤ cells)) (.ok (.lst ys) h) := fun G b δ h => by simp only [evE] <;> rfl
    rw [e3]
    have si : evI (gk W (kk + 2)) (.seq (.var 0)) [some (cdD C), none, none, none, none, none, none] h = .ok ⟨C.map wdD, []⟩ h := by simp [evI, evE, cdD]
    rw [si]
    simp only [s_okb]
    have B := lpC_box (step := fun x h => match putT (.name 3) x (wipeS [some (cdD C), none, none, none, none, none, none] [3]) with
      | some δ' => (evTs (gk W (kk + 2)) [] δ' h).bind fun k h => if k = true then (evE (gk W (kk + 2)) (.box (.comp [2] (.name 2) (.seq (.var 3)) [] (.lit (.bl false)))) δ' h).bind fun y h => whenR (D.pers y) (.ok (some y) h) else .ok none h
      | none => .no) wdD (fun rs => .lst (rs.map fun _ => .bl false)) C h (fun rs hrs g => by
        have hl := wf.few2 rs hrs
        have i := (inner rs g (some (cdD C)) none none none none).resolve_right (by omega)
        simp only [g_name', wipe1, wipe0]
        rw [if_pos (show D.pers (wdD rs) = true from rfl)]
        simp only [List.set_cons_succ, List.set_cons_zero, evTs, s_okb, if_true]
        rw [e2, i]
        simp)
    rw [B]
    simp [cl]
  have body : ended_marks = ⟨1, 7, [.asg (.name 1) (.box (.comp [3] (.name 3) (.seq (.var 0)) [] (.box (.comp [2] (.name 2) (.seq (.var 3)) [] (.lit (.bl false)))))), .asg (.name 4) (.lit (.bl true)), .whl (.ex (.var 4)) ended_marks_l2 [2, 3, 5, 6], .ret (.var 1)]⟩ := rfl
  rw [u2]
  have s1 : evS (gk W (kk + 2)) (.asg (.name 1) (.box (.comp [3] (.name 3) (.seq (.var 0)) [] (.box (.comp [2] (.name 2) (.seq (.var 3)) [] (.lit (.bl false))))))) [some (cdD C), none, none, none, none, none, none] h = .nx [some (cdD C), some (.ref H.length), none, none, none, none, none] H1 := by
    have e2 : ∀ (G : G) (b : Ex) (δ : Sl) (h : Hh), evS G (.asg (.name 1) (.box b)) δ h = ((evE G b δ h).bind fun d h => boxR d h).go δ fun x h => match putT (.name 1) x δ with
      | some δ' => .nx δ' h
      | none => .no := fun G b δ h => by simp only [evS, evE] <;> rfl
    rw [e2, comp]
    simp [hH1]
  have s2 : evSs (gk W (kk + 2)) ended_marks.body [some (cdD C), none, none, none, none, none, none] h = .ret (.ref n') g' := by
    rw [body]
    simp only
    rw [evSs_cons s1]
    unfold dem at b5
    simp [evSs, evS, evE, b5]
  have fin : finish h (.ref n') g' = .ok (.ref n') g' := by
    have hl := (List.getElem?_eq_some_iff.mp b3.top).1
    have el : lift h.length g' (.ref n') = .lst (rs'.map .ref) := by
      unfold lift
      simp only
      rw [if_pos (by omega), b3.top]
    have lw : D.low h.length (.lst (rs'.map .ref)) = false := by
      have hr : 0 < rs'.length := by rw [b3.len, b4.sh.len]; exact h0
      cases rs' with
      | nil => simp at hr
      | cons r rs' =>
        have := b6 r (List.mem_cons_self ..)
        simp [D.low, D.lowL]
        intro q
        omega
    unfold finish
    rw [if_neg (by omega), el, lw]
    rfl
  refine (if_pos (show [cdD C].length = ended_marks.np from rfl)).trans ?_
  show endF h (evSs (gk W (kk + 2)) ended_marks.body [some (cdD C), none, none, none, none, none, none] h) = _
  rw [s2]
  exact fin
end Lk09

namespace Lk09
open Ivy
/-! ### what the marks tell -/
def ixT (m : List Bool) : List Nat := (List.range m.length).filter fun i => (m[i]?).getD false
def rowsD (M : Mk) : D := .tup (M.map fun m => .tup ((ixT m).map nD))
def lostL (M : Mk) : List Nat := (List.range M.length).filter fun w => !gt M w 0
theorem enum_at : ∀ (ds : List D) (k i : Nat), (enumL k ds)[i]? = (ds[i]?).map fun d => .tup [.int ((k + i : Nat) : Int), d]
  | [], k, i => by simp [enumL]
  | d :: ds, k, 0 => by simp [enumL]
  | d :: ds, k, i + 1 => by
    rw [enum_cons, List.getElem?_cons_succ, List.getElem?_cons_succ, enum_at ds (k + 1) i]
    congr 2
    funext d
    congr 3
    omega
theorem enum_len : ∀ (ds : List D) (k : Nat), (enumL k ds).length = ds.length
  | [], _ => rfl
  | d :: ds, k => by rw [enum_cons, List.length_cons, List.length_cons, enum_len ds]
theorem enum_of {α : Type} [Inhabited α] (f : α → D) (zs : List α) : enumL 0 (zs.map f) = (List.range zs.length).map fun i => .tup [.int (i : Int), f ((zs[i]?).getD default)] := by
  refine List.ext_getElem? fun i => ?_
  rw [enum_at, List.getElem?_map, List.getElem?_map]
  by_cases h : i < zs.length
  · rw [List.getElem?_range h, List.getElem?_eq_getElem h]
    simp [h]
  · rw [List.getElem?_eq_none (l := zs) (by omega), List.getElem?_eq_none (l := List.range zs.length) (by simpa using h)]
    rfl
theorem zip_fst {rs : List Nat} {M : Mk} (h : rs.length = M.length) : rs.map D.ref = (rs.zip M).map fun p => D.ref p.1 := by
  have : (rs.zip M).map Prod.fst = rs := List.map_fst_zip (by omega)
  conv => lhs; rw [← this]
  rw [List.map_map]; rfl
theorem zip_snd {α : Type} {rs : List Nat} {M : Mk} (h : rs.length = M.length) (f : List Bool → α) : (rs.zip M).map (fun p => f p.2) = M.map f := by
  have : (rs.zip M).map Prod.snd = M := List.map_snd_zip (by omega)
  conv => rhs; rw [← this]
  rw [List.map_map]; rfl
theorem MkA.pair {g : Hh} {n : Nat} {rs : List Nat} {M : Mk} (x : MkA g n rs M) {p : Nat × List Bool} (h : p ∈ rs.zip M) : g[p.1]? = some (.lst (p.2.map .bl)) ∧ p.2 ∈ M := by
  obtain ⟨i, hi⟩ := List.mem_iff_getElem?.mp h
  rw [List.getElem?_zip_eq_some] at hi
  exact ⟨x.row i p.1 p.2 hi.1 hi.2, List.mem_of_getElem? hi.2⟩
theorem Sh.short {C : Cd} {M : Mk} (wf : WF C) (sh : Sh C M) {m : List Bool} (h : m ∈ M) : m.length ≤ 1000 := by
  obtain ⟨i, hi⟩ := List.mem_iff_getElem?.mp h
  have hl : i < C.length := by rw [← sh.len]; exact (List.getElem?_eq_some_iff.mp hi).1
  rw [sh.row i m _ hi (List.getElem?_eq_getElem hl)]
  exact wf.few2 _ (List.getElem_mem ..)
theorem ixT_len (m : List Bool) : (ixT m).length ≤ m.length := by
  unfold ixT
  exact Nat.le_trans (List.length_filter_le ..) (by simp)
theorem rowsD_low {n : Nat} {M : Mk} : D.low n (rowsD M) = true := by
  unfold rowsD
  simp only [D.low]
  exact low_map _ (fun m => by simp only [D.low]; exact low_map _ (fun i => by simp [nD, D.low]) _) _
theorem ended_rows_ok {W : Nat} (kk : Nat) {C : Cd} (h : Hh) (wf : WF C) (h0 : 0 < C.length) (hW : rowsN C + 2 ≤ W) : ∃ M, LFP C M ∧ callF (Pr W) (kk + 4) 3 [cdD C] h = .ok (rowsD M) h := by
  obtain ⟨g, n, rs, M, gr, hn, mk, lf, e⟩ := ended_ok (W := W) kk h wf h0 hW
  refine ⟨M, lf, ?_⟩
  have Ml : M.length ≤ 16777216 := by rw [lf.sh.len]; have := wf.few; omega
  have inner : ∀ (r : Nat) (m : List Bool) (a b c : Option D), g[r]? = some (.lst (m.map .bl)) → m.length ≤ 1000 → evE (gk W (kk + 3)) (.comp [1, 2] (.tup [(.name 1), (.name 2)]) (.enum (.var 3)) [(.ex (.var 2))] (.var 1)) [a, b, c, some (.ref r)] g = .ok (.lst ((ixT m).map nD)) g := fun r m a b c er hl => by
    simp [evE, evI, srcT_at er]
    rw [enum_of, lpC_filter (gd_one er) _ nD (fun i => (m[i]?).getD false)]
    · have : (ixT m).length ≤ 16777216 := by have := ixT_len m; omega
      unfold ixT at *
      simp [this]
    · intro i _
      have hd : (m[i]?).getD default = (m[i]?).getD false := rfl
      rw [hd]
      cases (m[i]?).getD false <;> simp [nD, evTs, evE, evEs, evT]
  rw [u3]
  have e3 : ∀ (G : G) (b : Ex) (δ : Sl) (h : Hh), evE G (.comp [3] (.name 3) (.seq (.call 2 [(.var 0)] [])) [] b) δ h = (evI G (.seq (.call 2 [(.var 0)] [])) δ h).bind fun src h => (lpC src.gd (fun x h => match putT (.name 3) x (wipeS δ [3]) with
    | some δ' => (evTs G [] δ' h).bind fun k h => if k = true then (evE G b δ' h).bind fun y h => whenR (D.pers y) (.ok (some y) h) else .ok none h
    | none => .no) src.ds h).bind fun ys h => whenR (decide (ys.length ≤ cells)) (.ok (.lst ys) h) := fun G b δ h => by simp only [evE] <;> rfl
  have s1 : evI (gk W (kk + 3)) (.seq (.call 2 [(.var 0)] [])) [some (cdD C), none, none, none] h = .ok ⟨rs.map .ref, [(n, .lst (rs.map .ref))]⟩ g := by
    unfold cdD at *
    simp [evI, evE, evEs, e, srcD_at mk.top]
  have main : evE (gk W (kk + 3)) (.op .tuple [(.comp [3] (.name 3) (.seq (.call 2 [(.var 0)] [])) [] (.op .tuple [(.comp [1, 2] (.tup [(.name 1), (.name 2)]) (.enum (.var 3)) [(.ex (.var 2))] (.var 1))]))]) [some (cdD C), none, none, none] h = .ok (rowsD M) g := by
    have e4 : ∀ (G : G) (b : Ex) (δ : Sl) (h : Hh), evE G (.op .tuple [b]) δ h = (evE G b δ h).bind fun d h => opApp G.sub .tuple [d] h := fun G b δ h => by
      simp only [evE, evEs]
      cases evE G b δ h <;> rfl
    rw [e4, e3, s1]
    simp only [s_okb]
    rw [zip_fst mk.len, lpC_map (by rw [← zip_fst mk.len]; exact gd_one mk.top) _ (fun p => .tup ((ixT p.2).map nD))]
    · rw [zip_snd mk.len fun m => D.tup ((ixT m).map nD)]
      simp [Ml, rowsD]
    · intro p hp
      obtain ⟨q1, q2⟩ := mk.pair hp
      have i := inner p.1 p.2 (some (cdD C)) none none q1 (lf.sh.short wf q2)
      simp only [g_name', wipe1, wipe0, p_ref, if_true, List.set_cons_succ, List.set_cons_zero, evTs, s_okb, e4, i, o_tupL, p_tup, s_wt]
  refine (if_pos (show [cdD C].length = ended_rows.np from rfl)).trans ?_
  have body : ended_rows = ⟨1, 4, [.ret (.op .tuple [(.comp [3] (.name 3) (.seq (.call 2 [(.var 0)] [])) [] (.op .tuple [(.comp [1, 2] (.tup [(.name 1), (.name 2)]) (.enum (.var 3)) [(.ex (.var 2))] (.var 1))]))])]⟩ := rfl
  rw [body]
  show endF h (evSs (gk W (kk + 3)) [.ret _] [some (cdD C), none, none, none] h) = _
  rw [evSs_ret (h2 := g) (d := rowsD M) (by simp only [evS]; rw [main]; rfl)]
  exact fin_grow gr rowsD_low rfl
theorem lost_ok {W : Nat} (kk : Nat) {C : Cd} (h : Hh) (wf : WF C) (h0 : 0 < C.length) (hW : rowsN C + 2 ≤ W) : ∃ M, LFP C M ∧ callF (Pr W) (kk + 4) 4 [cdD C] h = .ok (.tup ((lostL M).map nD)) h := by
  obtain ⟨g, n, rs, M, gr, hn, mk, lf, e⟩ := ended_ok (W := W) kk h wf h0 hW
  refine ⟨M, lf, ?_⟩
  have Ml : M.length ≤ 16777216 := by rw [lf.sh.len]; have := wf.few; omega
  have ll : (lostL M).length ≤ 16777216 := by
    unfold lostL
    have := List.length_filter_le (fun w => !gt M w 0) (List.range M.length)
    rw [List.length_range] at this
    omega
  have rl : rs.length = M.length := mk.len
  rw [u4]
  have fin := fin_grow (d := .tup ((lostL M).map nD)) gr (by simp only [D.low]; exact low_map _ (fun i => by simp [nD, D.low]) _) rfl
  unfold cdD at *
  simp [runF, lost_words, startS, evSs, evS, evE, evEs, evI, e, srcT_at mk.top]
  rw [enum_of, lpC_filter (gd_one mk.top) _ nD (fun w => !gt M w 0), rl]
  · unfold lostL at *
    simp [ll, endF, fin]
  · intro w hw
    rw [List.mem_range, rl] at hw
    obtain ⟨m, hm⟩ : ∃ m, M[w]? = some m := ⟨_, List.getElem?_eq_getElem hw⟩
    obtain ⟨r, hr, er⟩ := mk.at_ hm
    have hC : w < C.length := by rw [← lf.sh.len]; exact hw
    have i := o_idxB (s := sub) (i := 0) hm er (by rw [lf.sh.row w m _ hm (List.getElem?_eq_getElem hC)]; exact wf.pos _ (List.getElem_mem ..))
    rw [hr]
    simp [nD] at i
    cases q : gt M w 0 <;> rw [q] at i <;> simp [nD, evTs, evE, evEs, evT, i]
end Lk09

namespace Lk09
open Ivy
/-! ### what is reached -/
inductive Rch (S : Nat → Nat → Prop) (s : Nat) : Nat → Prop
  | base : Rch S s s
  | step {x y : Nat} : Rch S s x → S x y → Rch S s y
structure Cl (S : Nat → Nat → Prop) (s : Nat) (L : List Nat) : Prop where
  nd : L.Nodup
  mem : ∀ x, x ∈ L ↔ Rch S s x
theorem cl_of {S : Nat → Nat → Prop} {s : Nat} {L : List Nat} (nd : L.Nodup) (hs : s ∈ L) (h : ∀ x ∈ L, Rch S s x) (c : ∀ x ∈ L, ∀ y, S x y → y ∈ L) : Cl S s L := ⟨nd, fun x => ⟨h x, fun r => by
  induction r with
  | base => exact hs
  | step r q ih => exact c _ ih _ q⟩⟩
def intL (L : List Nat) : List Int := L.map fun (i : Nat) => (i : Int)
def srtL (L : List Nat) : D := .tup ((sortI (intL L)).map .int)
theorem insB_comm (x y : Int) : ∀ l : List Int, insB x (insB y l) = insB y (insB x l)
  | [] => by
    simp only [insB]
    by_cases h : x ≤ y <;> by_cases h2 : y ≤ x <;> simp [h, h2]
    · omega
    · omega
  | z :: l => by
    simp only [insB]
    by_cases h1 : x ≤ z <;> by_cases h2 : y ≤ z <;> by_cases h3 : x ≤ y <;> by_cases h4 : y ≤ x <;> simp [insB, h1, h2, h3, h4, insB_comm x y l] <;> omega
theorem sortI_perm {l l' : List Int} (h : l.Perm l') : sortI l = sortI l' := by
  induction h with
  | nil => rfl
  | cons x _ ih => simp only [sortI, ih]
  | swap x y l => simp only [sortI]; rw [insB_comm]
  | trans _ _ i1 i2 => exact i1.trans i2
theorem cl_sort {S : Nat → Nat → Prop} {s : Nat} {L L' : List Nat} (a : Cl S s L) (b : Cl S s L') : srtL L = srtL L' := by
  have : L.Perm L' := (List.perm_ext_iff_of_nodup a.nd b.nd).mpr fun x => (a.mem x).trans (b.mem x).symm
  unfold srtL intL
  rw [sortI_perm (this.map _)]
theorem nodup_len {L : List Nat} {m : Nat} (nd : L.Nodup) (h : ∀ x ∈ L, x < m) : L.length ≤ m := by
  have : L.Perm ((List.range m).filter fun i => decide (i ∈ L)) := (List.perm_ext_iff_of_nodup nd (List.nodup_range.filter _)).mpr fun x => by
    simp
    exact h x
  rw [this.length_eq]
  exact Nat.le_trans (List.length_filter_le ..) (by simp)
/-- one after the other, if it is not there -/
def addL (L : List Nat) : List Nat → List Nat
  | [] => L
  | y :: ys => addL (if y ∈ L then L else L ++ [y]) ys
theorem addL_nd : ∀ (ys L : List Nat), L.Nodup → (addL L ys).Nodup
  | [], L, h => h
  | y :: ys, L, h => by
    refine addL_nd ys _ ?_
    split
    · exact h
    · rename_i q
      rw [List.nodup_append]
      exact ⟨h, by simp, fun a ha b hb => by simp at hb; subst hb; rintro rfl; exact q ha⟩
theorem addL_mem : ∀ (ys L : List Nat) (x : Nat), x ∈ addL L ys ↔ x ∈ L ∨ x ∈ ys
  | [], L, x => by simp [addL]
  | y :: ys, L, x => by
    unfold addL
    rw [addL_mem ys]
    split
    · rename_i q
      simp only [List.mem_cons]
      constructor
      · rintro (h | h)
        · exact .inl h
        · exact .inr (.inr h)
      · rintro (h | rfl | h)
        · exact .inl h
        · exact .inl q
        · exact .inr h
    · simp only [List.mem_append, List.mem_cons, List.not_mem_nil, or_false]
      constructor
      · rintro ((h | h) | h)
        · exact .inl h
        · exact .inr (.inl h)
        · exact .inr (.inr h)
      · rintro (h | h | h)
        · exact .inl (.inl h)
        · exact .inl (.inr h)
        · exact .inr h
theorem addL_pre : ∀ (ys L : List Nat) (i : Nat), i < L.length → (addL L ys)[i]? = L[i]?
  | [], L, i, h => rfl
  | y :: ys, L, i, h => by
    unfold addL
    rw [addL_pre ys _ i (by
      split
      · exact h
      · rw [List.length_append]; omega)]
    split
    · rfl
    · rw [List.getElem?_append_left h]
theorem addL_len : ∀ (ys L : List Nat), L.length ≤ (addL L ys).length
  | [], L => Nat.le_refl _
  | y :: ys, L => by
    unfold addL
    refine Nat.le_trans ?_ (addL_len ys _)
    split <;> simp
/-- the state of a search that goes on from place to place -/
structure Srch (S : Nat → Nat → Prop) (s m : Nat) (L : List Nat) (p : Nat) : Prop where
  nd : L.Nodup
  hs : s ∈ L
  lt : ∀ x ∈ L, x < m
  rch : ∀ x ∈ L, Rch S s x
  done : ∀ i x, i < p → L[i]? = some x → ∀ y, S x y → y ∈ L
theorem Srch.step {S : Nat → Nat → Prop} {s m p : Nat} {L ys : List Nat} {x : Nat} (h : Srch S s m L p) (hx : L[p]? = some x) (hy : ∀ y, y ∈ ys ↔ S x y) (hm : ∀ y ∈ ys, y < m) : Srch S s m (addL L ys) (p + 1) := by
  have hp := (List.getElem?_eq_some_iff.mp hx).1
  refine ⟨addL_nd _ _ h.nd, (addL_mem ..).mpr (.inl h.hs), fun y hy2 => ?_, fun y hy2 => ?_, fun i z hi hz y hS => ?_⟩
  · rcases (addL_mem ..).mp hy2 with q | q
    · exact h.lt y q
    · exact hm y q
  · rcases (addL_mem ..).mp hy2 with q | q
    · exact h.rch y q
    · exact (h.rch x (List.mem_of_getElem? hx)).step ((hy y).mp q)
  · by_cases hip : i = p
    · subst hip
      rw [addL_pre _ _ _ hp, hx] at hz
      cases hz
      exact (addL_mem ..).mpr (.inr ((hy y).mpr hS))
    · rw [addL_pre _ _ _ (by omega)] at hz
      exact (addL_mem ..).mpr (.inl (h.done i z (by omega) hz y hS))
theorem Srch.end {S : Nat → Nat → Prop} {s m p : Nat} {L : List Nat} (h : Srch S s m L p) (hp : L.length ≤ p) : Cl S s L :=
  cl_of h.nd h.hs h.rch fun x hx y hS => by
    obtain ⟨i, hi⟩ := List.mem_iff_getElem?.mp hx
    exact h.done i x (Nat.lt_of_lt_of_le (List.getElem?_eq_some_iff.mp hi).1 hp) hi y hS
theorem Srch.len {S : Nat → Nat → Prop} {s m p : Nat} {L : List Nat} (h : Srch S s m L p) : L.length ≤ m := nodup_len h.nd h.lt
end Lk09

namespace Lk09
open Ivy
/-! ### ways on -/
def waysF (M : Mk) : Rw → List Nat
  | .call c n => if gt M c 0 = true then [n] else []
  | r => r.nx
def rowAt (C : Cd) (w i : Nat) : Rw := ((C[w]?).bind fun rs => rs[i]?).getD .ret
theorem rowAt_eq {C : Cd} {w i : Nat} {rs : List Rw} {r : Rw} (h : C[w]? = some rs) (hr : rs[i]? = some r) : rowAt C w i = r := by
  unfold rowAt
  rw [h]
  simp [hr]
theorem o_idxC {s : Nat → Nat → Bool} {C : Cd} {g : Hh} {w : Nat} {rs : List Rw} (h : C[w]? = some rs) : opApp s .idx [cdD C, nD w] g = .ok (wdD rs) g := by
  show opApp s .idx [.tup (C.map wdD), .int (w : Int)] g = _
  rw [o_idxT, atP_map h]
theorem o_idxW {s : Nat → Nat → Bool} {g : Hh} {i : Nat} {rs : List Rw} {r : Rw} (h : rs[i]? = some r) : opApp s .idx [wdD rs, nD i] g = .ok (rwD r) g := by
  show opApp s .idx [.tup (rs.map rwD), .int (i : Int)] g = _
  rw [o_idxT, atP_map h]
theorem rwD_pers (r : Rw) : D.pers (rwD r) = true := by cases r <;> rfl
theorem rwD_box (r : Rw) (h : Hh) : boxR (rwD r) h = .ok (rwD r) h := by cases r <;> rfl
theorem cdD_pers (C : Cd) : D.pers (cdD C) = true := rfl
theorem cdD_box (C : Cd) (h : Hh) : boxR (cdD C) h = .ok (cdD C) h := rfl
theorem nD_pers (n : Nat) : D.pers (nD n) = true := rfl
theorem nD_box (n : Nat) (h : Hh) : boxR (nD n) h = .ok (nD n) h := rfl
theorem o_idxR0 {s : Nat → Nat → Bool} {g : Hh} (r : Rw) : ∃ x : Tx, opApp s .idx [rwD r, .int 0] g = .ok (.str x) g ∧ (decide (x = sCall) = match r with | .call _ _ => true | _ => false) := by
  cases r with
  | ret => exact ⟨sRet, by simp [rwD], by decide⟩
  | call c n => exact ⟨sCall, by simp [rwD], (by decide : decide (sCall = sCall) = true)⟩
  | deed d n => exact ⟨sDeed, by simp [rwD], (by decide : decide (sDeed = sCall) = false)⟩
  | cho ns => exact ⟨sCho, by simp [rwD], (by decide : decide (sCho = sCall) = false)⟩
theorem idx0 {s : Nat → Nat → Bool} {g : Hh} {M : Mk} {n c : Nat} {rs : List Nat} {C : Cd} (wf : WF C) (sh : Sh C M) (x : MkA g n rs M) (hc : c < C.length) : ∃ r, opApp s .idx [.ref n, .int (c : Int)] g = .ok (.ref r) g ∧ opApp s .idx [.ref r, .int 0] g = .ok (.bl (gt M c 0)) g := by
  obtain ⟨mc, hmc⟩ : ∃ mc, M[c]? = some mc := ⟨_, List.getElem?_eq_getElem (by rw [sh.len]; exact hc)⟩
  obtain ⟨rc, hrc, erc⟩ := x.at_ hmc
  have hcc : C[c]? = some C[c] := List.getElem?_eq_getElem hc
  exact ⟨rc, o_idxM x hrc, o_idxB (i := 0) hmc erc (by rw [sh.row c mc _ hmc hcc]; exact wf.pos _ (List.getElem_mem ..))⟩
theorem ways_ok {W : Nat} (k : Nat) {C : Cd} {M : Mk} {g : Hh} {n w i : Nat} {rs : List Nat} {wr : List Rw} {row : Rw} (wf : WF C) (sh : Sh C M) (x : MkA g n rs M) (hw : C[w]? = some wr) (hr : wr[i]? = some row) :
    callF (Pr W) (k + 2) 5 [cdD C, .ref n, nD w, nD i] g = .ok (.tup ((waysF M row).map nD)) g := by
  have e0 := nexts_ok (w := W) k row g
  have i1 := o_idxC (s := sub) (g := g) hw
  have i2 := o_idxW (s := sub) (g := g) hr
  rw [u5]
  cases row with
  | call c j =>
    obtain ⟨r, j1, j2⟩ := idx0 (s := sub) wf sh x (wf.call wr (List.mem_of_getElem? hw) _ (List.mem_of_getElem? hr) c j rfl)
    unfold rwD at e0 i2
    simp [sCall, Rw.nx, nD] at e0 i1 i2
    cases q : gt M c 0 <;> rw [q] at j2 <;> simp [runF, ways_on, startS, evSs, evS, evE, evEs, evT, i1, i2, nD, j1, j2, waysF, q, e0]
  | ret =>
    unfold rwD at e0 i2
    simp [sRet] at e0
    simp [runF, ways_on, startS, evSs, evS, evE, evEs, evT, i1, i2, sRet, waysF, e0]
  | deed d j =>
    unfold rwD at e0 i2
    simp [sDeed] at e0
    simp [runF, ways_on, startS, evSs, evS, evE, evEs, evT, i1, i2, sDeed, waysF, e0]
  | cho ns =>
    unfold rwD at e0 i2
    simp [sCho] at e0
    simp [runF, ways_on, startS, evSs, evS, evE, evEs, evT, i1, i2, sCho, waysF, e0]
theorem ways_sub {M : Mk} {r : Rw} {y : Nat} (h : y ∈ waysF M r) : y ∈ r.nx := by
  cases r with
  | call c n =>
    simp only [waysF] at h
    split at h
    · exact h
    · cases h
  | _ => exact h
/-! ### met_by -/
def MetS (C : Cd) (M : Mk) (w : Nat) : Nat → Nat → Prop := fun i j => j ∈ waysF M (rowAt C w i)
def lstD (L : List Nat) : C := .lst ((intL L).map .int)
theorem intL_map (L : List Nat) : (intL L).map D.int = L.map nD := by unfold intL; rw [List.map_map]; rfl
theorem intL_mem {L : List Nat} {j : Nat} : ((j : Int) ∈ intL L) ↔ j ∈ L := by
  unfold intL
  rw [List.mem_map]
  constructor
  · rintro ⟨a, h, e⟩
    have : a = j := by omega
    exact this ▸ h
  · exact fun h => ⟨j, h, rfl⟩
def dmt (C : Cd) (n w F : Nat) (p x : Option D) : Sl := [some (cdD C), some (.ref n), some (nD w), some (.ref F), p, x]
/-- the inner loop: what is not there is put behind -/
theorem met_inner {W : Nat} (k : Nat) {C : Cd} {n w : Nat} {p : Option D} {h : Hh} : ∀ (ys L : List Nat), L.length + ys.length ≤ 100000 →
    lpF [] (.name 5) [5] (evSs (gk W k) met_by_l1) (ys.map nD) (dmt C n w h.length p none) (h ++ [lstD L]) = .nx (dmt C n w h.length p none) (h ++ [lstD (addL L ys)])
  | [], L, _ => by rw [List.map_nil, lpF_nil]; simp [dmt, addL]
  | y :: ys, L, hl => by
    rw [List.length_cons] at hl
    have at_ : (h ++ [lstD L])[h.length]? = some (.lst ((intL L).map .int)) := by simp [lstD]
    have ni := o_notInL (s := sub) (i := (y : Int)) at_
    have ck := ck_at at_
    have ap := o_appendL (s := sub) (d := nD y) at_
    have ll : (intL L).length = L.length := by simp [intL]
    simp [nD_pers, ll, show L.length < 16777216 by omega] at ap
    have body : evSs (gk W k) met_by_l1 (dmt C n w h.length p (some (nD y))) (h ++ [lstD L]) = .nx (dmt C n w h.length p (some (nD y))) (h ++ [lstD (if y ∈ L then L else L ++ [y])]) := by
      by_cases q : y ∈ L
      · rw [if_pos q]
        have : decide ((y : Int) ∈ intL L) = true := decide_eq_true (intL_mem.mpr q)
        rw [this] at ni
        simp [dmt, met_by_l1, evSs, evS, evE, evEs, evT, nD, ni]
      · rw [if_neg q]
        have : decide ((y : Int) ∈ intL L) = false := decide_eq_false fun z => q (intL_mem.mp z)
        rw [this] at ni
        have e : lstD (L ++ [y]) = .lst ((intL L).map .int ++ [nD y]) := by simp [lstD, intL, nD]
        rw [e]
        simp [nD] at ap ⊢
        simp [dmt, met_by_l1, evSs, evS, evE, evEs, evT, nD, ni, ck, ap]
    rw [List.map_cons, lpF_go (δ1 := dmt C n w h.length p (some (nD y))) (by simp [dmt, nD_pers]) body]
    have e1 : wipeS (dmt C n w h.length p (some (nD y))) [5] = dmt C n w h.length p none := by simp [dmt]
    rw [e1, met_inner k ys _ (by
      split
      · omega
      · rw [List.length_append, List.length_singleton]; omega)]
    rfl
theorem met_loop {W : Nat} (k : Nat) {C : Cd} {M : Mk} {h : Hh} {n w : Nat} {rs : List Nat} {wr : List Rw} (wf : WF C) (sh : Sh C M) (x : MkA h n rs M) (hw : C[w]? = some wr) : ∀ (d N p : Nat) (L : List Nat), wr.length ≤ p + d → d + 1 ≤ N → Srch (MetS C M w) 0 wr.length L p → p ≤ L.length →
    ∃ L', Cl (MetS C M w) 0 L' ∧ L'.length ≤ wr.length ∧ lpW (evT (gk W (k + 2)) (.ex (.op .lt [(.var 4), (.op .len [(.var 3)])]))) [5] (evSs (gk W (k + 2)) met_by_l2) N (dmt C n w h.length (some (nD p)) none) (h ++ [lstD L]) = .nx (dmt C n w h.length (some (nD L'.length)) none) (h ++ [lstD L'])
  | d, 0, _, _, _, hN, _, _ => by omega
  | d, N + 1, p, L, hd, hN, S, hp => by
    have at_ : (h ++ [lstD L])[h.length]? = some (.lst ((intL L).map .int)) := by simp [lstD]
    have ln := o_lenL (s := sub) at_
    have ll : ((intL L).map D.int).length = L.length := by simp [intL]
    rw [ll] at ln
    have Sl := S.len
    by_cases e : p < L.length
    · obtain ⟨z, hz⟩ : ∃ z, L[p]? = some z := ⟨_, List.getElem?_eq_getElem e⟩
      have zl := S.lt z (List.mem_of_getElem? hz)
      obtain ⟨row, hr⟩ : ∃ row, wr[z]? = some row := ⟨_, List.getElem?_eq_getElem zl⟩
      have hwm := List.mem_of_getElem? hw
      have hrm := List.mem_of_getElem? hr
      have wy := ways_ok (W := W) k wf sh (x.grow (Grow.app [lstD L])) hw hr
      have ix : opApp sub .idx [.ref h.length, nD p] (h ++ [lstD L]) = .ok (nD z) (h ++ [lstD L]) := by
        rw [show nD p = .int (p : Int) from rfl, o_idxL at_, intL_map, atP_map hz]
      have wl : (waysF M row).length ≤ 1000 := by
        have := wf.wide wr hwm row hrm
        cases row with
        | call c j => simp only [waysF]; split <;> simp
        | _ => exact this
      have w2 := wf.few2 wr hwm
      have inn := met_inner (W := W) (k + 2) (C := C) (n := n) (w := w) (p := some (nD p)) (h := h) (waysF M row) L (by omega)
      have S2 := S.step (ys := waysF M row) hz (fun y => by unfold MetS; rw [rowAt_eq hw hr]) (fun y hy => wf.nx wr hwm row hrm y (ways_sub hy))
      match d, hd with
      | 0, hd => omega
      | d + 1, hd =>
        obtain ⟨L', a1, a2, a3⟩ := met_loop k (W := W) wf sh x hw d N (p + 1) (addL L (waysF M row)) (by omega) (by omega) S2 (by have := addL_len (waysF M row) L; omega)
        refine ⟨L', a1, a2, ?_⟩
        have T : evT (gk W (k + 2)) (.ex (.op .lt [(.var 4), (.op .len [(.var 3)])])) (dmt C n w h.length (some (nD p)) none) (h ++ [lstD L]) = .ok true (h ++ [lstD L]) := by
          simp [dmt, evT, evE, evEs, nD, ln, e]
        have B : evSs (gk W (k + 2)) met_by_l2 (dmt C n w h.length (some (nD p)) none) (h ++ [lstD L]) = .nx (dmt C n w h.length (some (nD (p + 1))) none) (h ++ [lstD (addL L (waysF M row))]) := by
          have e0 : dmt C n w h.length (some (nD p)) none = [some (cdD C), some (.ref n), some (nD w), some (.ref h.length), some (nD p), none] := rfl
          rw [e0] at inn ⊢
          have pp := nD_pers
          simp [met_by_l2, evSs, evS, evE, evEs, evT, evI, ix, cdD_pers, cdD_box, nD_pers, nD_box, wy, inn]
          simp [dmt, nD]
        rw [lpW_go T B]
        rw [show wipeS (dmt C n w h.length (some (nD (p + 1))) none) [5] = dmt C n w h.length (some (nD (p + 1))) none from by simp [dmt]]
        exact a3
    · refine ⟨L, S.end (by omega), Sl, ?_⟩
      have : p = L.length := by omega
      subst this
      rw [lpW_end (h1 := h ++ [lstD L]) (by simp [dmt, evT, evE, evEs, nD, ln])]
      simp [dmt]
theorem met_by_ok {W : Nat} (k : Nat) {C : Cd} {M : Mk} {h : Hh} {n w : Nat} {rs : List Nat} {wr : List Rw} (wf : WF C) (sh : Sh C M) (x : MkA h n rs M) (hw : C[w]? = some wr) (hW : 1001 ≤ W) :
    ∃ L, Cl (MetS C M w) 0 L ∧ L.length ≤ wr.length ∧ callF (Pr W) (k + 3) 6 [cdD C, .ref n, nD w] h = .ok (.lst (L.map nD)) h := by
  have hwm := List.mem_of_getElem? hw
  have w2 := wf.few2 wr hwm
  obtain ⟨L, a1, a2, a3⟩ := met_loop (W := W) k wf sh x hw wr.length W 0 [0] (by omega) (by omega) ⟨by simp, by simp, fun x hx => by simp at hx; subst hx; exact wf.pos wr hwm, fun x hx => by simp at hx; subst hx; exact .base, fun i _ hi => by omega⟩ (by simp)
  refine ⟨L, a1, a2, ?_⟩
  rw [u6]
  have fin := fin_list (h := h) (g := h ++ [lstD L]) (n := h.length) (xs := L.map nD) (Grow.app _) (Nat.le_refl _) (by simp [lstD, intL_map]) (low_map _ (fun i => by simp [nD, D.low]) _)
  unfold dmt at a3
  simp [nD, lstD, intL] at a3
  simp [runF, met_by, startS, evSs, evS, evE, evEs, cdD_pers, cdD_box, nD, a3, endF]
  simp [nD, lstD, intL] at fin
  exact fin
end Lk09

namespace Lk09
open Ivy
theorem srtL_low {n : Nat} {L : List Nat} : D.low n (srtL L) = true := by
  unfold srtL
  simp only [D.low]
  exact low_map _ (fun i => by simp [D.low]) _
theorem o_sortN {s : Nat → Nat → Bool} {h : Hh} {L : List Nat} (hl : L.length ≤ 16777216) : opApp s .sorted [.lst (L.map nD)] h = .ok (.lst ((sortI (intL L)).map .int)) h := o_sortL (fun (i : Nat) => (i : Int)) L hl
theorem met_rows_ok {W : Nat} (kk : Nat) {C : Cd} (h : Hh) {w : Nat} {wr : List Rw} (wf : WF C) (hw : C[w]? = some wr) (hW : rowsN C + 2 ≤ W) (hW2 : 1001 ≤ W) : ∃ M L, LFP C M ∧ Cl (MetS C M w) 0 L ∧ callF (Pr W) (kk + 4) 7 [cdD C, nD w] h = .ok (srtL L) h := by
  have h0 : 0 < C.length := by have := (List.getElem?_eq_some_iff.mp hw).1; omega
  obtain ⟨g, n, rs, M, gr, hn, mk, lf, e⟩ := ended_ok (W := W) kk h wf h0 hW
  obtain ⟨L, c1, c2, e2⟩ := met_by_ok (W := W) kk wf lf.sh mk hw hW2
  have wl := wf.few2 wr (List.mem_of_getElem? hw)
  refine ⟨M, L, lf, c1, ?_⟩
  rw [u7]
  have fin := fin_grow (d := srtL L) gr srtL_low rfl
  have st := o_sortN (s := sub) (h := g) (L := L) (by omega)
  simp [runF, met_rows, startS, evSs, evS, evE, evEs, cdD_pers, cdD_box, nD_pers, nD_box, e, e2, st, endF]
  exact fin
/-! ### needed_by -/
def callAt (C : Cd) (M : Mk) (u i : Nat) : Option Nat := match rowAt C u i with
  | .call c _ => if gt M u i = true then some c else none
  | _ => none
def NeedS (C : Cd) (M : Mk) : Nat → Nat → Prop := fun u c => ∃ i, Rch (MetS C M u) 0 i ∧ callAt C M u i = some c
theorem mem_calls {C : Cd} {M : Mk} {u c : Nat} {L : List Nat} : c ∈ L.filterMap (callAt C M u) ↔ ∃ i ∈ L, callAt C M u i = some c := List.mem_filterMap
def dnd (C : Cd) (n : Nat) (v : Option D) (F p : Nat) (a b : Option D) : Sl := [some (cdD C), some (.ref n), v, some (.ref F), some (nD p), a, b]
theorem needed_inner {W : Nat} (k : Nat) {C : Cd} {M : Mk} {h : Hh} {n u p : Nat} {v : Option D} {rs : List Nat} {wr : List Rw} (wf : WF C) (sh : Sh C M) (x : MkA h n rs M) (hu : C[u]? = some wr) : ∀ (is L : List Nat), (∀ i ∈ is, i < wr.length) → L.length + is.length ≤ 100000 → L[p]? = some u →
    lpF [] (.name 5) [5, 6] (evSs (gk W k) needed_by_l1) (is.map nD) (dnd C n v h.length p none none) (h ++ [lstD L]) = .nx (dnd C n v h.length p none none) (h ++ [lstD (addL L (is.filterMap (callAt C M u)))])
  | [], L, _, _, _ => by rw [List.map_nil, lpF_nil]; simp [dnd, addL]
  | i :: is, L, hi, hl, hp => by
    rw [List.length_cons] at hl
    have il := hi i (List.mem_cons_self ..)
    obtain ⟨row, hr⟩ : ∃ row, wr[i]? = some row := ⟨_, List.getElem?_eq_getElem il⟩
    have ra := rowAt_eq hu hr
    have xg := x.grow (Grow.app [lstD L])
    have at_ : (h ++ [lstD L])[h.length]? = some (.lst ((intL L).map .int)) := by simp [lstD]
    have ip : opApp sub .idx [.ref h.length, .int (p : Int)] (h ++ [lstD L]) = .ok (.int (u : Int)) (h ++ [lstD L]) := by
      rw [o_idxL at_, intL_map, atP_map hp]; rfl
    have i1 : opApp sub .idx [cdD C, .int (u : Int)] (h ++ [lstD L]) = .ok (wdD wr) (h ++ [lstD L]) := o_idxC hu
    have i2 : opApp sub .idx [wdD wr, .int (i : Int)] (h ++ [lstD L]) = .ok (rwD row) (h ++ [lstD L]) := o_idxW hr
    obtain ⟨m, hm⟩ : ∃ m, M[u]? = some m := ⟨_, List.getElem?_eq_getElem (by rw [sh.len]; exact (List.getElem?_eq_some_iff.mp hu).1)⟩
    obtain ⟨r, hrr, er⟩ := xg.at_ hm
    have i3 : opApp sub .idx [.ref n, .int (u : Int)] (h ++ [lstD L]) = .ok (.ref r) (h ++ [lstD L]) := o_idxM xg hrr
    have i4 : opApp sub .idx [.ref r, .int (i : Int)] (h ++ [lstD L]) = .ok (.bl (gt M u i)) (h ++ [lstD L]) := o_idxB hm er (by rw [sh.row u m wr hm hu]; exact il)
    -- what is left behind this turn
    obtain ⟨L2, hL2, b⟩ : ∃ L2, L2 = addL L ((callAt C M u i).toList) ∧ evSs (gk W k) needed_by_l1 (dnd C n v h.length p (some (nD i)) none) (h ++ [lstD L]) = .nx (dnd C n v h.length p (some (nD i)) (some (rwD row))) (h ++ [lstD L2]) := by
      cases row with
      | call c j =>
        have j0 : opApp sub .idx [rwD (.call c j), .int 0] (h ++ [lstD L]) = .ok (.str sCall) (h ++ [lstD L]) := by simp [rwD]
        have j1 : opApp sub .idx [rwD (.call c j), .int 1] (h ++ [lstD L]) = .ok (.int (c : Int)) (h ++ [lstD L]) := by simp [rwD, nD]
        have pr := rwD_pers (.call c j)
        have ni := o_notInL (s := sub) (i := (c : Int)) at_
        have ck := ck_at at_
        have ap := o_appendL (s := sub) (d := nD c) at_
        have ll : (intL L).length = L.length := by simp [intL]
        simp [nD_pers, ll, show L.length < 16777216 by omega] at ap
        unfold callAt
        rw [ra]
        cases q : gt M u i with
        | false =>
          rw [q] at i4
          refine ⟨L, by simp [addL], ?_⟩
          simp [sCall] at j0
          simp [dnd, needed_by_l1, evSs, evS, evE, evEs, evT, nD, ip, i1, i2, i3, i4, pr, j0]
        | true =>
          rw [q] at i4
          by_cases qc : c ∈ L
          · have : decide ((c : Int) ∈ intL L) = true := decide_eq_true (intL_mem.mpr qc)
            rw [this] at ni
            refine ⟨L, by simp [addL, qc], ?_⟩
            simp [sCall] at j0
            simp [dnd, needed_by_l1, evSs, evS, evE, evEs, evT, nD, ip, i1, i2, i3, i4, pr, j0, j1, ni]
          · have : decide ((c : Int) ∈ intL L) = false := decide_eq_false fun z => qc (intL_mem.mp z)
            rw [this] at ni
            refine ⟨L ++ [c], by simp [addL, qc], ?_⟩
            have e : lstD (L ++ [c]) = .lst ((intL L).map .int ++ [nD c]) := by simp [lstD, intL, nD]
            rw [e]
            simp [sCall] at j0
            simp [nD] at ap ⊢
            simp [dnd, needed_by_l1, evSs, evS, evE, evEs, evT, nD, ip, i1, i2, i3, i4, pr, j0, j1, ni, ck, ap]
      | ret =>
        have j0 : opApp sub .idx [rwD .ret, .int 0] (h ++ [lstD L]) = .ok (.str sRet) (h ++ [lstD L]) := by simp [rwD]
        have pr := rwD_pers .ret
        unfold callAt
        rw [ra]
        refine ⟨L, by simp [addL], ?_⟩
        simp [sRet] at j0
        simp [dnd, needed_by_l1, evSs, evS, evE, evEs, evT, nD, ip, i1, i2, pr, j0]
      | deed d j =>
        have j0 : opApp sub .idx [rwD (.deed d j), .int 0] (h ++ [lstD L]) = .ok (.str sDeed) (h ++ [lstD L]) := by simp [rwD]
        have pr := rwD_pers (.deed d j)
        unfold callAt
        rw [ra]
        refine ⟨L, by simp [addL], ?_⟩
        simp [sDeed] at j0
        simp [dnd, needed_by_l1, evSs, evS, evE, evEs, evT, nD, ip, i1, i2, pr, j0]
      | cho ns =>
        have j0 : opApp sub .idx [rwD (.cho ns), .int 0] (h ++ [lstD L]) = .ok (.str sCho) (h ++ [lstD L]) := by simp [rwD]
        have pr := rwD_pers (.cho ns)
        unfold callAt
        rw [ra]
        refine ⟨L, by simp [addL], ?_⟩
        simp [sCho] at j0
        simp [dnd, needed_by_l1, evSs, evS, evE, evEs, evT, nD, ip, i1, i2, pr, j0]
    have l2 : L2.length ≤ L.length + 1 ∧ L2[p]? = some u := by
      rw [hL2]
      constructor
      · cases callAt C M u i with
        | none => simp [addL]
        | some c => simp only [Option.toList, addL]; split <;> simp
      · rw [addL_pre _ _ _ (List.getElem?_eq_some_iff.mp hp).1]; exact hp
    rw [List.map_cons, lpF_go (δ1 := dnd C n v h.length p (some (nD i)) none) (by simp [dnd, nD_pers]) b]
    have e1 : wipeS (dnd C n v h.length p (some (nD i)) (some (rwD row))) [5, 6] = dnd C n v h.length p none none := by simp [dnd]
    rw [e1, needed_inner k wf sh x hu is L2 (fun j hj => hi j (List.mem_cons_of_mem _ hj)) (by omega) l2.2]
    have e2 : addL L2 (is.filterMap (callAt C M u)) = addL L ((i :: is).filterMap (callAt C M u)) := by
      rw [hL2, List.filterMap_cons]
      cases callAt C M u i with
      | none => simp [addL]
      | some c => simp [addL]
    rw [e2]
theorem call_lt {C : Cd} {M : Mk} {u i c : Nat} (wf : WF C) (h : callAt C M u i = some c) : c < C.length := by
  unfold callAt at h
  cases q : rowAt C u i with
  | call d n =>
    rw [q] at h
    simp only at h
    split at h
    · cases h
      unfold rowAt at q
      cases hC : C[u]? with
      | none => rw [hC] at q; cases q
      | some rs =>
        rw [hC] at q
        cases hr : rs[i]? with
        | none => simp [hr] at q
        | some r =>
          simp [hr] at q
          exact wf.call rs (List.mem_of_getElem? hC) r (List.mem_of_getElem? hr) _ n q
    · cases h
  | ret => rw [q] at h; cases h
  | deed _ _ => rw [q] at h; cases h
  | cho _ => rw [q] at h; cases h
theorem needed_loop {W : Nat} (k : Nat) {C : Cd} {M : Mk} {h : Hh} {n s : Nat} {v : Option D} {rs : List Nat} (wf : WF C) (sh : Sh C M) (x : MkA h n rs M) (hW : 1001 ≤ W) : ∀ (d N p : Nat) (L : List Nat), C.length ≤ p + d → d + 1 ≤ N → Srch (NeedS C M) s C.length L p → p ≤ L.length →
    ∃ L', Cl (NeedS C M) s L' ∧ L'.length ≤ C.length ∧ lpW (evT (gk W (k + 3)) (.ex (.op .lt [(.var 4), (.op .len [(.var 3)])]))) [5, 6] (evSs (gk W (k + 3)) needed_by_l2) N (dnd C n v h.length p none none) (h ++ [lstD L]) = .nx (dnd C n v h.length L'.length none none) (h ++ [lstD L'])
  | d, 0, _, _, _, hN, _, _ => by omega
  | d, N + 1, p, L, hd, hN, S, hp => by
    have at_ : (h ++ [lstD L])[h.length]? = some (.lst ((intL L).map .int)) := by simp [lstD]
    have ln := o_lenL (s := sub) at_
    have ll : ((intL L).map D.int).length = L.length := by simp [intL]
    rw [ll] at ln
    have Sl := S.len
    have few := wf.few
    by_cases e : p < L.length
    · obtain ⟨u, hz⟩ : ∃ z, L[p]? = some z := ⟨_, List.getElem?_eq_getElem e⟩
      have ul := S.lt u (List.mem_of_getElem? hz)
      obtain ⟨wr, hu⟩ : ∃ wr, C[u]? = some wr := ⟨_, List.getElem?_eq_getElem ul⟩
      have w2 := wf.few2 wr (List.mem_of_getElem? hu)
      obtain ⟨Lm, c1, c2, e2⟩ := met_by_ok (W := W) k wf sh (x.grow (Grow.app [lstD L])) hu hW
      have ix : opApp sub .idx [.ref h.length, nD p] (h ++ [lstD L]) = .ok (nD u) (h ++ [lstD L]) := by
        rw [show nD p = .int (p : Int) from rfl, o_idxL at_, intL_map, atP_map hz]
      have lt : ∀ i ∈ Lm, i < wr.length := fun i hi => by
        have r := (c1.mem i).mp hi
        have : ∀ i, Rch (MetS C M u) 0 i → i < wr.length := fun i r => by
          induction r with
          | base => exact wf.pos wr (List.mem_of_getElem? hu)
          | step r q ih =>
            rename_i a b
            obtain ⟨row, hr⟩ : ∃ row, wr[a]? = some row := ⟨_, List.getElem?_eq_getElem ih⟩
            unfold MetS at q
            rw [rowAt_eq hu hr] at q
            exact wf.nx wr (List.mem_of_getElem? hu) row (List.mem_of_getElem? hr) b (ways_sub q)
        exact this i r
      have inn := needed_inner (W := W) (k + 3) (v := v) wf sh x hu Lm L lt (by omega) hz
      have S2 := S.step (ys := Lm.filterMap (callAt C M u)) hz (fun y => by
        rw [mem_calls]
        unfold NeedS
        constructor
        · rintro ⟨i, h1, h2⟩
          exact ⟨i, (c1.mem i).mp h1, h2⟩
        · rintro ⟨i, h1, h2⟩
          exact ⟨i, (c1.mem i).mpr h1, h2⟩) (fun y hy => by
        obtain ⟨i, _, h2⟩ := mem_calls.mp hy
        exact call_lt wf h2)
      match d, hd with
      | 0, hd => omega
      | d + 1, hd =>
        obtain ⟨L', a1, a2, a3⟩ := needed_loop k (W := W) (v := v) wf sh x hW d N (p + 1) _ (by omega) (by omega) S2 (by have := addL_len (Lm.filterMap (callAt C M u)) L; omega)
        refine ⟨L', a1, a2, ?_⟩
        have T : evT (gk W (k + 3)) (.ex (.op .lt [(.var 4), (.op .len [(.var 3)])])) (dnd C n v h.length p none none) (h ++ [lstD L]) = .ok true (h ++ [lstD L]) := by
          simp [dnd, evT, evE, evEs, nD, ln, e]
        have B : evSs (gk W (k + 3)) needed_by_l2 (dnd C n v h.length p none none) (h ++ [lstD L]) = .nx (dnd C n v h.length (p + 1) none none) (h ++ [lstD (addL L (Lm.filterMap (callAt C M u)))]) := by
          have e0 : dnd C n v h.length p none none = [some (cdD C), some (.ref n), v, some (.ref h.length), some (nD p), none, none] := rfl
          rw [e0] at inn ⊢
          simp [needed_by_l2, evSs, evS, evE, evEs, evI, ix, cdD_pers, cdD_box, nD_pers, nD_box, e2, inn]
          simp [dnd, nD]
        rw [lpW_go T B]
        rw [show wipeS (dnd C n v h.length (p + 1) none none) [5, 6] = dnd C n v h.length (p + 1) none none from by simp [dnd]]
        exact a3
    · refine ⟨L, S.end (by omega), Sl, ?_⟩
      have : p = L.length := by omega
      subst this
      rw [lpW_end (h1 := h ++ [lstD L]) (by simp [dnd, evT, evE, evEs, nD, ln])]
      simp [dnd]
theorem needed_words_ok {W : Nat} (kk : Nat) {C : Cd} (h : Hh) {w : Nat} (wf : WF C) (hw : w < C.length) (hW : rowsN C + 2 ≤ W) (hW2 : 1002 ≤ W) : ∃ M L, LFP C M ∧ Cl (NeedS C M) w L ∧ callF (Pr W) (kk + 5) 9 [cdD C, nD w] h = .ok (srtL L) h := by
  obtain ⟨g, n, rs, M, gr, hn, mk, lf, e⟩ := ended_ok (W := W) (kk + 1) h wf (by omega) hW
  have few := wf.few
  obtain ⟨L, c1, c2, e2⟩ := needed_loop (W := W) kk (s := w) (v := some (nD w)) wf lf.sh mk (by omega) C.length W 0 [w] (by omega) (by omega) ⟨by simp, by simp, fun x hx => by simp at hx; subst hx; exact hw, fun x hx => by simp at hx; subst hx; exact .base, fun i _ hi => by omega⟩ (by simp)
  refine ⟨M, L, lf, c1, ?_⟩
  have nb : callF (Pr W) (kk + 4) 8 [cdD C, .ref n, nD w] g = .ok (.lst (L.map nD)) g := by
    rw [u8]
    have fin := fin_list (h := g) (g := g ++ [lstD L]) (n := g.length) (xs := L.map nD) (Grow.app _) (Nat.le_refl _) (by simp [lstD, intL_map]) (low_map _ (fun i => by simp [nD, D.low]) _)
    unfold dnd at e2
    simp [nD, lstD, intL] at e2
    simp [runF, needed_by, startS, evSs, evS, evE, evEs, cdD_pers, cdD_box, nD, e2, endF]
    simp [nD, lstD, intL] at fin
    exact fin
  rw [u9]
  have fin := fin_grow (d := srtL L) gr srtL_low rfl
  have st := o_sortN (s := sub) (h := g) (L := L) (by omega)
  simp [runF, needed_words, startS, evSs, evS, evE, evEs, cdD_pers, cdD_box, nD_pers, nD_box, e, nb, st, endF]
  exact fin
end Lk09

namespace Lk09
open Ivy
/-! ### the law's own rounds: marks set in place -/
structure MkN (g : Hh) (n : Nat) (rs : List Nat) (M : Mk) : Prop where
  a : MkA g n rs M
  nd : rs.Nodup
  nn : n ∉ rs
def setM (M : Mk) (w i : Nat) : Mk := M.set w (((M[w]?).getD []).set i true)
theorem gt_set {M : Mk} {w i : Nat} {m : List Bool} (hm : M[w]? = some m) (hi : i < m.length) (w' i' : Nat) : gt (setM M w i) w' i' = if w' = w ∧ i' = i then true else gt M w' i' := by
  have hw := (List.getElem?_eq_some_iff.mp hm).1
  unfold gt setM
  rw [hm]
  simp only [Option.getD_some]
  by_cases e : w' = w
  · subst e
    rw [List.getElem?_set_self hw, hm]
    simp only [Option.bind_some, true_and]
    by_cases e2 : i' = i
    · subst e2
      rw [List.getElem?_set_self hi]
      simp
    · rw [List.getElem?_set_ne (Ne.symm e2), if_neg e2]
  · rw [List.getElem?_set_ne (Ne.symm e), if_neg fun z => e z.1]
theorem set_sh {C : Cd} {M : Mk} {w i : Nat} (sh : Sh C M) : Sh C (setM M w i) := ⟨by unfold setM; rw [List.length_set]; exact sh.len, fun w' m rs h1 h2 => by
  unfold setM at h1
  by_cases e : w' = w
  · subst e
    have hw : w' < M.length := by rw [sh.len]; exact (List.getElem?_eq_some_iff.mp h2).1
    rw [List.getElem?_set_self hw] at h1
    cases h1
    rw [List.length_set, List.getElem?_eq_getElem hw]
    exact sh.row w' _ rs (List.getElem?_eq_getElem hw) h2
  · rw [List.getElem?_set_ne (Ne.symm e)] at h1
    exact sh.row w' m rs h1 h2⟩
theorem MkN.set {g : Hh} {n w i r : Nat} {rs : List Nat} {M : Mk} {m : List Bool} (x : MkN g n rs M) (hr : rs[w]? = some r) (hm : M[w]? = some m) : MkN (g.set r (.lst ((m.set i true).map .bl))) n rs (setM M w i) := by
  have hw := (List.getElem?_eq_some_iff.mp hm).1
  have er := x.a.row w r m hr hm
  have rl := (List.getElem?_eq_some_iff.mp er).1
  have nr : n ≠ r := fun z => x.nn (z ▸ List.mem_of_getElem? hr)
  refine ⟨⟨by rw [List.getElem?_set_ne (Ne.symm nr)]; exact x.a.top, by unfold setM; rw [List.length_set]; exact x.a.len, fun w' r' m' h1 h2 => ?_⟩, x.nd, x.nn⟩
  unfold setM at h2
  by_cases e : w' = w
  · subst e
    rw [hr] at h1
    cases h1
    rw [List.getElem?_set_self hw, hm] at h2
    cases h2
    rw [List.getElem?_set_self rl]
    rfl
  · rw [List.getElem?_set_ne (Ne.symm e)] at h2
    have ne : r ≠ r' := fun z => by
      subst z
      obtain ⟨l1, e1⟩ := List.getElem?_eq_some_iff.mp hr
      obtain ⟨l2, e2⟩ := List.getElem?_eq_some_iff.mp h1
      exact e ((List.getElem_inj x.nd).mp (e2.trans e1.symm))
    rw [List.getElem?_set_ne ne]
    exact x.a.row w' r' m' h1 h2
/-- what is known of marks on the way -/
structure Inv (C : Cd) (M : Mk) : Prop where
  sh : Sh C M
  up : Le2 M (stepM C M)
  lo : ∀ F, stepM C F = F → Le2 M F
theorem le_set {M : Mk} {w i : Nat} {m : List Bool} (hm : M[w]? = some m) (hi : i < m.length) : Le2 M (setM M w i) := fun w' i' e => by
  rw [gt_set hm hi]
  split
  · rfl
  · exact e
theorem Inv.set {C : Cd} {M : Mk} {w i : Nat} {m : List Bool} {rs : List Rw} {r : Rw} (x : Inv C M) (hm : M[w]? = some m) (hi : i < m.length) (hw : C[w]? = some rs) (hr : rs[i]? = some r) (g : goF (gt M) w r = true) : Inv C (setM M w i) := by
  have ls := le_set hm hi
  refine ⟨set_sh x.sh, fun w' i' e => ?_, fun F hF w' i' e => ?_⟩
  · rw [gt_set hm hi] at e
    split at e
    · rename_i q
      obtain ⟨rfl, rfl⟩ := q
      rw [gt_step hw hr]
      exact goF_mono ls g
    · exact step_mono ls w' i' (x.up w' i' e)
  · rw [gt_set hm hi] at e
    split at e
    · rename_i q
      obtain ⟨rfl, rfl⟩ := q
      rw [← hF, gt_step hw hr]
      exact goF_mono (x.lo F hF) g
    · exact x.lo F hF w' i' e
theorem off_set {C : Cd} {M : Mk} {w i : Nat} {m : List Bool} (x : Inv C M) (hm : M[w]? = some m) (hi : i < m.length) (g : gt M w i = false) : offs (setM M w i) < offs M := by
  obtain ⟨o1, o2⟩ := offs_sh x.sh (set_sh (w := w) (i := i) x.sh) (le_set hm hi)
  rcases Nat.lt_or_ge (offs (setM M w i)) (offs M) with q | q
  · exact q
  · have e := o2 (by omega)
    have : gt (setM M w i) w i = true := by rw [gt_set hm hi, if_pos ⟨rfl, rfl⟩]
    rw [← e, g] at this
    cases this
/-! ### one visit -/
def isRet : Rw → Bool
  | .ret => true
  | _ => false
theorem any_len (p : Nat → Bool) : ∀ L : List Nat, decide ((0 : Int) < ((L.filter p).length : Int)) = L.any p
  | [] => rfl
  | x :: L => by
    have ih := any_len p L
    rw [List.any_cons, ← ih]
    cases q : p x with
    | true => simp [q]
    | false => simp [q]
def dle (C : Cd) (n : Nat) (lap : Option D) (c : Bool) (w i a b o : Option D) : Sl := [some (cdD C), some (.ref n), none, lap, some (.bl c), w, i, a, b, o]
theorem visit_ok {W : Nat} (k : Nat) {C : Cd} {M : Mk} {g : Hh} {n w i : Nat} {rs : List Nat} {wr : List Rw} {row : Rw} {lap : Option D} {c : Bool} (wf : WF C) (x : Inv C M) (mk : MkN g n rs M) (hw : C[w]? = some wr) (hr : wr[i]? = some row) :
    ∃ g2 M2 c2 a b, MkN g2 n rs M2 ∧ g2.length = g.length ∧ (∀ j, j ∉ rs → g2[j]? = g[j]?) ∧ Inv C M2 ∧ ((M2 = M ∧ c2 = c ∧ (goF (gt M) w row = true → gt M w i = true)) ∨ (c2 = true ∧ offs M2 < offs M)) ∧
      evSs (gk W (k + 1)) _law_ended_l1 (dle C n lap c (some (nD w)) (some (nD i)) none none none) g = .nx (dle C n lap c2 (some (nD w)) (some (nD i)) a b none) g2 := by
  have hwm := List.mem_of_getElem? hw
  have hrm := List.mem_of_getElem? hr
  obtain ⟨m, hm⟩ : ∃ m, M[w]? = some m := ⟨_, List.getElem?_eq_getElem (by rw [x.sh.len]; exact (List.getElem?_eq_some_iff.mp hw).1)⟩
  obtain ⟨r, hrr, er⟩ := mk.a.at_ hm
  have ml := x.sh.row w m wr hm hw
  have il : i < m.length := by rw [ml]; exact (List.getElem?_eq_some_iff.mp hr).1
  have i1 : opApp sub .idx [cdD C, .int (w : Int)] g = .ok (wdD wr) g := o_idxC hw
  have i2 : opApp sub .idx [wdD wr, .int (i : Int)] g = .ok (rwD row) g := o_idxW hr
  have i3 : opApp sub .idx [.ref n, .int (w : Int)] g = .ok (.ref r) g := o_idxM mk.a hrr
  have i4 : ∀ j, j < m.length → opApp sub .idx [.ref r, .int (j : Int)] g = .ok (.bl (gt M w j)) g := fun j hj => o_idxB hm er hj
  have e0 := law_nexts_ok (w := W) k row g
  have pr := rwD_pers row
  have nl := wf.wide wr hwm row hrm
  have nx := wf.nx wr hwm row hrm
  -- the comprehension
  have cp : ∀ (b : Option D), evE (gk W (k + 1)) (.comp [9] (.name 9) (.seq (.call 15 [(.var 7)] [])) [(.ex (.op .idx [(.op .idx [(.var 1), (.var 5)]), (.var 9)]))] (.var 9)) (dle C n lap c (some (nD w)) (some (nD i)) (some (rwD row)) b none) g = .ok (.lst ((row.nx.filter fun j => gt M w j).map nD)) g := fun b => by
    simp [dle, evE, evI, evEs, pr, e0]
    rw [lpC_filter gd_nil nD nD (fun j => gt M w j)]
    · have : (row.nx.filter fun j => gt M w j).length ≤ 16777216 := by have := List.length_filter_le (fun j => gt M w j) row.nx; omega
      simp [this]
    · intro j hj
      have i5 := i4 j (by rw [ml]; exact nx j hj)
      cases q : gt M w j <;> rw [q] at i5 <;> simp [nD, evTs, evE, evEs, evT, i3, i5]
  have sp := mk.set (i := i) hrr hm
  have st : opApp sub .setItem [.bl true, .ref r, .int (i : Int)] g = .ok .non (g.set r (.lst ((m.set i true).map .bl))) := by
    rw [o_setL er]
    have : ixP (m.map D.bl).length (i : Int) = some i := by
      unfold ixP
      rw [if_pos (by omega), if_pos (by simpa using il)]
      simp
    rw [this]
    simp [List.map_set]
  have nr : ∀ j, j ∉ rs → (g.set r (.lst ((m.set i true).map .bl)))[j]? = g[j]? := fun j hj => List.getElem?_set_ne fun (z : r = j) => hj (z ▸ List.mem_of_getElem? hrr)
  have any := any_len (fun j => gt M w j) row.nx
  have body : _law_ended_l1 = [.asg (.name 7) (.op .idx [(.op .idx [(.var 0), (.var 5)]), (.var 6)]), .asg (.name 8) (.or (.op .eq [(.op .idx [(.var 7), (.lit (.int 0))]), (.lit (.str [114, 101, 116, 117, 114, 110]))]) (.op .gt [(.op .len [(.comp [9] (.name 9) (.seq (.call 15 [(.var 7)] [])) [(.ex (.op .idx [(.op .idx [(.var 1), (.var 5)]), (.var 9)]))] (.var 9))]), (.lit (.int 0))]))] ++ _law_ended_l1.drop 2 := rfl
  have pre : evSs (gk W (k + 1)) [.asg (.name 7) (.op .idx [(.op .idx [(.var 0), (.var 5)]), (.var 6)]), .asg (.name 8) (.or (.op .eq [(.op .idx [(.var 7), (.lit (.int 0))]), (.lit (.str [114, 101, 116, 117, 114, 110]))]) (.op .gt [(.op .len [(.comp [9] (.name 9) (.seq (.call 15 [(.var 7)] [])) [(.ex (.op .idx [(.op .idx [(.var 1), (.var 5)]), (.var 9)]))] (.var 9))]), (.lit (.int 0))]))] (dle C n lap c (some (nD w)) (some (nD i)) none none none) g = .nx (dle C n lap c (some (nD w)) (some (nD i)) (some (rwD row)) (some (.bl (isRet row || row.nx.any fun j => gt M w j))) none) g := by
    have c0 := cp none
    rw [evSs_cons (δ2 := dle C n lap c (some (nD w)) (some (nD i)) (some (rwD row)) none none) (h2 := g) (by simp [dle, evS, evE, evEs, nD, i1, i2, pr])]
    have e8 : evE (gk W (k + 1)) (.op .gt [(.op .len [(.comp [9] (.name 9) (.seq (.call 15 [(.var 7)] [])) [(.ex (.op .idx [(.op .idx [(.var 1), (.var 5)]), (.var 9)]))] (.var 9))]), (.lit (.int 0))]) (dle C n lap c (some (nD w)) (some (nD i)) (some (rwD row)) none none) g = .ok (.bl (row.nx.any fun j => gt M w j)) g := by
      have e2 : ∀ (G : G) (b : Ex) (δ : Sl) (h : Hh), evE G (.op .gt [(.op .len [b]), (.lit (.int 0))]) δ h = (evE G b δ h).bind fun d h => (opApp G.sub .len [d] h).bind fun x h => opApp G.sub .gt [x, .int 0] h := fun G b δ h => by
        simp only [evE, evEs]
        cases evE G b δ h with
        | err _ _ _ => rfl
        | no => rfl
        | ok a1 h1 =>
          simp only [s_okb]
          cases opApp G.sub .len [a1] h1 <;> rfl
      rw [e2, c0]
      simp only [s_okb, o_lenLf, o_gtI, List.length_map, any]
    have e9 : ∀ (G : G) (a b : Ex) (δ : Sl) (h : Hh), evS G (.asg (.name 8) (.or a b)) δ h = ((evE G a δ h).bind fun x h => match x with
      | .bl k => if k = true then R.ok (.bl true) h else evE G b δ h
      | _ => .no).go δ fun x h => match putT (.name 8) x δ with
      | some δ' => .nx δ' h
      | none => .no := fun G a b δ h => by simp only [evS, evE] <;> rfl
    have j0 : evE (gk W (k + 1)) (.op .eq [(.op .idx [(.var 7), (.lit (.int 0))]), (.lit (.str [114, 101, 116, 117, 114, 110]))]) (dle C n lap c (some (nD w)) (some (nD i)) (some (rwD row)) none none) g = .ok (.bl (isRet row)) g := by
      cases row <;> simp [dle, evE, evEs, rwD, sRet, sCall, sDeed, sCho, isRet]
    rw [evSs_cons (δ2 := dle C n lap c (some (nD w)) (some (nD i)) (some (rwD row)) (some (.bl (isRet row || row.nx.any fun j => gt M w j))) none) (h2 := g) (by
      rw [e9, j0]
      cases isRet row with
      | true => simp [dle]
      | false =>
        simp only [s_okb, Bool.false_eq_true, if_false, e8]
        simp [dle]), evSs_nil]
  rw [body]
  -- the third statement: what the call says
  obtain ⟨b, hb, s3⟩ : ∃ b, b = goF (gt M) w row ∧ evS (gk W (k + 1)) (.ite (.and (.ex (.op .eq [(.op .idx [(.var 7), (.lit (.int 0))]), (.lit (.str [99, 97, 108, 108]))])) (.not (.ex (.op .idx [(.op .idx [(.var 1), (.op .idx [(.var 7), (.lit (.int 1))])]), (.lit (.int 0))])))) [.asg (.name 8) (.lit (.bl false))] []) (dle C n lap c (some (nD w)) (some (nD i)) (some (rwD row)) (some (.bl (isRet row || row.nx.any fun j => gt M w j))) none) g = .nx (dle C n lap c (some (nD w)) (some (nD i)) (some (rwD row)) (some (.bl b)) none) g := by
    refine ⟨_, rfl, ?_⟩
    cases row with
    | call d j =>
      obtain ⟨r1, j1, j2⟩ := idx0 (s := sub) wf x.sh mk.a (wf.call wr hwm _ hrm d j rfl)
      cases q : gt M d 0 <;> rw [q] at j2 <;> simp [dle, evSs, evS, evE, evEs, evT, rwD, sCall, nD, isRet, Rw.nx, goF, j1, j2, q]
    | ret => simp [dle, evSs, evS, evE, evEs, evT, rwD, sRet, isRet, Rw.nx, goF]
    | deed d j => simp [dle, evSs, evS, evE, evEs, evT, rwD, sDeed, isRet, Rw.nx, goF]
    | cho ns => simp [dle, evSs, evS, evE, evEs, evT, rwD, sCho, isRet, Rw.nx, goF]
  have i4' := i4 i il
  cases b with
  | false =>
    refine ⟨g, M, c, some (rwD row), some (.bl false), mk, rfl, fun _ _ => rfl, x, .inl ⟨rfl, rfl, fun z => by rw [← hb] at z; cases z⟩, ?_⟩
    rw [evSs_app pre, show _law_ended_l1.drop 2 = (.ite (.and (.ex (.op .eq [(.op .idx [(.var 7), (.lit (.int 0))]), (.lit (.str [99, 97, 108, 108]))])) (.not (.ex (.op .idx [(.op .idx [(.var 1), (.op .idx [(.var 7), (.lit (.int 1))])]), (.lit (.int 0))])))) [.asg (.name 8) (.lit (.bl false))] []) :: _law_ended_l1.drop 3 from rfl, evSs_cons s3]
    simp [_law_ended_l1, dle, evSs, evS, evE, evT]
  | true =>
    cases q : gt M w i with
    | true =>
      rw [q] at i4'
      refine ⟨g, M, c, some (rwD row), some (.bl true), mk, rfl, fun _ _ => rfl, x, .inl ⟨rfl, rfl, fun _ => rfl⟩, ?_⟩
      rw [evSs_app pre, show _law_ended_l1.drop 2 = (.ite (.and (.ex (.op .eq [(.op .idx [(.var 7), (.lit (.int 0))]), (.lit (.str [99, 97, 108, 108]))])) (.not (.ex (.op .idx [(.op .idx [(.var 1), (.op .idx [(.var 7), (.lit (.int 1))])]), (.lit (.int 0))])))) [.asg (.name 8) (.lit (.bl false))] []) :: _law_ended_l1.drop 3 from rfl, evSs_cons s3]
      simp [_law_ended_l1, dle, evSs, evS, evE, evEs, evT, nD, i3, i4']
    | false =>
      rw [q] at i4'
      refine ⟨_, setM M w i, true, some (rwD row), some (.bl true), sp, by simp, nr, x.set hm il hw hr hb.symm, .inr ⟨rfl, off_set x hm il q⟩, ?_⟩
      rw [evSs_app pre, show _law_ended_l1.drop 2 = (.ite (.and (.ex (.op .eq [(.op .idx [(.var 7), (.lit (.int 0))]), (.lit (.str [99, 97, 108, 108]))])) (.not (.ex (.op .idx [(.op .idx [(.var 1), (.op .idx [(.var 7), (.lit (.int 1))])]), (.lit (.int 0))])))) [.asg (.name 8) (.lit (.bl false))] []) :: _law_ended_l1.drop 3 from rfl, evSs_cons s3]
      simp [_law_ended_l1, dle, evSs, evS, evE, evEs, evT, nD, i3, i4', st]
end Lk09

namespace Lk09
open Ivy
/-- how a row of visits ends -/
def Vis (C : Cd) (M M2 : Mk) (c c2 : Bool) (P : Prop) : Prop := (M2 = M ∧ c2 = c ∧ P) ∨ (c2 = true ∧ offs M2 < offs M)
theorem Vis.seq {C : Cd} {M M2 M3 : Mk} {c c2 c3 : Bool} {P Q : Prop} (h : Vis C M M2 c c2 P) (k : Vis C M2 M3 c2 c3 Q) (t : M2 = M → P → Q → True) : Vis C M M3 c c3 (P ∧ Q) := by
  rcases h with ⟨h1, h2, h3⟩ | ⟨h1, h2⟩
  · subst h1 h2
    rcases k with ⟨k1, k2, k3⟩ | ⟨k1, k2⟩
    · exact .inl ⟨k1, k2, h3, k3⟩
    · exact .inr ⟨k1, k2⟩
  · rcases k with ⟨k1, k2, k3⟩ | ⟨k1, k2⟩
    · subst k1 k2
      exact .inr ⟨h1, h2⟩
    · exact .inr ⟨k1, by omega⟩
def Sat (C : Cd) (M : Mk) (w i : Nat) : Prop := goF (gt M) w (rowAt C w i) = true → gt M w i = true
theorem word_loop {W : Nat} (k : Nat) {C : Cd} {n w : Nat} {rs : List Nat} {wr : List Rw} {lap : Option D} (wf : WF C) (hw : C[w]? = some wr) : ∀ (is : List Nat) (M : Mk) (g : Hh) (c : Bool), (∀ i ∈ is, i < wr.length) → Inv C M → MkN g n rs M →
    ∃ g2 M2 c2, MkN g2 n rs M2 ∧ g2.length = g.length ∧ (∀ j, j ∉ rs → g2[j]? = g[j]?) ∧ Inv C M2 ∧ Vis C M M2 c c2 (∀ i ∈ is, Sat C M w i) ∧
      lpF [] (.name 6) [6, 7, 8, 9] (evSs (gk W (k + 1)) _law_ended_l1) (is.map nD) (dle C n lap c (some (nD w)) none none none none) g = .nx (dle C n lap c2 (some (nD w)) none none none none) g2
  | [], M, g, c, _, x, mk => ⟨g, M, c, mk, rfl, fun _ _ => rfl, x, .inl ⟨rfl, rfl, fun i h => by cases h⟩, by rw [List.map_nil, lpF_nil]; simp [dle, wipeS]⟩
  | i :: is, M, g, c, hi, x, mk => by
    obtain ⟨row, hr⟩ : ∃ row, wr[i]? = some row := ⟨_, List.getElem?_eq_getElem (hi i (List.mem_cons_self ..))⟩
    obtain ⟨g1, M1, c1, a, b, q1, q2, q3, q4, q5, q6⟩ := visit_ok (W := W) k (lap := lap) (c := c) wf x mk hw hr
    obtain ⟨g2, M2, c2, p1, p2, p3, p4, p5, p6⟩ := word_loop k (W := W) (lap := lap) wf hw is M1 g1 c1 (fun j hj => hi j (List.mem_cons_of_mem _ hj)) q4 q1
    refine ⟨g2, M2, c2, p1, p2.trans q2, fun j hj => (p3 j hj).trans (q3 j hj), p4, ?_, ?_⟩
    · have v1 : Vis C M M1 c c1 (Sat C M w i) := by
        rcases q5 with ⟨h1, h2, h3⟩ | h
        · exact .inl ⟨h1, h2, by unfold Sat; rw [rowAt_eq hw hr]; exact h3⟩
        · exact .inr h
      rcases v1 with ⟨h1, h2, h3⟩ | ⟨h1, h2⟩
      · subst h1 h2
        rcases p5 with ⟨k1, k2, k3⟩ | h
        · exact .inl ⟨k1, k2, fun j hj => by
            rcases List.mem_cons.mp hj with rfl | hj
            · exact h3
            · exact k3 j hj⟩
        · exact .inr h
      · rcases p5 with ⟨k1, k2, _⟩ | ⟨k1, k2⟩
        · subst k1 k2
          exact .inr ⟨h1, h2⟩
        · exact .inr ⟨k1, by omega⟩
    · rw [List.map_cons, lpF_go (δ1 := dle C n lap c (some (nD w)) (some (nD i)) none none none) (by simp [dle, nD_pers]) q6]
      have e : wipeS (dle C n lap c1 (some (nD w)) (some (nD i)) a b none) [6, 7, 8, 9] = dle C n lap c1 (some (nD w)) none none none none := by simp [dle, wipeS]
      rw [e]
      exact p6
/-- the rows' places, from the last one -/
theorem back_rng (m : Nat) : rngS [.int ((m : Int) - 1), .int (-1), .int (-1)] = some ⟨((List.range m).map fun i => m - 1 - i).map nD, []⟩ := by
  have b : (-1 : Int).natAbs < bigD := small_bigD (by decide)
  show (if (-1 : Int) ≠ 0 ∧ (-1 : Int).natAbs < bigD then some (⟨rangeL ((m : Int) - 1) (rangeN ((m : Int) - 1) (-1) (-1)) (-1), []⟩ : Src) else none) = _
  rw [if_pos ⟨by decide, b⟩]
  have rn : rangeN ((m : Int) - 1) (-1) (-1) = m := by
    unfold rangeN
    rw [if_neg (by decide)]
    by_cases h : 0 < m
    · rw [if_pos (by omega)]
      simp
    · rw [if_neg (by omega)]; omega
  rw [rn]
  congr 2
  unfold rangeL
  rw [List.map_map]
  refine List.map_congr_left fun i hi => ?_
  rw [List.mem_range] at hi
  simp [nD]
  omega
theorem back_mem {m i : Nat} : i ∈ (List.range m).map (fun i => m - 1 - i) ↔ i < m := by
  rw [List.mem_map]
  constructor
  · rintro ⟨j, hj, rfl⟩
    rw [List.mem_range] at hj
    omega
  · intro h
    exact ⟨m - 1 - i, by rw [List.mem_range]; omega, by omega⟩
theorem pass_loop {W : Nat} (k : Nat) {C : Cd} {n : Nat} {rs : List Nat} {lap : Option D} (wf : WF C) : ∀ (ws : List Nat) (M : Mk) (g : Hh) (c : Bool), (∀ w ∈ ws, w < C.length) → Inv C M → MkN g n rs M →
    ∃ g2 M2 c2, MkN g2 n rs M2 ∧ g2.length = g.length ∧ (∀ j, j ∉ rs → g2[j]? = g[j]?) ∧ Inv C M2 ∧ Vis C M M2 c c2 (∀ w ∈ ws, ∀ wr, C[w]? = some wr → ∀ i, i < wr.length → Sat C M w i) ∧
      lpF [] (.name 5) [5, 6, 7, 8, 9] (evSs (gk W (k + 1)) _law_ended_l2) (ws.map nD) (dle C n lap c none none none none none) g = .nx (dle C n lap c2 none none none none none) g2
  | [], M, g, c, _, x, mk => ⟨g, M, c, mk, rfl, fun _ _ => rfl, x, .inl ⟨rfl, rfl, fun i h => by cases h⟩, by rw [List.map_nil, lpF_nil]; simp [dle, wipeS]⟩
  | w :: ws, M, g, c, hi, x, mk => by
    obtain ⟨wr, hw⟩ : ∃ wr, C[w]? = some wr := ⟨_, List.getElem?_eq_getElem (hi w (List.mem_cons_self ..))⟩
    obtain ⟨g1, M1, c1, q1, q2, q3, q4, q5, q6⟩ := word_loop (W := W) k (lap := lap) wf hw ((List.range wr.length).map fun i => wr.length - 1 - i) M g c (fun i h => back_mem.mp h) x mk
    obtain ⟨g2, M2, c2, p1, p2, p3, p4, p5, p6⟩ := pass_loop k (W := W) (lap := lap) wf ws M1 g1 c1 (fun j hj => hi j (List.mem_cons_of_mem _ hj)) q4 q1
    have i1 : opApp sub .idx [cdD C, .int (w : Int)] g = .ok (wdD wr) g := o_idxC hw
    have ln : opApp sub .len [wdD wr] g = .ok (.int (wr.length : Int)) g := by
      show opApp sub .len [.tup (wr.map rwD)] g = _
      rw [o_lenT, List.length_map]
    refine ⟨g2, M2, c2, p1, p2.trans q2, fun j hj => (p3 j hj).trans (q3 j hj), p4, ?_, ?_⟩
    · rcases q5 with ⟨h1, h2, h3⟩ | ⟨h1, h2⟩
      · subst h1 h2
        rcases p5 with ⟨k1, k2, k3⟩ | h
        · exact .inl ⟨k1, k2, fun v hv wr' hw' i hi' => by
            rcases List.mem_cons.mp hv with rfl | hv
            · rw [hw] at hw'
              cases hw'
              exact h3 i (back_mem.mpr hi')
            · exact k3 v hv wr' hw' i hi'⟩
        · exact .inr h
      · rcases p5 with ⟨k1, k2, _⟩ | ⟨k1, k2⟩
        · subst k1 k2
          exact .inr ⟨h1, h2⟩
        · exact .inr ⟨k1, by omega⟩
    · have body : evSs (gk W (k + 1)) _law_ended_l2 (dle C n lap c (some (nD w)) none none none none) g = .nx (dle C n lap c1 (some (nD w)) none none none none) g1 := by
        have e0 : dle C n lap c (some (nD w)) none none none none = [some (cdD C), some (.ref n), none, lap, some (.bl c), some (nD w), none, none, none, none] := rfl
        rw [e0] at q6 ⊢
        have e1 : wipeS [some (cdD C), some (.ref n), none, lap, some (.bl c), some (nD w), none, none, none, none] [6, 7, 8, 9] = [some (cdD C), some (.ref n), none, lap, some (.bl c), some (nD w), none, none, none, none] := by simp [wipeS]
        have ev : evI (gk W (k + 1)) (.rng [(.op .sub [(.op .len [(.op .idx [(.var 0), (.var 5)])]), (.lit (.int 1))]), (.op .neg [(.lit (.int 1))]), (.op .neg [(.lit (.int 1))])]) [some (cdD C), some (.ref n), none, lap, some (.bl c), some (nD w), none, none, none, none] g = .ok ⟨((List.range wr.length).map fun i => wr.length - 1 - i).map nD, []⟩ g := by
          have br := back_rng wr.length
          simp [evI, evE, evEs, nD, i1, ln]
          rw [br]
          simp [nD]
        have es : ∀ (G : G) (t : Tg) (it : It) (b : List Ivy.St) (ks : List Nat) (δ : Sl) (h : Hh), evS G (.for t it b ks) δ h = (evI G it δ h).go δ fun s h => lpF s.gd t ks (evSs G b) s.ds (wipeS δ ks) h := fun G t it b ks δ h => by simp only [evS]
        rw [show _law_ended_l2 = [.for (.name 6) (.rng [(.op .sub [(.op .len [(.op .idx [(.var 0), (.var 5)])]), (.lit (.int 1))]), (.op .neg [(.lit (.int 1))]), (.op .neg [(.lit (.int 1))])]) _law_ended_l1 [6, 7, 8, 9]] from rfl]
        rw [evSs_cons (by rw [es, ev]; simp only [s_go]; rw [e1]; exact q6), evSs_nil]
      rw [List.map_cons, lpF_go (δ1 := dle C n lap c (some (nD w)) none none none none) (by simp [dle, nD_pers]) body]
      have e : wipeS (dle C n lap c1 (some (nD w)) none none none none) [5, 6, 7, 8, 9] = dle C n lap c1 none none none none none := by simp [dle, wipeS]
      rw [e]
      exact p6
theorem inv_fix {C : Cd} {M : Mk} (x : Inv C M) (h : ∀ w wr, C[w]? = some wr → ∀ i, i < wr.length → Sat C M w i) : LFP C M := by
  refine ⟨x.sh, sh_ext (step_sh C M) x.sh fun w i => ?_, x.lo⟩
  cases e : gt (stepM C M) w i with
  | false =>
    cases e2 : gt M w i with
    | false => rfl
    | true => rw [x.up w i e2] at e; cases e
  | true =>
    symm
    cases hw : C[w]? with
    | none =>
      unfold gt stepM at e
      rw [List.getElem?_mapIdx, hw] at e
      cases e
    | some wr =>
      cases hr : wr[i]? with
      | none =>
        unfold gt at e
        rw [step_at hw] at e
        simp [hr] at e
      | some r =>
        rw [gt_step hw hr] at e
        refine h w wr hw i (List.getElem?_eq_some_iff.mp hr).1 ?_
        rw [rowAt_eq hw hr]
        exact e
theorem laps_ok {W : Nat} (k : Nat) {C : Cd} {n : Nat} {rs : List Nat} (wf : WF C) : ∀ (xs : List D) (M : Mk) (g : Hh) (b : Option D), (∀ y ∈ xs, D.pers y = true) → offs M < xs.length → Inv C M → MkN g n rs M →
    ∃ g2 M2, MkN g2 n rs M2 ∧ g2.length = g.length ∧ (∀ j, j ∉ rs → g2[j]? = g[j]?) ∧ LFP C M2 ∧
      lpF [] (.name 3) [3, 4, 5, 6, 7, 8, 9] (evSs (gk W (k + 1)) _law_ended_l3) xs [some (cdD C), some (.ref n), none, none, none, none, none, none, none, none] g = .nx [some (cdD C), some (.ref n), none, none, none, none, none, none, none, none] g2
  | [], M, g, b, _, h, _, _ => by simp at h
  | y :: xs, M, g, b, hy, h, x, mk => by
    have py := hy y (List.mem_cons_self ..)
    obtain ⟨g1, M1, c1, q1, q2, q3, q4, q5, q6⟩ := pass_loop (W := W) k (lap := some y) wf (List.range C.length) M g false (fun w hw => List.mem_range.mp hw) x mk
    have ln : opApp sub .len [cdD C] g = .ok (.int (C.length : Int)) g := by
      show opApp sub .len [.tup (C.map wdD)] g = _
      rw [o_lenT, List.length_map]
    have rn : rngS [.int (C.length : Int)] = some ⟨(List.range C.length).map nD, []⟩ := by rw [rng1, range_nat]; rfl
    have pre : evSs (gk W (k + 1)) [.asg (.name 4) (.lit (.bl false)), .for (.name 5) (.rng [(.op .len [(.var 0)])]) _law_ended_l2 [5, 6, 7, 8, 9]] [some (cdD C), some (.ref n), none, some y, none, none, none, none, none, none] g = .nx (dle C n (some y) c1 none none none none none) g1 := by
      unfold dle at q6
      simp [evSs, evS, evE, evEs, evI, ln, rn, wipeS, q6]
      simp [dle]
    have body0 : _law_ended_l3 = [.asg (.name 4) (.lit (.bl false)), .for (.name 5) (.rng [(.op .len [(.var 0)])]) _law_ended_l2 [5, 6, 7, 8, 9]] ++ [.ite (.not (.ex (.var 4))) [.brk] []] := rfl
    cases c1 with
    | false =>
      rcases q5 with ⟨h1, _, h3⟩ | ⟨h1, _⟩
      · subst h1
        refine ⟨g1, M1, q1, q2, q3, inv_fix q4 fun w wr hw i hi => h3 w (List.mem_range.mpr (List.getElem?_eq_some_iff.mp hw).1) wr hw i hi, ?_⟩
        have body : evSs (gk W (k + 1)) _law_ended_l3 [some (cdD C), some (.ref n), none, some y, none, none, none, none, none, none] g = .brk (dle C n (some y) false none none none none none) g1 := by
          rw [body0, evSs_app pre]
          simp [dle, evSs, evS, evE, evT]
        rw [lpF_brk (δ1 := [some (cdD C), some (.ref n), none, some y, none, none, none, none, none, none]) (by simp [py]) body]
        simp [dle, wipeS]
      · cases h1
    | true =>
      have lt : offs M1 < offs M := by
        rcases q5 with ⟨_, h2, _⟩ | ⟨_, h2⟩
        · cases h2
        · exact h2
      rw [List.length_cons] at h
      obtain ⟨g2, M2, p1, p2, p3, p4, p5⟩ := laps_ok k (W := W) wf xs M1 g1 none (fun z hz => hy z (List.mem_cons_of_mem _ hz)) (by omega) q4 q1
      refine ⟨g2, M2, p1, p2.trans q2, fun j hj => (p3 j hj).trans (q3 j hj), p4, ?_⟩
      have body : evSs (gk W (k + 1)) _law_ended_l3 [some (cdD C), some (.ref n), none, some y, none, none, none, none, none, none] g = .nx (dle C n (some y) true none none none none none) g1 := by
        rw [body0, evSs_app pre]
        simp [dle, evSs, evS, evE, evT]
      rw [lpF_go (δ1 := [some (cdD C), some (.ref n), none, some y, none, none, none, none, none, none]) (by simp [py]) body]
      have e : wipeS (dle C n (some y) true none none none none none) [3, 4, 5, 6, 7, 8, 9] = [some (cdD C), some (.ref n), none, none, none, none, none, none, none, none] := by simp [dle, wipeS]
      rw [e]
      exact p5
end Lk09

namespace Lk09
open Ivy
theorem o_mulLI {s : Nat → Nat → Bool} {h : Hh} {xs : List D} {k : Int} : opApp s .mul [.lst xs, .int k] h = whenR (decide (-9223372036854775808 ≤ k) && decide (k < 9223372036854775808) && decide (xs.length * k.toNat ≤ cells)) (.ok (.lst (List.replicate k.toNat xs).flatten) h) := rfl
theorem sum_rows : ∀ C : Cd, (C.map fun rs => (rs.length : Int)).sum = (rowsN C : Int)
  | [] => rfl
  | rs :: C => by
    simp only [List.map_cons, List.sum_cons, sum_rows C]
    unfold rowsN
    simp
theorem rep_false (rs : List Rw) : (List.replicate rs.length [D.bl false]).flatten = rs.map fun _ => .bl false := by
  induction rs with
  | nil => rfl
  | cons r rs ih => simp [List.replicate_succ, ih]
theorem len_wd {g : Hh} (rs : List Rw) : opApp sub .len [wdD rs] g = .ok (.int (rs.length : Int)) g := by
  show opApp sub .len [.tup (rs.map rwD)] g = _
  rw [o_lenT, List.length_map]
theorem mul_false {g : Hh} (rs : List Rw) (hl : rs.length ≤ 1000) : opApp sub .mul [.lst [.bl false], .int (rs.length : Int)] g = .ok (.lst (rs.map fun _ => .bl false)) g := by
  rw [o_mulLI, Int.toNat_natCast, rep_false]
  rw [decide_eq_true (show -9223372036854775808 ≤ (rs.length : Int) by omega), decide_eq_true (show (rs.length : Int) < 9223372036854775808 by omega), decide_eq_true (show [D.bl false].length * rs.length ≤ cells by rw [cells_n, List.length_singleton]; omega)]
  rfl
theorem lst1 {s : Nat → Nat → Bool} {h : Hh} {b : Bool} : opApp s .lst [.bl b] h = .ok (.lst [.bl b]) h := by
  rw [o_lst]
  rfl
theorem el_ok {W k : Nat} {g : Hh} (rs : List Rw) (hl : rs.length ≤ 1000) (a : Option D) : evE (gk W (k + 1)) (.box (.op .mul [(.op .lst [(.lit (.bl false))]), (.op .len [(.var 2)])])) [a, none, some (wdD rs), none, none, none, none, none, none, none] g = .ok (.ref g.length) (g ++ [.lst (rs.map fun _ => .bl false)]) := by
  have ln := len_wd (g := g) rs
  have ml := mul_false (g := g) rs hl
  have e1 : evE (gk W (k + 1)) (.op .len [(.var 2)]) [a, none, some (wdD rs), none, none, none, none, none, none, none] g = .ok (.int (rs.length : Int)) g := by
    simp [evE, evEs, ln]
  have e2 : ∀ (G : G) (b : Ex) (δ : Sl) (h : Hh), evE G (.box (.op .mul [(.op .lst [(.lit (.bl false))]), b])) δ h = ((evE G b δ h).bind fun y h => opApp G.sub .mul [.lst [.bl false], y] h).bind fun d h => boxR d h := fun G b δ h => by
    simp only [evE, evEs, s_okb, lst1]
    cases evE G b δ h <;> rfl
  rw [e2, e1, s_okb, gk_sub, ml]
  rfl
theorem comp_cells {G : G} {b : Ex} {Cc : Cd} (c : List Rw → C) (h : Hh) (cl : Cc.length ≤ 16777216) (hb : ∀ rs ∈ Cc, ∀ g, evE G b [some (cdD Cc), none, some (wdD rs), none, none, none, none, none, none, none] g = .ok (.ref g.length) (g ++ [c rs])) :
    evE G (.comp [2] (.name 2) (.seq (.var 0)) [] b) [some (cdD Cc), none, none, none, none, none, none, none, none, none] h = .ok (.lst ((List.range Cc.length).map fun i => .ref (h.length + i))) (h ++ Cc.map c) := by
  have e3 : ∀ (δ : Sl) (h : Hh), evE G (.comp [2] (.name 2) (.seq (.var 0)) [] b) δ h = (evI G (.seq (.var 0)) δ h).bind fun src h => (lpC src.gd (fun x h => match putT (.name 2) x (wipeS δ [2]) with
    | some δ' => (evTs G [] δ' h).bind fun k h => if k = true then (evE G b δ' h).bind fun y h => whenR (D.pers y) (.ok (some y) h) else .ok none h
    | none => .no) src.ds h).bind fun ys h => whenR (decide (ys.length ≤ cells)) (.ok (.lst ys) h) := fun δ h => by simp only [evE] <;> rfl
  rw [e3]
  have si : evI G (.seq (.var 0)) [some (cdD Cc), none, none, none, none, none, none, none, none, none] h = .ok ⟨Cc.map wdD, []⟩ h := by simp [evI, evE, cdD]
  rw [si]
  simp only [s_okb]
  have B := lpC_box (step := fun x h => match putT (.name 2) x (wipeS [some (cdD Cc), none, none, none, none, none, none, none, none, none] [2]) with
    | some δ' => (evTs G [] δ' h).bind fun k1 h => if k1 = true then (evE G b δ' h).bind fun y h => whenR (D.pers y) (.ok (some y) h) else .ok none h
    | none => .no) wdD c Cc h (fun rs hrs g => by
      simp only [g_name', wipe1, wipe0]
      rw [if_pos (show D.pers (wdD rs) = true from rfl)]
      simp only [List.set_cons_succ, List.set_cons_zero, evTs, s_okb, if_true]
      rw [hb rs hrs g]
      rfl)
  rw [B]
  simp [cl]
theorem law_ended_ok {W : Nat} (k : Nat) {C : Cd} (h : Hh) (wf : WF C) (h0 : 0 < C.length) (hn : rowsN C ≤ 1000000) : ∃ g n rs M, Grow h g ∧ h.length ≤ n ∧ MkA g n rs M ∧ LFP C M ∧ callF (Pr W) (k + 2) 16 [cdD C] h = .ok (.ref n) g := by
  obtain ⟨H, hH⟩ : ∃ H : Hh, H = h ++ C.map fun rs => .lst (rs.map fun _ => .bl false) := ⟨_, rfl⟩
  have lH : H.length = h.length + C.length := by rw [hH]; simp
  obtain ⟨H1, hH1⟩ : ∃ H1 : Hh, H1 = H ++ [.lst ((List.range C.length).map fun i => .ref (h.length + i))] := ⟨_, rfl⟩
  have gr : Grow h H1 := by rw [hH1, hH]; exact (Grow.app _).trans (Grow.app _)
  obtain ⟨rs, hrs⟩ : ∃ rs, rs = (List.range C.length).map fun i => h.length + i := ⟨_, rfl⟩
  have mk : MkA H1 H.length rs (botM C) := ⟨by rw [hH1, hrs]; simp [Function.comp_def], by rw [hrs]; simp [botM], fun w r m h1 h2 => by
    have hw : w < C.length := by
      have := (List.getElem?_eq_some_iff.mp h2).1
      simpa [botM] using this
    rw [hrs, List.getElem?_map, List.getElem?_range hw] at h1
    have h1 : h.length + w = r := by simpa using h1
    subst h1
    refine (by rw [hH1]; exact Grow.app _ : Grow H H1).at ?_
    rw [hH, List.getElem?_append_right (by omega), List.getElem?_map]
    unfold botM at h2
    rw [List.getElem?_map] at h2
    simp only [Nat.add_sub_cancel_left]
    cases q : C[w]? with
    | none => rw [q] at h2; cases h2
    | some rs =>
      rw [q] at h2
      cases h2
      simp [Function.comp_def]⟩
  have rb : ∀ r ∈ rs, h.length ≤ r ∧ r < H.length := fun r hr => by
    rw [hrs] at hr
    obtain ⟨i, hi, rfl⟩ := List.mem_map.mp hr
    rw [List.mem_range] at hi
    omega
  have mn : MkN H1 H.length rs (botM C) := ⟨mk, by
    rw [hrs, List.nodup_iff_pairwise_ne, List.pairwise_map]
    exact (List.nodup_iff_pairwise_ne.mp List.nodup_range).imp fun {a b} q z => q (by omega), fun z => by have := rb _ z; omega⟩
  have xi : Inv C (botM C) := ⟨bot_sh C, (fun w i e => by rw [gt_bot] at e; cases e), (fun F _ w i e => by rw [gt_bot] at e; cases e)⟩
  have ll : offs (botM C) < (rangeL 0 (rangeN 0 (2 + (rowsN C : Int)) 1) 1).length := by
    rw [offs_bot, rangeN_one]
    simp [rangeL]
    omega
  obtain ⟨g2, M2, p1, p2, p3, p4, p5⟩ := laps_ok (W := W) k wf _ (botM C) H1 none rangeL_pers ll xi mn
  have l1 : H1.length = h.length + C.length + 1 := by rw [hH1]; simp [lH]
  refine ⟨g2, H.length, rs, M2, ⟨by rw [p2]; exact gr.len, fun i hi => by rw [p3 i (fun z => by have := rb i z; omega)]; exact gr.off i hi⟩, by omega, p1.a, p4, ?_⟩
  have cl : C.length ≤ 16777216 := by have := wf.few; omega
  have comp : evE (gk W (k + 1)) (.comp [2] (.name 2) (.seq (.var 0)) [] (.box (.op .mul [(.op .lst [(.lit (.bl false))]), (.op .len [(.var 2)])]))) [some (cdD C), none, none, none, none, none, none, none, none, none] h = .ok (.lst ((List.range C.length).map fun i => .ref (h.length + i))) H := by
    rw [hH]
    exact comp_cells (fun rs => .lst (rs.map fun _ => .bl false)) h cl fun rs hrs g => el_ok rs (wf.few2 rs hrs) (some (cdD C))
  have sm : evE (gk W (k + 1)) (.op .sum [(.comp [2] (.name 2) (.seq (.var 0)) [] (.op .len [(.var 2)]))]) [some (cdD C), some (.ref H.length), none, none, none, none, none, none, none, none] H1 = .ok (.int (rowsN C : Int)) H1 := by
    have cp : evE (gk W (k + 1)) (.comp [2] (.name 2) (.seq (.var 0)) [] (.op .len [(.var 2)])) [some (cdD C), some (.ref H.length), none, none, none, none, none, none, none, none] H1 = .ok (.lst (C.map fun rs => .int (rs.length : Int))) H1 := by
      simp [evE, evI, cdD]
      rw [lpC_map gd_nil wdD (fun rs => .int (rs.length : Int)) C]
      · simp [cl]
      · intro rs hrs
        have ln : opApp sub .len [wdD rs] H1 = .ok (.int (rs.length : Int)) H1 := by
          show opApp sub .len [.tup (rs.map rwD)] H1 = _
          rw [o_lenT, List.length_map]
        simp [evTs, evE, evEs, show D.pers (wdD rs) = true from rfl, ln]
    have e4 : ∀ (G : G) (b : Ex) (δ : Sl) (h : Hh), evE G (.op .sum [b]) δ h = (evE G b δ h).bind fun d h => opApp G.sub .sum [d] h := fun G b δ h => by
      simp only [evE, evEs]
      cases evE G b δ h <;> rfl
    rw [e4, cp]
    simp only [s_okb]
    rw [o_sumL (fun rs : List Rw => (rs.length : Int)) C, sum_rows]
  have body : _law_ended.body = [.asg (.name 1) (.box (.comp [2] (.name 2) (.seq (.var 0)) [] (.box (.op .mul [(.op .lst [(.lit (.bl false))]), (.op .len [(.var 2)])])))), .for (.name 3) (.rng [(.op .add [(.lit (.int 2)), (.op .sum [(.comp [2] (.name 2) (.seq (.var 0)) [] (.op .len [(.var 2)]))])])]) _law_ended_l3 [3, 4, 5, 6, 7, 8, 9], .ret (.var 1)] := rfl
  have s1 : evS (gk W (k + 1)) (.asg (.name 1) (.box (.comp [2] (.name 2) (.seq (.var 0)) [] (.box (.op .mul [(.op .lst [(.lit (.bl false))]), (.op .len [(.var 2)])]))))) [some (cdD C), none, none, none, none, none, none, none, none, none] h = .nx [some (cdD C), some (.ref H.length), none, none, none, none, none, none, none, none] H1 := by
    have e2 : ∀ (G : G) (b : Ex) (δ : Sl) (h : Hh), evS G (.asg (.name 1) (.box b)) δ h = ((evE G b δ h).bind fun d h => boxR d h).go δ fun x h => match putT (.name 1) x δ with
      | some δ' => .nx δ' h
      | none => .no := fun G b δ h => by simp only [evS, evE] <;> rfl
    rw [e2, comp]
    simp [hH1]
  have s2 : evS (gk W (k + 1)) (.for (.name 3) (.rng [(.op .add [(.lit (.int 2)), (.op .sum [(.comp [2] (.name 2) (.seq (.var 0)) [] (.op .len [(.var 2)]))])])]) _law_ended_l3 [3, 4, 5, 6, 7, 8, 9]) [some (cdD C), some (.ref H.length), none, none, none, none, none, none, none, none] H1 = .nx [some (cdD C), some (.ref H.length), none, none, none, none, none, none, none, none] g2 := by
    have es : ∀ (G : G) (t : Tg) (b : Ex) (bb : List Ivy.St) (ks : List Nat) (δ : Sl) (h : Hh), evS G (.for t (.rng [(.op .add [(.lit (.int 2)), b])]) bb ks) δ h = (((evE G b δ h).bind fun x h => opApp G.sub .add [.int 2, x] h).bind fun x h => match rngS [x] with
      | some s => .ok s h
      | none => .no).go δ fun s h => lpF s.gd t ks (evSs G bb) s.ds (wipeS δ ks) h := fun G t b bb ks δ h => by
      simp only [evS, evI, evE, evEs, s_okb]
      cases evE G b δ h with
      | err _ _ _ => rfl
      | no => rfl
      | ok a1 h1 =>
        simp only [s_okb]
        cases opApp G.sub .add [.int 2, a1] h1 <;> rfl
    rw [es, sm]
    simp only [s_okb, gk_sub, o_addI, rng1, s_go]
    rw [show wipeS [some (cdD C), some (.ref H.length), none, none, none, none, none, none, none, none] [3, 4, 5, 6, 7, 8, 9] = [some (cdD C), some (.ref H.length), none, none, none, none, none, none, none, none] from by simp [wipeS]]
    exact p5
  have s3 : evSs (gk W (k + 1)) _law_ended.body [some (cdD C), none, none, none, none, none, none, none, none, none] h = .ret (.ref H.length) g2 := by
    rw [body, evSs_cons s1, evSs_cons s2]
    simp [evSs, evS, evE]
  have fin : finish h (.ref H.length) g2 = .ok (.ref H.length) g2 := by
    have el : lift h.length g2 (.ref H.length) = .lst (rs.map .ref) := by
      unfold lift
      simp only
      rw [if_pos (by omega), p1.a.top]
    have lw : D.low h.length (.lst (rs.map .ref)) = false := by
      have hr : 0 < rs.length := by rw [p1.a.len, p4.sh.len]; exact h0
      cases rs with
      | nil => simp at hr
      | cons r rs' =>
        have := (rb r (List.mem_cons_self ..)).1
        simp [D.low, D.lowL]
        intro q
        omega
    unfold finish
    rw [if_neg (by rw [p2]; omega), el, lw]
    rfl
  rw [u16]
  refine (if_pos (show [cdD C].length = _law_ended.np from rfl)).trans ?_
  show endF h (evSs (gk W (k + 1)) _law_ended.body [some (cdD C), none, none, none, none, none, none, none, none, none] h) = _
  rw [s3]
  exact fin
end Lk09

namespace Lk09
open Ivy
/-! ### sorted lists -/
theorem insB_prm (x : Int) : ∀ l : List Int, (insB x l).Perm (x :: l)
  | [] => .refl _
  | y :: ys => by
    unfold insB
    split
    · exact .refl _
    · exact ((insB_prm x ys).cons y).trans (.swap ..)
theorem sortI_prm : ∀ l : List Int, (sortI l).Perm l
  | [] => .refl _
  | x :: xs => (insB_prm x _).trans ((sortI_prm xs).cons x)
theorem cl_nats {S : Nat → Nat → Prop} {s : Nat} {L : List Nat} (c : Cl S s L) : ∃ Ls, Cl S s Ls ∧ Ls.length = L.length ∧ intL Ls = sortI (intL L) ∧ intL Ls = sortI (intL Ls) := by
  obtain ⟨Ls, hLs⟩ : ∃ Ls, Ls = (sortI (intL L)).map Int.toNat := ⟨_, rfl⟩
  have pm := sortI_prm (intL L)
  have e : intL Ls = sortI (intL L) := by
    rw [hLs]
    unfold intL at *
    rw [List.map_map]
    conv => rhs; rw [← List.map_id (sortI (List.map (fun (i : Nat) => (i : Int)) L))]
    refine List.map_congr_left fun x hx => ?_
    obtain ⟨a, _, rfl⟩ := List.mem_map.mp (pm.mem_iff.mp hx)
    simp
  have pl : Ls.Perm L := by
    rw [hLs]
    refine (pm.map Int.toNat).trans ?_
    unfold intL
    rw [List.map_map]
    have : (Int.toNat ∘ fun (i : Nat) => (i : Int)) = id := by funext i; simp
    rw [this, List.map_id]
  refine ⟨Ls, ⟨pl.nodup_iff.mpr c.nd, fun x => (pl.mem_iff).trans (c.mem x)⟩, pl.length_eq, e, ?_⟩
  rw [e]
  exact (sortI_perm pm).symm
theorem srt_tup {Ls : List Nat} (h : intL Ls = sortI (intL Ls)) : D.tup (Ls.map nD) = srtL Ls := by
  unfold srtL
  rw [← h, intL_map]
/-! ### the law's search by a stack -/
def newL (L : List Nat) : List Nat → List Nat
  | [] => []
  | y :: ys => if y ∈ L then newL L ys else y :: newL (L ++ [y]) ys
theorem addL_new : ∀ (ys L : List Nat), addL L ys = L ++ newL L ys
  | [], L => by simp [addL, newL]
  | y :: ys, L => by
    unfold addL newL
    split
    · exact addL_new ys L
    · rw [addL_new ys]; simp
def dlm (C : Cd) (n w A : Nat) (lap r o : Option D) : Sl := [some (cdD C), some (.ref n), some (nD w), some (.ref A), some (.ref (A + 1)), lap, r, o]
theorem lmet_inner {W : Nat} (k : Nat) {C : Cd} {n w : Nat} {lap r : Option D} {h : Hh} : ∀ (ys L T : List Nat), L.length + ys.length ≤ 100000 → T.length + ys.length ≤ 100000 →
    lpF [] (.name 7) [7] (evSs (gk W k) _law_met_l1) (ys.map nD) (dlm C n w h.length lap r none) (h ++ [lstD L, lstD T]) = .nx (dlm C n w h.length lap r none) (h ++ [lstD (addL L ys), lstD (T ++ newL L ys)])
  | [], L, T, _, _ => by rw [List.map_nil, lpF_nil]; simp [dlm, addL, newL]
  | y :: ys, L, T, hl, ht => by
    rw [List.length_cons] at hl ht
    have at_ : (h ++ [lstD L, lstD T])[h.length]? = some (.lst ((intL L).map .int)) := by simp [lstD]
    have ni := o_notInL (s := sub) (i := (y : Int)) at_
    have ck := ck_at at_
    have ap := o_appendL (s := sub) (d := nD y) at_
    have ll : ∀ L : List Nat, (intL L).length = L.length := fun L => by simp [intL]
    simp [nD_pers, ll, show L.length < 16777216 by omega] at ap
    have at2 : (h ++ [lstD (L ++ [y]), lstD T])[h.length + 1]? = some (.lst ((intL T).map .int)) := by simp [lstD, List.getElem?_append_right]
    have ck2 := ck_at at2
    have ap2 := o_appendL (s := sub) (d := nD y) at2
    simp [nD_pers, ll, show T.length < 16777216 by omega] at ap2
    have e1 : lstD (L ++ [y]) = .lst ((intL L).map .int ++ [nD y]) := by simp [lstD, intL, nD]
    have e2 : lstD (T ++ [y]) = .lst ((intL T).map .int ++ [nD y]) := by simp [lstD, intL, nD]
    have body : evSs (gk W k) _law_met_l1 (dlm C n w h.length lap r (some (nD y))) (h ++ [lstD L, lstD T]) = .nx (dlm C n w h.length lap r (some (nD y))) (h ++ [lstD (if y ∈ L then L else L ++ [y]), lstD (if y ∈ L then T else T ++ [y])]) := by
      by_cases q : y ∈ L
      · rw [if_pos q, if_pos q]
        have : decide ((y : Int) ∈ intL L) = true := decide_eq_true (intL_mem.mpr q)
        rw [this] at ni
        simp [dlm, _law_met_l1, evSs, evS, evE, evEs, evT, nD, ni]
      · rw [if_neg q, if_neg q]
        have : decide ((y : Int) ∈ intL L) = false := decide_eq_false fun z => q (intL_mem.mp z)
        rw [this] at ni
        rw [e1] at ck2 ap2 ⊢
        rw [e2]
        simp [nD] at ap ap2 ck2 ⊢
        simp [dlm, _law_met_l1, evSs, evS, evE, evEs, evT, nD, ni, ck, ap, ck2, ap2]
    rw [List.map_cons, lpF_go (δ1 := dlm C n w h.length lap r (some (nD y))) (by simp [dlm, nD_pers]) body]
    have e3 : wipeS (dlm C n w h.length lap r (some (nD y))) [7] = dlm C n w h.length lap r none := by simp [dlm]
    rw [e3, lmet_inner k ys _ _ (by
      split
      · omega
      · rw [List.length_append, List.length_singleton]; omega) (by
      split
      · omega
      · rw [List.length_append, List.length_singleton]; omega)]
    rw [show addL L (y :: ys) = addL (if y ∈ L then L else L ++ [y]) ys from rfl, show newL L (y :: ys) = if y ∈ L then newL L ys else y :: newL (L ++ [y]) ys from rfl]
    by_cases q : y ∈ L
    · simp only [if_pos q]
    · simp only [if_neg q, List.append_assoc, List.singleton_append]
theorem new_out : ∀ (ys L : List Nat) (x : Nat), x ∈ newL L ys → x ∉ L
  | [], L, x, h => by cases h
  | y :: ys, L, x, h => by
    unfold newL at h
    split at h
    · exact new_out ys L x h
    · rename_i q
      rcases List.mem_cons.mp h with rfl | h
      · exact q
      · intro z
        exact new_out ys _ x h (List.mem_append_left _ z)
theorem new_nd : ∀ (ys L : List Nat), (newL L ys).Nodup
  | [], L => .nil
  | y :: ys, L => by
    unfold newL
    split
    · exact new_nd ys L
    · refine List.nodup_cons.mpr ⟨fun z => new_out ys _ y z (by simp), new_nd ys _⟩
structure Stk (S : Nat → Nat → Prop) (s m : Nat) (L T : List Nat) : Prop where
  nd : L.Nodup
  hs : s ∈ L
  lt : ∀ x ∈ L, x < m
  rch : ∀ x ∈ L, Rch S s x
  tnd : T.Nodup
  tl : ∀ x ∈ T, x ∈ L
  done : ∀ x ∈ L, x ∉ T → ∀ y, S x y → y ∈ L
theorem Stk.step {S : Nat → Nat → Prop} {s m z : Nat} {L T ys : List Nat} (h : Stk S s m L (T ++ [z])) (hy : ∀ y, y ∈ ys ↔ S z y) (hm : ∀ y ∈ ys, y < m) : Stk S s m (addL L ys) (T ++ newL L ys) := by
  have zL := h.tl z (by simp)
  have nd := List.nodup_append.mp h.tnd
  refine ⟨addL_nd _ _ h.nd, (addL_mem ..).mpr (.inl h.hs), fun y hy2 => ?_, fun y hy2 => ?_, ?_, fun x hx => ?_, fun x hx nx y hS => ?_⟩
  · rcases (addL_mem ..).mp hy2 with q | q
    · exact h.lt y q
    · exact hm y q
  · rcases (addL_mem ..).mp hy2 with q | q
    · exact h.rch y q
    · exact (h.rch z zL).step ((hy y).mp q)
  · exact List.nodup_append.mpr ⟨nd.1, new_nd _ _, fun a ha b hb => by rintro rfl; exact new_out _ _ a hb (h.tl a (List.mem_append_left _ ha))⟩
  · rw [addL_new]
    rcases List.mem_append.mp hx with q | q
    · exact List.mem_append_left _ (h.tl x (List.mem_append_left _ q))
    · exact List.mem_append_right _ q
  · by_cases e : x = z
    · subst e
      exact (addL_mem ..).mpr (.inr ((hy y).mpr hS))
    · rw [addL_new] at hx
      rcases List.mem_append.mp hx with q | q
      · exact (addL_mem ..).mpr (.inl (h.done x q (fun z2 => by
          rcases List.mem_append.mp z2 with z2 | z2
          · exact nx (List.mem_append_left _ z2)
          · exact e (by simpa using z2)) y hS))
      · exact absurd (List.mem_append_right _ q) nx
theorem Stk.end {S : Nat → Nat → Prop} {s m : Nat} {L : List Nat} (h : Stk S s m L []) : Cl S s L := cl_of h.nd h.hs h.rch fun x hx y hS => h.done x hx (by simp) y hS
end Lk09

namespace Lk09
open Ivy
theorem o_popL {s : Nat → Nat → Bool} {h : Hh} {n : Nat} {xs : List D} {d : D} (e : h[n]? = some (.lst (xs ++ [d]))) : opApp s .pop [.ref n] h = .ok d (h.set n (.lst xs)) := by
  show (match h[n]? with
    | some (.lst xs) => (match xs[xs.length - 1]? with
      | some d => chg h n xs.dropLast d
      | none => .no)
    | _ => .no : R D) = _
  rw [e]
  simp [chg]
theorem lmet_loop {W : Nat} (k : Nat) {C : Cd} {M : Mk} {h : Hh} {n w : Nat} {rs : List Nat} {wr : List Rw} (wf : WF C) (sh : Sh C M) (x : MkA h n rs M) (hw : C[w]? = some wr) : ∀ (xs : List D) (L T : List Nat), (∀ y ∈ xs, D.pers y = true) → Stk (MetS C M w) 0 wr.length L T → xs.length + L.length = wr.length + 1 + T.length →
    ∃ L', Cl (MetS C M w) 0 L' ∧ L'.length ≤ wr.length ∧ lpF [] (.name 5) [5, 6, 7] (evSs (gk W (k + 1)) _law_met_l2) xs (dlm C n w h.length none none none) (h ++ [lstD L, lstD T]) = .nx (dlm C n w h.length none none none) (h ++ [lstD L', lstD []])
  | [], L, T, _, S, hl => by
    have := nodup_len S.nd S.lt
    simp at hl
    omega
  | y :: xs, L, T, hy, S, hl => by
    have py := hy y (List.mem_cons_self ..)
    have Ll := nodup_len S.nd S.lt
    rw [List.length_cons] at hl
    have w2 := wf.few2 wr (List.mem_of_getElem? hw)
    have at2 : ∀ T : List Nat, (h ++ [lstD L, lstD T])[h.length + 1]? = some (.lst ((intL T).map .int)) := fun T => by simp [lstD, List.getElem?_append_right]
    have ln := o_lenL (s := sub) (at2 T)
    have l2 : ((intL T).map D.int).length = T.length := by simp [intL]
    rw [l2] at ln
    rcases List.eq_nil_or_concat T with rfl | ⟨T0, z, rfl⟩
    · refine ⟨L, S.end, Ll, ?_⟩
      have body : evSs (gk W (k + 1)) _law_met_l2 (dlm C n w h.length (some y) none none) (h ++ [lstD L, lstD []]) = .brk (dlm C n w h.length (some y) none none) (h ++ [lstD L, lstD []]) := by
        simp [intL] at ln
        simp [dlm, _law_met_l2, evSs, evS, evE, evEs, evT, ln]
      rw [lpF_brk (δ1 := dlm C n w h.length (some y) none none) (by simp [dlm, py]) body]
      simp [dlm, wipeS]
    · rw [List.concat_eq_append] at *
      have zL := S.tl z (by simp)
      have zl := S.lt z zL
      obtain ⟨row, hr⟩ : ∃ row, wr[z]? = some row := ⟨_, List.getElem?_eq_getElem zl⟩
      have hwm := List.mem_of_getElem? hw
      have hrm := List.mem_of_getElem? hr
      rw [List.length_append, List.length_singleton] at hl ln
      have nz : decide (((T0.length + 1 : Nat) : Int) = 0) = false := decide_eq_false (by omega)
      have pp := o_popL (s := sub) (d := nD z) (xs := T0.map nD) (n := h.length + 1) (h := h ++ [lstD L, lstD (T0 ++ [z])]) (by rw [at2, intL_map]; simp)
      have hp : (h ++ [lstD L, lstD (T0 ++ [z])]).set (h.length + 1) (.lst (T0.map nD)) = h ++ [lstD L, lstD T0] := by
        have : lstD T0 = .lst (T0.map nD) := by unfold lstD; rw [intL_map]
        rw [this]
        simp
      rw [hp] at pp
      have ck := ck_at (at2 (T0 ++ [z]))
      have gw : Grow h (h ++ [lstD L, lstD T0]) := Grow.app _
      have i1 : opApp sub .idx [cdD C, .int (w : Int)] (h ++ [lstD L, lstD (T0 ++ [z])]) = .ok (wdD wr) (h ++ [lstD L, lstD (T0 ++ [z])]) := o_idxC hw
      have i2 : opApp sub .idx [wdD wr, .int (z : Int)] (h ++ [lstD L, lstD T0]) = .ok (rwD row) (h ++ [lstD L, lstD T0]) := o_idxW hr
      have pr := rwD_pers row
      have rowe := rowAt_eq hw hr
      -- what the turn leaves: the ways
      have Tl : T0.length ≤ 1000 := by
        have := nodup_len S.tnd fun x hx => S.lt x (S.tl x hx)
        rw [List.length_append, List.length_singleton] at this
        omega
      have step := S.step (ys := waysF M row) (fun y => by unfold MetS; rw [rowe]) (fun y hy => wf.nx wr hwm row hrm y (ways_sub hy))
      have wl : (waysF M row).length ≤ 1000 := by
        have := wf.wide wr hwm row hrm
        cases row with
        | call c j => simp only [waysF]; split <;> simp
        | _ => exact this
      have al : (addL L (waysF M row)).length = L.length + (newL L (waysF M row)).length := by rw [addL_new, List.length_append]
      obtain ⟨L', a1, a2, a3⟩ := lmet_loop k (W := W) wf sh x hw xs _ _ (fun z hz => hy z (List.mem_cons_of_mem _ hz)) step (by rw [al, List.length_append]; omega)
      refine ⟨L', a1, a2, ?_⟩
      have fin : ∀ (r o : Option D), wipeS (dlm C n w h.length (some y) r o) [5, 6, 7] = dlm C n w h.length none none none := fun r o => by simp [dlm, wipeS]
      have pre : evSs (gk W (k + 1)) [.ite (.ex (.op .eq [(.op .len [(.var 4)]), (.lit (.int 0))])) [.brk] [], .asg (.name 6) (.op .idx [(.op .idx [(.var 0), (.var 2)]), (.op .pop [(.ck 1 (.var 4))])])] (dlm C n w h.length (some y) none none) (h ++ [lstD L, lstD (T0 ++ [z])]) = .nx (dlm C n w h.length (some y) (some (rwD row)) none) (h ++ [lstD L, lstD T0]) := by
        simp [nD] at pp
        simp at nz ln
        simp [dlm, evSs, evS, evE, evEs, evT, ln, nz, nD, i1, ck, pp, i2, pr]
      have e0 := law_nexts_ok (w := W) k row (h ++ [lstD L, lstD T0])
      have body0 : _law_met_l2 = [.ite (.ex (.op .eq [(.op .len [(.var 4)]), (.lit (.int 0))])) [.brk] [], .asg (.name 6) (.op .idx [(.op .idx [(.var 0), (.var 2)]), (.op .pop [(.ck 1 (.var 4))])])] ++ [.ite (.and (.ex (.op .eq [(.op .idx [(.var 6), (.lit (.int 0))]), (.lit (.str [99, 97, 108, 108]))])) (.not (.ex (.op .idx [(.op .idx [(.var 1), (.op .idx [(.var 6), (.lit (.int 1))])]), (.lit (.int 0))])))) [.cont] [], .for (.name 7) (.seq (.call 15 [(.var 6)] [])) _law_met_l1 [7]] := rfl
      -- the last two statements
      have rest : (evSs (gk W (k + 1)) [.ite (.and (.ex (.op .eq [(.op .idx [(.var 6), (.lit (.int 0))]), (.lit (.str [99, 97, 108, 108]))])) (.not (.ex (.op .idx [(.op .idx [(.var 1), (.op .idx [(.var 6), (.lit (.int 1))])]), (.lit (.int 0))])))) [.cont] [], .for (.name 7) (.seq (.call 15 [(.var 6)] [])) _law_met_l1 [7]] (dlm C n w h.length (some y) (some (rwD row)) none) (h ++ [lstD L, lstD T0]) = .nx (dlm C n w h.length (some y) (some (rwD row)) none) (h ++ [lstD (addL L (waysF M row)), lstD (T0 ++ newL L (waysF M row))])) ∨
          (evSs (gk W (k + 1)) [.ite (.and (.ex (.op .eq [(.op .idx [(.var 6), (.lit (.int 0))]), (.lit (.str [99, 97, 108, 108]))])) (.not (.ex (.op .idx [(.op .idx [(.var 1), (.op .idx [(.var 6), (.lit (.int 1))])]), (.lit (.int 0))])))) [.cont] [], .for (.name 7) (.seq (.call 15 [(.var 6)] [])) _law_met_l1 [7]] (dlm C n w h.length (some y) (some (rwD row)) none) (h ++ [lstD L, lstD T0]) = .cont (dlm C n w h.length (some y) (some (rwD row)) none) (h ++ [lstD (addL L (waysF M row)), lstD (T0 ++ newL L (waysF M row))])) := by
        have inn := lmet_inner (W := W) (k + 1) (C := C) (n := n) (w := w) (lap := some y) (r := some (rwD row)) (h := h) row.nx L T0 (by have := wf.wide wr hwm row hrm; omega) (by have := wf.wide wr hwm row hrm; omega)
        have dl : ∀ r o : Option D, dlm C n w h.length (some y) r o = [some (cdD C), some (.ref n), some (nD w), some (.ref h.length), some (.ref (h.length + 1)), some y, r, o] := fun _ _ => rfl
        cases row with
        | call c j =>
          obtain ⟨r1, j1, j2⟩ := idx0 (s := sub) wf sh (x.grow gw) (wf.call wr hwm _ hrm c j rfl)
          cases q : gt M c 0 with
          | false =>
            rw [q] at j2
            refine .inr ?_
            have wv : waysF M (.call c j) = [] := by simp [waysF, q]
            rw [wv]
            simp [dl, evSs, evS, evE, evEs, evT, rwD, sCall, nD, j1, j2, addL, newL]
          | true =>
            rw [q] at j2
            refine .inl ?_
            have wv : waysF M (.call c j) = [j] := by simp [waysF, q]
            rw [wv]
            simp only [Rw.nx] at inn e0
            rw [dl] at inn ⊢
            simp [rwD, sCall, nD] at inn e0 ⊢
            simp [evSs, evS, evE, evEs, evT, evI, j1, j2, e0, inn]
        | ret =>
          refine .inl ?_
          have wv : waysF M .ret = [] := rfl
          rw [wv]
          simp only [Rw.nx] at inn e0
          rw [dl] at inn ⊢
          simp [rwD, sRet, nD] at inn e0 ⊢
          simp [evSs, evS, evE, evEs, evT, evI, e0, inn]
        | deed d j =>
          refine .inl ?_
          have wv : waysF M (.deed d j) = [j] := rfl
          rw [wv]
          simp only [Rw.nx] at inn e0
          rw [dl] at inn ⊢
          simp [rwD, sDeed, nD] at inn e0 ⊢
          simp [evSs, evS, evE, evEs, evT, evI, e0, inn]
        | cho ns =>
          refine .inl ?_
          have wv : waysF M (.cho ns) = ns := rfl
          rw [wv]
          simp only [Rw.nx] at inn e0
          rw [dl] at inn ⊢
          simp [rwD, sCho] at inn e0 ⊢
          simp [evSs, evS, evE, evEs, evT, evI, e0, inn]
      rcases rest with rest | rest
      · rw [lpF_go (δ1 := dlm C n w h.length (some y) none none) (by simp [dlm, py]) (by rw [body0, evSs_app pre]; exact rest), fin]
        exact a3
      · rw [lpG_cont gd_nil (δ1 := dlm C n w h.length (some y) none none) (by simp [dlm, py]) (by rw [body0, evSs_app pre]; exact rest), fin]
        exact a3
theorem law_met_ok {W : Nat} (k : Nat) {C : Cd} {M : Mk} {h : Hh} {n w : Nat} {rs : List Nat} {wr : List Rw} (wf : WF C) (sh : Sh C M) (x : MkA h n rs M) (hw : C[w]? = some wr) :
    ∃ L, Cl (MetS C M w) 0 L ∧ L.length ≤ wr.length ∧ intL L = sortI (intL L) ∧ callF (Pr W) (k + 2) 17 [cdD C, .ref n, nD w] h = .ok (.lst (L.map nD)) h := by
  have hwm := List.mem_of_getElem? hw
  have w2 := wf.few2 wr hwm
  obtain ⟨L', a1, a2, a3⟩ := lmet_loop (W := W) k wf sh x hw (rangeL 0 (rangeN 0 ((wr.length : Int) + 1) 1) 1) [0] [0] rangeL_pers ⟨by simp, by simp, fun x hx => by simp at hx; subst hx; exact wf.pos wr hwm, fun x hx => by simp at hx; subst hx; exact .base, by simp, fun x hx => hx, fun x hx nx => absurd hx nx⟩ (by rw [rangeN_one]; simp [rangeL])
  obtain ⟨Ls, c1, c2, c3, c4⟩ := cl_nats a1
  refine ⟨Ls, c1, by omega, c4, ?_⟩
  have i1 : ∀ g, opApp sub .idx [cdD C, nD w] g = .ok (wdD wr) g := fun g => o_idxC hw
  have ln : ∀ g, opApp sub .len [wdD wr] g = .ok (.int (wr.length : Int)) g := fun g => len_wd wr
  have at1 : (h ++ [lstD L', lstD []])[h.length]? = some (.lst (L'.map nD)) := by simp [lstD, intL_map]
  have st : opApp sub .sorted [.ref h.length] (h ++ [lstD L', lstD []]) = .ok (.lst (Ls.map nD)) (h ++ [lstD L', lstD []]) := by
    have : opApp sub .sorted [.ref h.length] (h ++ [lstD L', lstD []]) = opApp sub .sorted [.lst (L'.map nD)] (h ++ [lstD L', lstD []]) := by
      show (match lsD (h ++ [lstD L', lstD []]) (.ref h.length) with
        | some xs => (match intsL xs with
          | some ns => whenR (decide (ns.length ≤ cells)) (.ok (.lst ((sortI ns).map .int)) (h ++ [lstD L', lstD []]))
          | none => .no)
        | none => .no : R D) = _
      simp only [lsD, at1]
      rfl
    rw [this, o_sortN (by omega), ← c3, intL_map]
  have fin : finish h (.lst (Ls.map nD)) (h ++ [lstD L', lstD []]) = .ok (.lst (Ls.map nD)) h := fin_grow (Grow.app _) (by simp only [D.low]; exact low_map _ (fun i => by simp [nD, D.low]) _) rfl
  rw [u17]
  unfold dlm at a3
  have z0 : lstD [0] = .lst [.int 0] := by simp [lstD, intL]
  rw [z0] at a3
  simp [runF, _law_met, startS, evSs, evS, evE, evEs, evI, i1, ln, rng1, wipeS, cdD_pers]
  rw [a3]
  simp [st, endF]
  exact fin
end Lk09

namespace Lk09
open Ivy
/-! ### the law's own needed words -/
def dln (C : Cd) (n : Nat) (v : Option D) (A : Nat) (p u i r : Option D) : Sl := [some (cdD C), some (.ref n), v, some (.ref A), p, u, i, r]
theorem lneed_inner {W : Nat} (k : Nat) {C : Cd} {M : Mk} {h : Hh} {n u : Nat} {v p : Option D} {rs : List Nat} {wr : List Rw} (wf : WF C) (sh : Sh C M) (x : MkA h n rs M) (hu : C[u]? = some wr) : ∀ (is L : List Nat), (∀ i ∈ is, i < wr.length) → L.length + is.length ≤ 100000 →
    lpF [] (.name 6) [6, 7] (evSs (gk W k) _law_needed_l1) (is.map nD) (dln C n v h.length p (some (nD u)) none none) (h ++ [lstD L]) = .nx (dln C n v h.length p (some (nD u)) none none) (h ++ [lstD (addL L (is.filterMap (callAt C M u)))])
  | [], L, _, _ => by rw [List.map_nil, lpF_nil]; simp [dln, addL]
  | i :: is, L, hi, hl => by
    rw [List.length_cons] at hl
    have il := hi i (List.mem_cons_self ..)
    obtain ⟨row, hr⟩ : ∃ row, wr[i]? = some row := ⟨_, List.getElem?_eq_getElem il⟩
    have ra := rowAt_eq hu hr
    have xg := x.grow (Grow.app [lstD L])
    have at_ : (h ++ [lstD L])[h.length]? = some (.lst ((intL L).map .int)) := by simp [lstD]
    have i1 : opApp sub .idx [cdD C, .int (u : Int)] (h ++ [lstD L]) = .ok (wdD wr) (h ++ [lstD L]) := o_idxC hu
    have i2 : opApp sub .idx [wdD wr, .int (i : Int)] (h ++ [lstD L]) = .ok (rwD row) (h ++ [lstD L]) := o_idxW hr
    obtain ⟨m, hm⟩ : ∃ m, M[u]? = some m := ⟨_, List.getElem?_eq_getElem (by rw [sh.len]; exact (List.getElem?_eq_some_iff.mp hu).1)⟩
    obtain ⟨r, hrr, er⟩ := xg.at_ hm
    have i3 : opApp sub .idx [.ref n, .int (u : Int)] (h ++ [lstD L]) = .ok (.ref r) (h ++ [lstD L]) := o_idxM xg hrr
    have i4 : opApp sub .idx [.ref r, .int (i : Int)] (h ++ [lstD L]) = .ok (.bl (gt M u i)) (h ++ [lstD L]) := o_idxB hm er (by rw [sh.row u m wr hm hu]; exact il)
    obtain ⟨L2, hL2, b⟩ : ∃ L2, L2 = addL L ((callAt C M u i).toList) ∧ evSs (gk W k) _law_needed_l1 (dln C n v h.length p (some (nD u)) (some (nD i)) none) (h ++ [lstD L]) = .nx (dln C n v h.length p (some (nD u)) (some (nD i)) (some (rwD row))) (h ++ [lstD L2]) := by
      cases q : gt M u i with
      | false =>
        rw [q] at i4
        have cn : callAt C M u i = none := by
          unfold callAt
          rw [q]
          cases rowAt C u i <;> rfl
        rw [cn]
        refine ⟨L, by simp [addL], ?_⟩
        simp [dln, _law_needed_l1, evSs, evS, evE, evEs, evT, nD, i1, i2, i3, i4, rwD_pers]
      | true =>
        rw [q] at i4
        cases row with
        | call c j =>
          have j0 : opApp sub .idx [rwD (.call c j), .int 0] (h ++ [lstD L]) = .ok (.str sCall) (h ++ [lstD L]) := by simp [rwD]
          have j1 : opApp sub .idx [rwD (.call c j), .int 1] (h ++ [lstD L]) = .ok (.int (c : Int)) (h ++ [lstD L]) := by simp [rwD, nD]
          have pr := rwD_pers (.call c j)
          have ni := o_notInL (s := sub) (i := (c : Int)) at_
          have ck := ck_at at_
          have ap := o_appendL (s := sub) (d := nD c) at_
          have ll : (intL L).length = L.length := by simp [intL]
          simp [nD_pers, ll, show L.length < 16777216 by omega] at ap
          have cs : callAt C M u i = some c := by
            unfold callAt
            rw [ra]
            simp [q]
          rw [cs]
          simp [sCall] at j0
          by_cases qc : c ∈ L
          · have : decide ((c : Int) ∈ intL L) = true := decide_eq_true (intL_mem.mpr qc)
            rw [this] at ni
            refine ⟨L, by simp [addL, qc], ?_⟩
            simp [dln, _law_needed_l1, evSs, evS, evE, evEs, evT, nD, i1, i2, i3, i4, pr, j0, j1, ni]
          · have : decide ((c : Int) ∈ intL L) = false := decide_eq_false fun z => qc (intL_mem.mp z)
            rw [this] at ni
            refine ⟨L ++ [c], by simp [addL, qc], ?_⟩
            have e : lstD (L ++ [c]) = .lst ((intL L).map .int ++ [nD c]) := by simp [lstD, intL, nD]
            rw [e]
            simp [nD] at ap ⊢
            simp [dln, _law_needed_l1, evSs, evS, evE, evEs, evT, nD, i1, i2, i3, i4, pr, j0, j1, ni, ck, ap]
        | ret =>
          have cn : callAt C M u i = none := by unfold callAt; rw [ra]
          rw [cn]
          refine ⟨L, by simp [addL], ?_⟩
          simp [dln, _law_needed_l1, evSs, evS, evE, evEs, evT, nD, i1, i2, i3, i4, rwD, sRet]
        | deed d j =>
          have cn : callAt C M u i = none := by unfold callAt; rw [ra]
          rw [cn]
          refine ⟨L, by simp [addL], ?_⟩
          simp [dln, _law_needed_l1, evSs, evS, evE, evEs, evT, nD, i1, i2, i3, i4, rwD, sDeed]
        | cho ns =>
          have cn : callAt C M u i = none := by unfold callAt; rw [ra]
          rw [cn]
          refine ⟨L, by simp [addL], ?_⟩
          simp [dln, _law_needed_l1, evSs, evS, evE, evEs, evT, nD, i1, i2, i3, i4, rwD, sCho]
    have l2 : L2.length ≤ L.length + 1 := by
      rw [hL2]
      cases callAt C M u i with
      | none => simp [addL]
      | some c => simp only [Option.toList, addL]; split <;> simp
    rw [List.map_cons, lpF_go (δ1 := dln C n v h.length p (some (nD u)) (some (nD i)) none) (by simp [dln, nD_pers]) b]
    have e1 : wipeS (dln C n v h.length p (some (nD u)) (some (nD i)) (some (rwD row))) [6, 7] = dln C n v h.length p (some (nD u)) none none := by simp [dln]
    rw [e1, lneed_inner k wf sh x hu is L2 (fun j hj => hi j (List.mem_cons_of_mem _ hj)) (by omega)]
    have e2 : addL L2 (is.filterMap (callAt C M u)) = addL L ((i :: is).filterMap (callAt C M u)) := by
      rw [hL2, List.filterMap_cons]
      cases callAt C M u i with
      | none => simp [addL]
      | some c => simp [addL]
    rw [e2]
theorem met_lt {C : Cd} {M : Mk} {u i : Nat} {wr : List Rw} (wf : WF C) (hu : C[u]? = some wr) (r : Rch (MetS C M u) 0 i) : i < wr.length := by
  induction r with
  | base => exact wf.pos wr (List.mem_of_getElem? hu)
  | step r q ih =>
    rename_i a b
    obtain ⟨row, hr⟩ : ∃ row, wr[a]? = some row := ⟨_, List.getElem?_eq_getElem ih⟩
    unfold MetS at q
    rw [rowAt_eq hu hr] at q
    exact wf.nx wr (List.mem_of_getElem? hu) row (List.mem_of_getElem? hr) b (ways_sub q)
theorem lneed_loop {W : Nat} (k : Nat) {C : Cd} {M : Mk} {h : Hh} {n s : Nat} {v : Option D} {rs : List Nat} (wf : WF C) (sh : Sh C M) (x : MkA h n rs M) : ∀ (d p : Nat) (L : List Nat), p + d = C.length → Srch (NeedS C M) s C.length L p →
    ∃ L', Cl (NeedS C M) s L' ∧ lpF [] (.name 4) [4, 5, 6, 7] (evSs (gk W (k + 2)) _law_needed_l2) ((List.range' p d).map nD) (dln C n v h.length none none none none) (h ++ [lstD L]) = .nx (dln C n v h.length none none none none) (h ++ [lstD L'])
  | 0, p, L, hd, S => ⟨L, S.end (by have := S.len; omega), by rw [List.range'_zero, List.map_nil, lpF_nil]; simp [dln, wipeS]⟩
  | d + 1, p, L, hd, S => by
    have at_ : (h ++ [lstD L])[h.length]? = some (.lst ((intL L).map .int)) := by simp [lstD]
    have ln := o_lenL (s := sub) at_
    have ll : ((intL L).map D.int).length = L.length := by simp [intL]
    rw [ll] at ln
    have few := wf.few
    have Sl := S.len
    by_cases e : L.length ≤ p
    · refine ⟨L, S.end e, ?_⟩
      have body : evSs (gk W (k + 2)) _law_needed_l2 (dln C n v h.length (some (nD p)) none none none) (h ++ [lstD L]) = .brk (dln C n v h.length (some (nD p)) none none none) (h ++ [lstD L]) := by
        simp [dln, _law_needed_l2, evSs, evS, evE, evEs, evT, nD, ln, e]
      rw [List.range'_succ, List.map_cons, lpF_brk (δ1 := dln C n v h.length (some (nD p)) none none none) (by simp [dln, nD_pers]) body]
      simp [dln, wipeS]
    · obtain ⟨u, hz⟩ : ∃ z, L[p]? = some z := ⟨_, List.getElem?_eq_getElem (by omega)⟩
      have ul := S.lt u (List.mem_of_getElem? hz)
      obtain ⟨wr, hu⟩ : ∃ wr, C[u]? = some wr := ⟨_, List.getElem?_eq_getElem ul⟩
      have w2 := wf.few2 wr (List.mem_of_getElem? hu)
      obtain ⟨Lm, c1, c2, _, e2⟩ := law_met_ok (W := W) k wf sh (x.grow (Grow.app [lstD L])) hu
      have ix : opApp sub .idx [.ref h.length, nD p] (h ++ [lstD L]) = .ok (nD u) (h ++ [lstD L]) := by
        rw [show nD p = .int (p : Int) from rfl, o_idxL at_, intL_map, atP_map hz]
      have lt : ∀ i ∈ Lm, i < wr.length := fun i hi => met_lt wf hu ((c1.mem i).mp hi)
      have inn := lneed_inner (W := W) (k + 2) (v := v) (p := some (nD p)) wf sh x hu Lm L lt (by omega)
      have S2 := S.step (ys := Lm.filterMap (callAt C M u)) hz (fun y => by
        rw [mem_calls]
        unfold NeedS
        constructor
        · rintro ⟨i, h1, h2⟩
          exact ⟨i, (c1.mem i).mp h1, h2⟩
        · rintro ⟨i, h1, h2⟩
          exact ⟨i, (c1.mem i).mpr h1, h2⟩) (fun y hy => by
        obtain ⟨i, _, h2⟩ := mem_calls.mp hy
        exact call_lt wf h2)
      obtain ⟨L', a1, a3⟩ := lneed_loop k (W := W) (v := v) wf sh x d (p + 1) _ (by omega) S2
      refine ⟨L', a1, ?_⟩
      have ge : ¬ L.length ≤ p := e
      have body : evSs (gk W (k + 2)) _law_needed_l2 (dln C n v h.length (some (nD p)) none none none) (h ++ [lstD L]) = .nx (dln C n v h.length (some (nD p)) (some (nD u)) none none) (h ++ [lstD (addL L (Lm.filterMap (callAt C M u)))]) := by
        have dl : ∀ u, dln C n v h.length (some (nD p)) u none none = [some (cdD C), some (.ref n), v, some (.ref h.length), some (nD p), u, none, none] := fun _ => rfl
        rw [dl] at inn ⊢
        rw [dl]
        have ge2 : decide ((L.length : Int) ≤ (p : Int)) = false := decide_eq_false (by omega)
        have gx : opApp sub .ge [nD p, .int (L.length : Int)] (h ++ [lstD L]) = .ok (.bl false) (h ++ [lstD L]) := by
          show (.ok (.bl (decide ((L.length : Int) ≤ (p : Int)))) (h ++ [lstD L]) : R D) = _
          rw [ge2]
        simp [_law_needed_l2, evSs, evS, evE, evEs, evT, evI, ln, gx, ix, cdD_pers, cdD_box, nD_pers, nD_box, e2, inn, wipeS]
      rw [List.range'_succ, List.map_cons, lpF_go (δ1 := dln C n v h.length (some (nD p)) none none none) (by simp [dln, nD_pers]) body]
      rw [show wipeS (dln C n v h.length (some (nD p)) (some (nD u)) none none) [4, 5, 6, 7] = dln C n v h.length none none none none from by simp [dln, wipeS]]
      exact a3
theorem law_needed_ok {W : Nat} (k : Nat) {C : Cd} {M : Mk} {h : Hh} {n w : Nat} {rs : List Nat} (wf : WF C) (sh : Sh C M) (x : MkA h n rs M) (hw : w < C.length) :
    ∃ L, Cl (NeedS C M) w L ∧ L.length ≤ C.length ∧ intL L = sortI (intL L) ∧ callF (Pr W) (k + 3) 18 [cdD C, .ref n, nD w] h = .ok (.lst (L.map nD)) h := by
  have few := wf.few
  obtain ⟨L', a1, a3⟩ := lneed_loop (W := W) k (s := w) (v := some (nD w)) wf sh x C.length 0 [w] (by omega) ⟨by simp, by simp, fun x hx => by simp at hx; subst hx; exact hw, fun x hx => by simp at hx; subst hx; exact .base, fun i _ hi => by omega⟩
  have l2 : L'.length ≤ C.length := nodup_len a1.nd fun y hy => by
    have r := (a1.mem y).mp hy
    cases r with
    | base => exact hw
    | step _ q => obtain ⟨i, _, h2⟩ := q; exact call_lt wf h2
  obtain ⟨Ls, c1, c2, c3, c4⟩ := cl_nats a1
  refine ⟨Ls, c1, by omega, c4, ?_⟩
  have ln : ∀ g, opApp sub .len [cdD C] g = .ok (.int (C.length : Int)) g := fun g => by
    show opApp sub .len [.tup (C.map wdD)] g = _
    rw [o_lenT, List.length_map]
  have at1 : (h ++ [lstD L'])[h.length]? = some (.lst (L'.map nD)) := by simp [lstD, intL_map]
  have st : opApp sub .sorted [.ref h.length] (h ++ [lstD L']) = .ok (.lst (Ls.map nD)) (h ++ [lstD L']) := by
    have : opApp sub .sorted [.ref h.length] (h ++ [lstD L']) = opApp sub .sorted [.lst (L'.map nD)] (h ++ [lstD L']) := by
      show (match lsD (h ++ [lstD L']) (.ref h.length) with
        | some xs => (match intsL xs with
          | some ns => whenR (decide (ns.length ≤ cells)) (.ok (.lst ((sortI ns).map .int)) (h ++ [lstD L']))
          | none => .no)
        | none => .no : R D) = _
      simp only [lsD, at1]
      rfl
    rw [this, o_sortN (by omega), ← c3, intL_map]
  have fin : finish h (.lst (Ls.map nD)) (h ++ [lstD L']) = .ok (.lst (Ls.map nD)) h := fin_grow (Grow.app _) (by simp only [D.low]; exact low_map _ (fun i => by simp [nD, D.low]) _) rfl
  have rn : rngS [.int (C.length : Int)] = some ⟨(List.range' 0 C.length).map nD, []⟩ := by rw [rng1, range_nat, ← List.range_eq_range']; rfl
  rw [u18]
  unfold dln at a3
  have z0 : lstD [w] = .lst [nD w] := by simp [lstD, intL, nD]
  rw [z0] at a3
  simp [runF, _law_needed, startS, evSs, evS, evE, evEs, evI, ln, rn, wipeS, cdD_pers, nD_pers, nD_box]
  rw [a3]
  simp [st, endF]
  exact fin
end Lk09

namespace Lk09
open Ivy
/-! ### the same -/
theorem same_int {W : Nat} (n : Nat) (x : Int) (h : Hh) : callF (Pr W) (n + 1) 19 [.int x, .int x] h = .ok (.bl true) h := by
  rw [u19]
  simp [runF, _law_same, startS, evSs, evS, evE, evEs, evT, tyIs, isB]
theorem same_tup {W : Nat} (n : Nat) (ds : List D) (h : Hh) (hl : ds.length ≤ 100000) (hd : ∀ d ∈ ds, D.pers d = true ∧ (∀ g, boxR d g = .ok d g) ∧ ∀ g, callF (Pr W) n 19 [d, d] g = .ok (.bl true) g) : callF (Pr W) (n + 1) 19 [.tup ds, .tup ds] h = .ok (.bl true) h := by
  have rn : rngS [.int (ds.length : Int)] = some ⟨(List.range ds.length).map nD, []⟩ := by rw [rng1, range_nat]; rfl
  rw [u19]
  simp [runF, _law_same, startS, evSs, evS, evE, evEs, evT, evI, tyIs, isB, rn]
  rw [lpC_filter gd_nil nD nD (fun _ => false)]
  · have e : (List.range ds.length).filter (fun _ => false) = [] := by rw [List.filter_eq_nil_iff]; intro _ _ z; cases z
    rw [e]
    simp
  · intro i hi
    rw [List.mem_range] at hi
    obtain ⟨p, b, e⟩ := hd ds[i] (List.getElem_mem ..)
    have at_ : atP ds (i : Int) = some ds[i] := atP_nat hi
    simp [nD, evTs, evE, evEs, evT, at_, p, b, e]
theorem same_nats {W : Nat} (n : Nat) (L : List Nat) (h : Hh) (hl : L.length ≤ 100000) : callF (Pr W) (n + 2) 19 [.tup (L.map nD), .tup (L.map nD)] h = .ok (.bl true) h :=
  same_tup (n + 1) _ h (by simpa using hl) fun d hd => by
    obtain ⟨x, _, rfl⟩ := List.mem_map.mp hd
    exact ⟨rfl, fun _ => rfl, fun g => same_int n _ g⟩
theorem same_rows {W : Nat} (n : Nat) (M : Mk) (h : Hh) (hl : M.length ≤ 1000) (hm : ∀ m ∈ M, m.length ≤ 1000) : callF (Pr W) (n + 3) 19 [rowsD M, rowsD M] h = .ok (.bl true) h :=
  same_tup (n + 2) _ h (by simp; omega) fun d hd => by
    obtain ⟨m, hmm, rfl⟩ := List.mem_map.mp hd
    exact ⟨rfl, fun _ => rfl, fun g => same_nats n _ g (by have := ixT_len m; have := hm m hmm; omega)⟩
theorem same_two {W : Nat} (n : Nat) (a b : D) (h : Hh) (ha : D.pers a = true ∧ (∀ g, boxR a g = .ok a g) ∧ ∀ g, callF (Pr W) n 19 [a, a] g = .ok (.bl true) g) (hb : D.pers b = true ∧ (∀ g, boxR b g = .ok b g) ∧ ∀ g, callF (Pr W) n 19 [b, b] g = .ok (.bl true) g) :
    callF (Pr W) (n + 1) 19 [.tup [a, b], .tup [a, b]] h = .ok (.bl true) h :=
  same_tup n _ h (by simp) fun d hd => by
    simp at hd
    rcases hd with rfl | rfl
    · exact ha
    · exact hb
/-! ### asked -/
theorem ixT_gt {M : Mk} {w : Nat} {m : List Bool} (h : M[w]? = some m) : ixT m = (List.range m.length).filter fun i => gt M w i := by
  unfold ixT gt
  rw [h]
  rfl
theorem asked_rows {W : Nat} (k : Nat) {C : Cd} {g : Hh} {n : Nat} {rs : List Nat} {M : Mk} (wf : WF C) (lf : LFP C M) (mk : MkA g n rs M) (nm : Option D) :
    evE (gk W k) (.op .tuple [(.comp [5] (.name 5) (.seq (.var 2)) [] (.op .tuple [(.comp [4] (.name 4) (.rng [(.op .len [(.var 5)])]) [(.ex (.op .idx [(.var 5), (.var 4)]))] (.var 4))]))]) [some (cdD C), nm, some (.ref n), none, none, none, none, none, none] g = .ok (rowsD M) g := by
  have Ml : M.length ≤ 16777216 := by rw [lf.sh.len]; have := wf.few; omega
  have inner : ∀ (r : Nat) (m : List Bool), g[r]? = some (.lst (m.map .bl)) → m.length ≤ 1000 → evE (gk W k) (.comp [4] (.name 4) (.rng [(.op .len [(.var 5)])]) [(.ex (.op .idx [(.var 5), (.var 4)]))] (.var 4)) [some (cdD C), nm, some (.ref n), none, none, some (.ref r), none, none, none] g = .ok (.lst ((ixT m).map nD)) g := fun r m er hl => by
    have ln := o_lenL (s := sub) er
    have rn : rngS [.int (m.length : Int)] = some ⟨(List.range m.length).map nD, []⟩ := by rw [rng1, range_nat]; rfl
    rw [List.length_map] at ln
    simp [evE, evI, evEs, ln, rn]
    rw [lpC_filter gd_nil nD nD (fun i => (m[i]?).getD false)]
    · have : (ixT m).length ≤ 16777216 := by have := ixT_len m; omega
      unfold ixT at *
      simp [this]
    · intro i hi
      rw [List.mem_range] at hi
      have ix : opApp sub .idx [.ref r, .int (i : Int)] g = .ok (.bl ((m[i]?).getD false)) g := by
        have e : m[i]? = some ((m[i]?).getD false) := by rw [List.getElem?_eq_getElem hi]; rfl
        rw [o_idxL er, atP_map e]
      cases q : (m[i]?).getD false <;> rw [q] at ix <;> simp [nD, evTs, evE, evEs, evT, ix]
  have e4 : ∀ (G : G) (b : Ex) (δ : Sl) (h : Hh), evE G (.op .tuple [b]) δ h = (evE G b δ h).bind fun d h => opApp G.sub .tuple [d] h := fun G b δ h => by
    simp only [evE, evEs]
    cases evE G b δ h <;> rfl
  have e3 : ∀ (G : G) (b : Ex) (δ : Sl) (h : Hh), evE G (.comp [5] (.name 5) (.seq (.var 2)) [] b) δ h = (evI G (.seq (.var 2)) δ h).bind fun src h => (lpC src.gd (fun x h => match putT (.name 5) x (wipeS δ [5]) with
    | some δ' => (evTs G [] δ' h).bind fun k h => if k = true then (evE G b δ' h).bind fun y h => whenR (D.pers y) (.ok (some y) h) else .ok none h
    | none => .no) src.ds h).bind fun ys h => whenR (decide (ys.length ≤ cells)) (.ok (.lst ys) h) := fun G b δ h => by simp only [evE] <;> rfl
  have s1 : evI (gk W k) (.seq (.var 2)) [some (cdD C), nm, some (.ref n), none, none, none, none, none, none] g = .ok ⟨rs.map .ref, [(n, .lst (rs.map .ref))]⟩ g := by
    simp [evI, evE, evEs, srcD_at mk.top]
  rw [e4, e3, s1]
  simp only [s_okb]
  rw [zip_fst mk.len, lpC_map (by rw [← zip_fst mk.len]; exact gd_one mk.top) _ (fun p => .tup ((ixT p.2).map nD))]
  · rw [zip_snd mk.len fun m => D.tup ((ixT m).map nD)]
    simp [Ml, rowsD]
  · intro p hp
    obtain ⟨q1, q2⟩ := mk.pair hp
    have i := inner p.1 p.2 q1 (lf.sh.short wf q2)
    simp only [g_name', wipe1, wipe0, p_ref, if_true, List.set_cons_succ, List.set_cons_zero, evTs, s_okb, e4, i, o_tupL, p_tup, s_wt]
theorem asked_lost {W : Nat} (k : Nat) {C : Cd} {g : Hh} {n : Nat} {rs : List Nat} {M : Mk} (wf : WF C) (lf : LFP C M) (mk : MkA g n rs M) (nm r3 : Option D) :
    evE (gk W k) (.op .tuple [(.comp [5] (.name 5) (.rng [(.op .len [(.var 0)])]) [(.not (.ex (.op .idx [(.op .idx [(.var 2), (.var 5)]), (.lit (.int 0))])))] (.var 5))]) [some (cdD C), nm, some (.ref n), r3, none, none, none, none, none] g = .ok (.tup ((lostL M).map nD)) g := by
  have ln : opApp sub .len [cdD C] g = .ok (.int (C.length : Int)) g := by
    show opApp sub .len [.tup (C.map wdD)] g = _
    rw [o_lenT, List.length_map]
  have rn : rngS [.int (C.length : Int)] = some ⟨(List.range C.length).map nD, []⟩ := by rw [rng1, range_nat]; rfl
  have few := wf.few
  have ll : (lostL M).length ≤ 16777216 := by
    unfold lostL
    have := List.length_filter_le (fun w => !gt M w 0) (List.range M.length)
    rw [List.length_range, lf.sh.len] at this
    rw [lf.sh.len]
    omega
  simp [evE, evI, evEs, ln, rn]
  rw [lpC_filter gd_nil nD nD (fun w => !gt M w 0), ← lf.sh.len]
  · unfold lostL at *
    simp [ll]
  · intro w hw
    rw [List.mem_range] at hw
    obtain ⟨r, i1, i2⟩ := idx0 (s := sub) wf lf.sh mk hw
    cases q : gt M w 0 <;> rw [q] at i2 <;> simp [nD, evTs, evE, evEs, evT, i1, i2]
end Lk09

namespace Lk09
open Ivy
theorem srtL_same {W : Nat} (n : Nat) (L : List Nat) (h : Hh) (hl : L.length ≤ 100000) : callF (Pr W) (n + 2) 19 [srtL L, srtL L] h = .ok (.bl true) h :=
  same_tup (n + 1) _ h (by
    have := (sortI_prm (intL L)).length_eq
    rw [List.length_map, this]
    simpa [intL] using hl) fun d hd => by
    obtain ⟨x, _, rfl⟩ := List.mem_map.mp hd
    exact ⟨rfl, fun _ => rfl, fun g => same_int n _ g⟩
theorem srtL_pers (L : List Nat) : D.pers (srtL L) = true := rfl
theorem srtL_box (L : List Nat) (h : Hh) : boxR (srtL L) h = .ok (srtL L) h := rfl
theorem rowsD_pers (M : Mk) : D.pers (rowsD M) = true := rfl
theorem rowsD_box (M : Mk) (h : Hh) : boxR (rowsD M) h = .ok (rowsD M) h := rfl
/-- bounds that all codes here keep -/
structure Big (W : Nat) (C : Cd) : Prop where
  wf : WF C
  pos : 0 < C.length
  rows : rowsN C ≤ 1000000
  w : 2000000 ≤ W
def das (C : Cd) (b : Bool) (n : Nat) (M : Mk) (w : Option D) (t : Option D) (A : Nat) : Sl := [some (cdD C), some (.bl b), some (.ref n), some (rowsD M), none, w, some (.tup ((lostL M).map nD)), t, some (.ref A)]
theorem asked_turn {W : Nat} (kk : Nat) {C : Cd} {g : Hh} {n w A : Nat} {rs : List Nat} {M : Mk} {b : Bool} {t : Option D} (B : Big W C) (lf : LFP C M) (mk : MkA g n rs M) (hw : w < C.length) :
    ∃ t2, evSs (gk W (kk + 5)) _law_asked_l1 (das C b n M (some (nD w)) t A) g = .nx (das C b n M (some (nD w)) (some t2) A) g := by
  obtain ⟨wr, hwr⟩ : ∃ wr, C[w]? = some wr := ⟨_, List.getElem?_eq_getElem hw⟩
  have wf := B.wf
  have hW := B.w
  have hr := B.rows
  have few := wf.few
  have w2 := wf.few2 wr (List.mem_of_getElem? hwr)
  obtain ⟨M1, L1, lf1, c1, e1⟩ := met_rows_ok (W := W) (kk + 1) g wf hwr (by omega) (by omega)
  obtain ⟨M2, L2, lf2, c2, e2⟩ := needed_words_ok (W := W) kk g wf hw (by omega) (by omega)
  obtain ⟨L3, c3, l3, s3, e3⟩ := law_met_ok (W := W) (kk + 3) wf lf.sh mk hwr
  obtain ⟨L4, c4, l4, s4, e4⟩ := law_needed_ok (W := W) (kk + 2) wf lf.sh mk hw
  have q1 := lfp_uniq lf1 lf
  have q2 := lfp_uniq lf2 lf
  subst q1
  subst q2
  have t3 : D.tup (L3.map nD) = srtL L1 := by rw [srt_tup s3, cl_sort c3 c1]
  have t4 : D.tup (L4.map nD) = srtL L2 := by rw [srt_tup s4, cl_sort c4 c2]
  have n1 : L1.length ≤ 1000 := Nat.le_trans (nodup_len c1.nd fun y hy => met_lt wf hwr ((c1.mem y).mp hy)) w2
  have n2 : L2.length ≤ 1000 := by
    have : L2.length ≤ C.length := nodup_len c2.nd fun y hy => by
      have r := (c2.mem y).mp hy
      cases r with
      | base => exact hw
      | step _ q => obtain ⟨i, _, h2⟩ := q; exact call_lt wf h2
    omega
  have sm := same_two (W := W) (kk + 4) (srtL L1) (srtL L2) g ⟨rfl, fun _ => rfl, fun g => srtL_same (kk + 2) L1 g (by omega)⟩ ⟨rfl, fun _ => rfl, fun g => srtL_same (kk + 2) L2 g (by omega)⟩
  refine ⟨.tup [srtL L1, srtL L2], ?_⟩
  cases b <;> simp [das, _law_asked_l1, evSs, evS, evE, evEs, evT, cdD_pers, cdD_box, nD_pers, nD_box, srtL_pers, srtL_box, e1, e2, e3, e4, t3, t4, sm, pick]
theorem asked_loop {W : Nat} (kk : Nat) {C : Cd} {g : Hh} {n A : Nat} {rs : List Nat} {M : Mk} {b : Bool} {gd : List (Nat × Ivy.C)} (B : Big W C) (lf : LFP C M) (mk : MkA g n rs M) (hg : gdOk g gd = true) : ∀ (ws : List Nat) (t : Option D), (∀ w ∈ ws, w < C.length) →
    ∃ t2, lpF gd (.name 5) [5, 7] (evSs (gk W (kk + 5)) _law_asked_l1) (ws.map nD) (das C b n M none t A) g = .nx (das C b n M none t2 A) g
  | [], t, _ => ⟨none, by rw [List.map_nil, lpG_nil hg]; simp [das, wipeS]⟩
  | w :: ws, t, hw => by
    obtain ⟨t2, e⟩ := asked_turn (W := W) kk (b := b) (t := t) (A := A) B lf mk (hw w (List.mem_cons_self ..))
    obtain ⟨t3, e3⟩ := asked_loop kk (W := W) (b := b) (A := A) B lf mk hg ws none fun v hv => hw v (List.mem_cons_of_mem _ hv)
    refine ⟨t3, ?_⟩
    rw [List.map_cons, lpG_go hg (δ1 := das C b n M (some (nD w)) t A) (by simp [das, nD_pers]) e]
    rw [show wipeS (das C b n M (some (nD w)) (some t2) A) [5, 7] = das C b n M none none A from by simp [das, wipeS]]
    exact e3
theorem asg_ok {G : G} {i : Nat} {e : Ex} {δ : Sl} {h h' : Hh} {d : D} (he : evE G e δ h = .ok d h') (hp : D.pers d = true) : evS G (.asg (.name i) e) δ h = .nx (δ.set i (some d)) h' := by
  simp only [evS, he, s_go, g_name', hp, if_true]
theorem asked_ok {W : Nat} (kk : Nat) {C : Cd} (h : Hh) (b : Bool) (B : Big W C) : callF (Pr W) (kk + 6) 20 [cdD C, .bl b] h = .ok (.bl true) h := by
  have wf := B.wf
  have hW := B.w
  have hr := B.rows
  have few := wf.few
  obtain ⟨g, n, rs, M, gr, hn, mk, lf, e16⟩ := law_ended_ok (W := W) (kk + 3) h wf B.pos hr
  have ar := asked_rows (W := W) (kk + 5) wf lf mk (some (.bl b))
  have al := asked_lost (W := W) (kk + 5) wf lf mk (some (.bl b)) (some (rowsD M))
  obtain ⟨M3, lf3, e3⟩ := ended_rows_ok (W := W) (kk + 1) g wf B.pos (by omega)
  obtain ⟨M4, lf4, e4⟩ := lost_ok (W := W) (kk + 1) g wf B.pos (by omega)
  have q3 := lfp_uniq lf3 lf
  have q4 := lfp_uniq lf4 lf
  subst q3
  subst q4
  have Ml : M4.length ≤ 1000 := by rw [lf.sh.len]; exact few
  have ll : (lostL M4).length ≤ 100000 := by
    unfold lostL
    have := List.length_filter_le (fun w => !gt M4 w 0) (List.range M4.length)
    rw [List.length_range] at this
    omega
  have sm := same_two (W := W) (kk + 4) (rowsD M4) (.tup ((lostL M4).map nD)) g ⟨rfl, fun _ => rfl, fun g => same_rows (kk + 1) M4 g Ml fun m hm => lf.sh.short wf hm⟩ ⟨rfl, fun _ => rfl, fun g => same_nats (kk + 2) _ g ll⟩
  have ln : ∀ g, opApp sub .len [cdD C] g = .ok (.int (C.length : Int)) g := fun g => by
    show opApp sub .len [.tup (C.map wdD)] g = _
    rw [o_lenT, List.length_map]
  have lr : ∀ g, opApp sub .listRng [.int (C.length : Int)] g = .ok (.lst ((List.range C.length).map nD)) g := fun g => by
    have rn : rngS [.int (C.length : Int)] = some ⟨(List.range C.length).map nD, []⟩ := by rw [rng1, range_nat]; rfl
    show (match rngS [.int (C.length : Int)] with
      | some s => whenR (decide (s.ds.length ≤ cells) && [D.int (C.length : Int)].all smallD) (.ok (.lst s.ds) g)
      | none => .no : R D) = _
    rw [rn]
    have a1 : smallD (.int (C.length : Int)) = true := by
      unfold smallD
      exact decide_eq_true (by omega)
    simp [a1, show C.length ≤ 16777216 by omega]
  obtain ⟨g2, hg2⟩ : ∃ g2 : Hh, g2 = g ++ [.lst ((List.range C.length).map nD)] := ⟨_, rfl⟩
  have gr2 : Grow g g2 := by rw [hg2]; exact Grow.app _
  have at2 : g2[g.length]? = some (.lst ((List.range C.length).map nD)) := by rw [hg2]; simp
  have fin : finish h (.bl true) g2 = .ok (.bl true) h := fin_grow (gr.trans gr2) (by simp [D.low]) rfl
  obtain ⟨t1, lp1⟩ := asked_loop (W := W) kk (b := b) (A := g.length) B lf (mk.grow gr2) (gd_one at2) (List.range C.length) none fun w hw => List.mem_range.mp hw
  obtain ⟨t2, lp2⟩ := asked_loop (W := W) kk (b := b) (A := g.length) B lf (mk.grow gr2) gd_nil [0, C.length / 2, C.length - 1] none fun w hw => by
    have := B.pos
    simp at hw
    omega
  have p5 := B.pos
  have d2 : ((C.length : Int)).fdiv 2 = ((C.length / 2 : Nat) : Int) := by rw [fdiv_pos (by decide)]; omega
  have d3 : (C.length : Int) - 1 = ((C.length - 1 : Nat) : Int) := by omega
  have bd : (2 : Nat) < bigD := small_bigD (x := 2) (by decide)
  have body : _law_asked.body = [.asg (.name 2) (.box (.call 16 [(.var 0)] [])), .asg (.name 3) (.op .tuple [(.comp [5] (.name 5) (.seq (.var 2)) [] (.op .tuple [(.comp [4] (.name 4) (.rng [(.op .len [(.var 5)])]) [(.ex (.op .idx [(.var 5), (.var 4)]))] (.var 4))]))]), .asg (.name 6) (.op .tuple [(.comp [5] (.name 5) (.rng [(.op .len [(.var 0)])]) [(.not (.ex (.op .idx [(.op .idx [(.var 2), (.var 5)]), (.lit (.int 0))])))] (.var 5))])] ++ _law_asked.body.drop 3 := rfl
  have s1 : evS (gk W (kk + 5)) (.asg (.name 2) (.box (.call 16 [(.var 0)] []))) [some (cdD C), some (.bl b), none, none, none, none, none, none, none] h = .nx [some (cdD C), some (.bl b), some (.ref n), none, none, none, none, none, none] g := by
    simp [evS, evE, evEs, cdD_pers, e16]
  have pre : evSs (gk W (kk + 5)) [.asg (.name 2) (.box (.call 16 [(.var 0)] [])), .asg (.name 3) (.op .tuple [(.comp [5] (.name 5) (.seq (.var 2)) [] (.op .tuple [(.comp [4] (.name 4) (.rng [(.op .len [(.var 5)])]) [(.ex (.op .idx [(.var 5), (.var 4)]))] (.var 4))]))]), .asg (.name 6) (.op .tuple [(.comp [5] (.name 5) (.rng [(.op .len [(.var 0)])]) [(.not (.ex (.op .idx [(.op .idx [(.var 2), (.var 5)]), (.lit (.int 0))])))] (.var 5))])] [some (cdD C), some (.bl b), none, none, none, none, none, none, none] h = .nx [some (cdD C), some (.bl b), some (.ref n), some (rowsD M4), none, none, some (.tup ((lostL M4).map nD)), none, none] g := by
    rw [evSs_cons s1, evSs_cons (δ2 := [some (cdD C), some (.bl b), some (.ref n), some (rowsD M4), none, none, none, none, none]) (h2 := g) (asg_ok ar rfl), evSs_cons (δ2 := [some (cdD C), some (.bl b), some (.ref n), some (rowsD M4), none, none, some (.tup ((lostL M4).map nD)), none, none]) (h2 := g) (asg_ok al rfl), evSs_nil]
  have post : evSs (gk W (kk + 5)) (_law_asked.body.drop 3) [some (cdD C), some (.bl b), some (.ref n), some (rowsD M4), none, none, some (.tup ((lostL M4).map nD)), none, none] g = .ret (.bl true) g2 := by
    have c5 : ∀ g, opApp sub .lt [.int (C.length : Int), .int 5] g = .ok (.bl (decide (C.length < 5))) g := fun g => by
      rw [o_ltI]
      congr 2
      rw [decide_eq_decide]
      omega
    unfold das at lp1 lp2
    by_cases q : C.length < 5
    · have qd : decide (C.length < 5) = true := decide_eq_true q
      cases b <;> simp [_law_asked, evSs, evS, evE, evEs, evT, evI, cdD_pers, cdD_box, rowsD_pers, rowsD_box, pick, e3, e4, sm, ln, lr, ← hg2, c5, qd, srcD_at at2, wipeS, lp1]
    · have qd : decide (C.length < 5) = false := decide_eq_false q
      simp only [List.map_cons, List.map_nil, nD, ← d2, ← d3] at lp2
      rw [show ((0 : Nat) : Int) = 0 from rfl] at lp2
      cases b <;> simp [_law_asked, evSs, evS, evE, evEs, evT, evI, cdD_pers, cdD_box, rowsD_pers, rowsD_box, pick, e3, e4, sm, ln, lr, ← hg2, c5, qd, bd, wipeS, lp2]
  rw [u20]
  refine (if_pos (show [cdD C, .bl b].length = _law_asked.np from rfl)).trans ?_
  show endF h (evSs (gk W (kk + 5)) _law_asked.body [some (cdD C), some (.bl b), none, none, none, none, none, none, none] h) = _
  rw [body, evSs_app pre, post]
  exact fin
end Lk09

namespace Lk09
open Ivy
/-! ### the rack: corks in cell 0, moods in cell 1, itself in cell 2 -/
def kCorks : Tx := [99, 111, 114, 107, 115]
def kStir : Tx := [115, 116, 105, 114]
def kTurn : Tx := [116, 117, 114, 110]
def kMood : Tx := [109, 111, 111, 100]
def rkD (st tn : Int) : List (Ky × D) := [(.inr kCorks, .ref 0), (.inr kStir, .int st), (.inr kTurn, .int tn), (.inr kMood, .ref 1)]
structure Moods (kvs : List (Ky × D)) : Prop where
  key : ∀ p ∈ kvs, ∃ i : Nat, i < 100 ∧ p.1 = .inl (i : Int)
  nd : (kvs.map (·.1)).Nodup
  val : ∀ p ∈ kvs, ∃ i : Int, p.2 = .int i ∧ 0 ≤ i ∧ i < 14
structure RkD (h : Hh) (cs : List Int) (kvs : List (Ky × D)) (st tn : Int) : Prop where
  c0 : h[0]? = some (.lst (cs.map .int))
  c1 : h[1]? = some (.dct kvs)
  c2 : h[2]? = some (.dct (rkD st tn))
  ne : 0 < cs.length
  cb : ∀ c ∈ cs, 0 ≤ c ∧ c < 1299709
  cl : cs.length ≤ 1000
  mo : Moods kvs
  s0 : 0 ≤ st ∧ st < 2147483249
  t0 : 0 ≤ tn
def Rk (h : Hh) : Prop := ∃ cs kvs st tn, RkD h cs kvs st tn
structure Kp (h h' : Hh) : Prop where
  len : h'.length = h.length
  off : ∀ i, 3 ≤ i → h'[i]? = h[i]?
  rk : Rk h'
theorem Kp.trans {a b c : Hh} (x : Kp a b) (y : Kp b c) : Kp a c := ⟨y.len.trans x.len, fun i hi => (y.off i hi).trans (x.off i hi), y.rk⟩
theorem Rk.refl {h : Hh} (x : Rk h) : Kp h h := ⟨rfl, fun _ _ => rfl, x⟩
theorem Rk.len {h : Hh} (x : Rk h) : 3 ≤ h.length := by
  obtain ⟨_, _, _, _, x⟩ := x
  have := (List.getElem?_eq_some_iff.mp x.c2).1
  omega
theorem kget_none {k : Ky} : ∀ {kvs : List (Ky × D)}, kGet kvs k = none → ∀ p ∈ kvs, p.1 ≠ k
  | [], _, p, h => by cases h
  | (j, d) :: r, e, p, h => by
    have e : (if j = k then some d else kGet r k) = none := e
    split at e
    · cases e
    · rename_i q
      rcases List.mem_cons.mp h with rfl | h
      · exact q
      · exact kget_none e p h
theorem kget_mem {k : Ky} {d : D} : ∀ {kvs : List (Ky × D)}, kGet kvs k = some d → (k, d) ∈ kvs
  | [], e => by cases e
  | (j, c) :: r, e => by
    have e : (if j = k then some c else kGet r k) = some d := e
    split at e
    · rename_i q
      cases e
      subst q
      exact List.mem_cons_self ..
    · exact List.mem_cons_of_mem _ (kget_mem e)
theorem kget_app {k : Ky} {d : D} : ∀ {kvs : List (Ky × D)}, kGet kvs k = none → kGet (kvs ++ [(k, d)]) k = some d
  | [], _ => by simp [kGet]
  | (j, c) :: r, e => by
    have e : (if j = k then some c else kGet r k) = none := e
    split at e
    · cases e
    · rename_i q
      show (if j = k then some c else kGet (r ++ [(k, d)]) k) = some d
      rw [if_neg q]
      exact kget_app e
theorem kput_new {k : Ky} {d : D} {kvs : List (Ky × D)} (e : kGet kvs k = none) : kPut kvs k d = kvs ++ [(k, d)] := by
  unfold kPut
  rw [if_neg]
  intro z
  rw [List.any_eq_true] at z
  obtain ⟨p, h1, h2⟩ := z
  exact kget_none e p h1 (of_decide_eq_true h2)
theorem Moods.len {kvs : List (Ky × D)} (m : Moods kvs) : kvs.length ≤ 100 := by
  have : ((kvs.map (·.1)).map fun k => match k with | .inl i => i.toNat | .inr _ => 0).Nodup := by
    rw [List.nodup_iff_pairwise_ne, List.pairwise_map]
    refine List.Pairwise.imp_of_mem (R := fun a b => a ≠ b) ?_ (List.nodup_iff_pairwise_ne.mp m.nd)
    intro a b ha hb ne z
    obtain ⟨p, hp, rfl⟩ := List.mem_map.mp ha
    obtain ⟨q, hq, rfl⟩ := List.mem_map.mp hb
    obtain ⟨i, _, ei⟩ := m.key p hp
    obtain ⟨j, _, ej⟩ := m.key q hq
    rw [ei, ej] at z ne
    simp at z
    exact ne (by rw [z])
  have l := nodup_len (m := 100) this fun x hx => by
    obtain ⟨k, hk, rfl⟩ := List.mem_map.mp hx
    obtain ⟨p, hp, rfl⟩ := List.mem_map.mp hk
    obtain ⟨i, hi, ei⟩ := m.key p hp
    rw [ei]
    simpa using hi
  simpa using l
theorem Moods.put {kvs : List (Ky × D)} (m : Moods kvs) {p : Nat} {v : Int} (hp : p < 100) (e : kGet kvs (.inl (p : Int)) = none) (v0 : 0 ≤ v) (v1 : v < 14) : Moods (kvs ++ [(.inl (p : Int), .int v)]) := by
  refine ⟨fun q hq => ?_, ?_, fun q hq => ?_⟩
  · rcases List.mem_append.mp hq with hq | hq
    · exact m.key q hq
    · simp at hq; subst hq; exact ⟨p, hp, rfl⟩
  · rw [List.map_append, List.nodup_append]
    refine ⟨m.nd, by simp, fun a ha b hb => ?_⟩
    simp at hb
    subst hb
    obtain ⟨q, hq, rfl⟩ := List.mem_map.mp ha
    exact kget_none e q hq
  · rcases List.mem_append.mp hq with hq | hq
    · exact m.val q hq
    · simp at hq; subst hq; exact ⟨v, rfl, v0, v1⟩
theorem rk_get (st tn : Int) : kGet (rkD st tn) (.inr kCorks) = some (.ref 0) ∧ kGet (rkD st tn) (.inr kStir) = some (.int st) ∧ kGet (rkD st tn) (.inr kTurn) = some (.int tn) ∧ kGet (rkD st tn) (.inr kMood) = some (.ref 1) := ⟨rfl, rfl, rfl, rfl⟩
theorem rk_turn (st tn v : Int) : kPut (rkD st tn) (.inr kTurn) (.int v) = rkD st v := rfl
theorem rk_stir (st tn v : Int) : kPut (rkD st tn) (.inr kStir) (.int v) = rkD v tn := rfl
theorem cork_ok {W : Nat} (n : Nat) (h : Hh) (p : Nat) (m : Int) (x : Rk h) (hp : p < 100) (hm : 0 < m) : ∃ t h', callF (Pr W) (n + 1) 11 [.ref 2, .int (p : Int), .int m] h = .ok (.int t) h' ∧ 0 ≤ t ∧ t < m ∧ Kp h h' := by
  obtain ⟨cs, kvs, st, tn, x⟩ := x
  have l2 := (List.getElem?_eq_some_iff.mp x.c2).1
  have s0 := x.s0; have t0 := x.t0
  have at2 : ∀ (g : Hh) (a b : Int), g[2]? = some (.dct (rkD a b)) → opApp sub .idx [.ref 2, .str kCorks] g = .ok (.ref 0) g ∧ opApp sub .idx [.ref 2, .str kStir] g = .ok (.int a) g ∧ opApp sub .idx [.ref 2, .str kTurn] g = .ok (.int b) g ∧ opApp sub .idx [.ref 2, .str kMood] g = .ok (.ref 1) g ∧
      (∀ v : Int, opApp sub .setItem [.int v, .ref 2, .str kTurn] g = .ok .non (g.set 2 (.dct (rkD a v)))) ∧ (∀ v : Int, opApp sub .setItem [.int v, .ref 2, .str kStir] g = .ok .non (g.set 2 (.dct (rkD v b)))) := fun g a b e => by
    obtain ⟨r1, r2, r3, r4⟩ := rk_get a b
    refine ⟨by rw [o_idxK e, r1], by rw [o_idxK e, r2], by rw [o_idxK e, r3], by rw [o_idxK e, r4], fun v => ?_, fun v => ?_⟩
    · rw [o_setK e, rk_turn]; rfl
    · rw [o_setK e, rk_stir]; rfl
  obtain ⟨a1, a2, a3, a4, a5, a6⟩ := at2 h st tn x.c2
  obtain ⟨h1, hh1⟩ : ∃ h1, h1 = h.set 2 (.dct (rkD st (tn + 1))) := ⟨_, rfl⟩
  have b2 : h1[2]? = some (.dct (rkD st (tn + 1))) := by rw [hh1, List.getElem?_set_self l2]
  obtain ⟨c1, c2, c3, c4, c5, c6⟩ := at2 h1 st (tn + 1) b2
  have a5' := a5 (tn + 1)
  rw [← hh1] at a5'
  have b0 : h1[0]? = some (.lst (cs.map .int)) := by rw [hh1, List.getElem?_set_ne (by omega)]; exact x.c0
  have ln : opApp sub .len [.ref 0] h1 = .ok (.int cs.length) h1 := by rw [o_lenL b0, List.length_map]
  have cp : (0 : Int) < cs.length := by have := x.ne; omega
  have cz : (cs.length : Int) ≠ 0 := by omega
  have cne : cs ≠ [] := fun z => by rw [z] at cp; simp at cp
  obtain ⟨j, hj⟩ : ∃ j : Nat, (tn + 1) * 3 % (cs.length : Int) = j := ⟨((tn + 1) * 3 % (cs.length : Int)).toNat, by have := Int.emod_nonneg ((tn + 1) * 3) cz; omega⟩
  have jl : j < cs.length := by have := Int.emod_lt_of_pos ((tn + 1) * 3) cp; omega
  have ixc : opApp sub .idx [.ref 0, .int (j : Int)] h1 = .ok (.int cs[j]) h1 := by rw [o_idxL b0, atP_map (List.getElem?_eq_getElem jl)]
  have cb := x.cb cs[j] (List.getElem_mem ..)
  generalize cs[j] = ck at *
  have k1 : mulOk (tn + 1) 3 = true := mul_small (.inr (by decide))
  have k2 : mulOk st 45991 = true := mul_small (.inr (by decide))
  have k3 : mulOk ck 19 = true := mul_small (.inr (by decide))
  have p1 : (0 : Int) < 2147483249 := by decide
  have st0 := Int.emod_nonneg (st * 45991 + ck * 19 + (tn + 1)) (show (2147483249 : Int) ≠ 0 by decide)
  have st1 := Int.emod_lt_of_pos (st * 45991 + ck * 19 + (tn + 1)) p1
  generalize hst : (st * 45991 + ck * 19 + (tn + 1)) % 2147483249 = st2 at *
  obtain ⟨h2, hh2⟩ : ∃ h2, h2 = h1.set 2 (.dct (rkD st2 (tn + 1))) := ⟨_, rfl⟩
  have l2' : 2 < h1.length := by rw [hh1]; simpa using l2
  have d2 : h2[2]? = some (.dct (rkD st2 (tn + 1))) := by rw [hh2, List.getElem?_set_self l2']
  have c6' := c6 st2
  rw [← hh2] at c6'
  obtain ⟨e1, e2, e3, e4, e5, e6⟩ := at2 h2 st2 (tn + 1) d2
  have d1 : h2[1]? = some (.dct kvs) := by rw [hh2, hh1, List.getElem?_set_ne (by omega), List.getElem?_set_ne (by omega)]; exact x.c1
  have d0 : h2[0]? = some (.lst (cs.map .int)) := by rw [hh2, List.getElem?_set_ne (by omega)]; exact b0
  have bd : (61 : Nat) < bigD := small_bigD (x := 61) (by decide)
  have bd3 : (3 : Nat) < bigD := small_bigD (x := 3) (by decide)
  obtain ⟨T, hT⟩ : ∃ T, T = st2 / 61 := ⟨_, rfl⟩
  have T0 : 0 ≤ T := by omega
  have e61 : st2.fdiv 61 = T := by rw [fdiv_pos (by decide), hT]
  have len2 : h2.length = h.length := by rw [hh2, hh1]; simp
  have off2 : ∀ i, 3 ≤ i → h2[i]? = h[i]? := fun i hi => by rw [hh2, hh1, List.getElem?_set_ne (by omega), List.getElem?_set_ne (by omega)]
  have pre : evSs (gk W n) (_law_cork.body.take 4) [some (.ref 2), some (.int (p : Int)), some (.int m), none, none] h = .nx [some (.ref 2), some (.int (p : Int)), some (.int m), some (.int ck), some (.int T)] h2 := by
    unfold kCorks kStir kTurn kMood at *
    simp [_law_cork, evSs, evS, evE, evEs, a3, a5', c1, c2, c3, ln, k1, fmod_pos cp, cz, cne, hj, ixc, k2, k3, fmod_pos p1, hst, c6', e2, e61, bd]
  have body : _law_cork.body = _law_cork.body.take 4 ++ _law_cork.body.drop 4 := rfl
  have m0 : m ≠ 0 := by omega
  have tm0 := Int.emod_nonneg T m0
  have tm1 := Int.emod_lt_of_pos T hm
  -- the last two statements, from the mood at hand
  have last : ∀ (g : Hh) (kv : List (Ky × D)) (v : Int), g[1]? = some (.dct kv) → g[2]? = some (.dct (rkD st2 (tn + 1))) → kGet kv (.inl (p : Int)) = some (.int v) → 0 ≤ v → v < 14 → ∃ t, 0 ≤ t ∧ t < m ∧ evSs (gk W n) (_law_cork.body.drop 5) [some (.ref 2), some (.int (p : Int)), some (.int m), some (.int ck), some (.int T)] g = .ret (.int t) g := fun g kv v g1 g2 gv v0 v1 => by
    obtain ⟨f1, f2, f3, f4, _, _⟩ := at2 g st2 (tn + 1) g2
    have im : opApp sub .idx [.ref 1, .int (p : Int)] g = .ok (.int v) g := by rw [o_idxKi g1, gv]
    unfold kMood at f4
    by_cases q : v < 2 ∧ 0 < T % 5
    · obtain ⟨q1, q2⟩ := q
      have hv : v = 0 ∨ v = 1 := by omega
      rcases hv with rfl | rfl
      · refine ⟨0, by omega, hm, ?_⟩
        simp [_law_cork, evSs, evS, evE, evEs, evT, f4, im, fmod_pos (show (0 : Int) < 5 by decide), q2]
      · refine ⟨m - 1, by omega, by omega, ?_⟩
        simp [_law_cork, evSs, evS, evE, evEs, evT, f4, im, fmod_pos (show (0 : Int) < 5 by decide), q2]
    · refine ⟨T % m, tm0, tm1, ?_⟩
      by_cases q1 : v < 2
      · have q2 : ¬ 0 < T % 5 := fun z => q ⟨q1, z⟩
        simp [_law_cork, evSs, evS, evE, evEs, evT, f4, im, fmod_pos (show (0 : Int) < 5 by decide), q1, q2, fmod_pos hm, m0]
      · simp [_law_cork, evSs, evS, evE, evEs, evT, f4, im, q1, fmod_pos hm, m0]
  have ni := o_notInK (s := sub) d1 (p : Int)
  cases q : kGet kvs (.inl (p : Int)) with
  | some d =>
    obtain ⟨v, ev, v0, v1⟩ := x.mo.val _ (kget_mem q)
    simp only at ev
    subst ev
    obtain ⟨t, t0', t1', e⟩ := last h2 kvs v d1 d2 q v0 v1
    refine ⟨t, h2, ?_, t0', t1', len2, off2, cs, kvs, st2, tn + 1, d0, d1, d2, x.ne, x.cb, x.cl, x.mo, ⟨st0, st1⟩, by omega⟩
    rw [q] at ni
    have s5 : evS (gk W n) (.ite (.ex (.op .notIn [(.var 1), (.op .idx [(.var 0), (.lit (.str [109, 111, 111, 100]))])])) [.ex (.op .setItem [(.op .mod [(.op .int [(.op .fdiv [(.var 4), (.lit (.int 3))])]), (.lit (.int 14))]), (.op .idx [(.var 0), (.lit (.str [109, 111, 111, 100]))]), (.var 1)])] []) [some (.ref 2), some (.int (p : Int)), some (.int m), some (.int ck), some (.int T)] h2 = .nx [some (.ref 2), some (.int (p : Int)), some (.int m), some (.int ck), some (.int T)] h2 := by
      unfold kMood at e4
      simp at ni
      simp [evSs, evS, evE, evEs, evT, e4, ni]
    rw [u11]
    refine (if_pos (show [D.ref 2, .int (p : Int), .int m].length = _law_cork.np from rfl)).trans ?_
    show endF h (evSs (gk W n) _law_cork.body [some (.ref 2), some (.int (p : Int)), some (.int m), none, none] h) = _
    rw [body, evSs_app pre, show _law_cork.body.drop 4 = (.ite (.ex (.op .notIn [(.var 1), (.op .idx [(.var 0), (.lit (.str [109, 111, 111, 100]))])])) [.ex (.op .setItem [(.op .mod [(.op .int [(.op .fdiv [(.var 4), (.lit (.int 3))])]), (.lit (.int 14))]), (.op .idx [(.var 0), (.lit (.str [109, 111, 111, 100]))]), (.var 1)])] []) :: _law_cork.body.drop 5 from rfl, evSs_cons s5, e]
    show finish h (.int t) h2 = _
    rw [fin_len len2]
  | none =>
    have v0 := Int.emod_nonneg (T / 3) (show (14 : Int) ≠ 0 by decide)
    have v1 := Int.emod_lt_of_pos (T / 3) (show (0 : Int) < 14 by decide)
    obtain ⟨h3, hh3⟩ : ∃ h3, h3 = h2.set 1 (.dct (kvs ++ [(.inl (p : Int), .int (T / 3 % 14))])) := ⟨_, rfl⟩
    have l1 : 1 < h2.length := by omega
    have f1 : h3[1]? = some (.dct (kvs ++ [(.inl (p : Int), .int (T / 3 % 14))])) := by rw [hh3, List.getElem?_set_self l1]
    have f2 : h3[2]? = some (.dct (rkD st2 (tn + 1))) := by rw [hh3, List.getElem?_set_ne (by omega)]; exact d2
    have f0 : h3[0]? = some (.lst (cs.map .int)) := by rw [hh3, List.getElem?_set_ne (by omega)]; exact d0
    obtain ⟨t, t0', t1', e⟩ := last h3 _ _ f1 f2 (kget_app q) v0 v1
    have len3 : h3.length = h.length := by rw [hh3, List.length_set]; exact len2
    refine ⟨t, h3, ?_, t0', t1', len3, fun i hi => by rw [hh3, List.getElem?_set_ne (by omega)]; exact off2 i hi, cs, _, st2, tn + 1, f0, f1, f2, x.ne, x.cb, x.cl, x.mo.put hp q v0 v1, ⟨st0, st1⟩, by omega⟩
    rw [q] at ni
    have ml := x.mo.len
    have sk : opApp sub .setItem [.int (T / 3 % 14), .ref 1, .int (p : Int)] h2 = .ok .non h3 := by
      rw [o_setKi d1, kput_new q, ← hh3]
      have : decide (kvs.length < cells) = true := decide_eq_true (by rw [cells_n]; omega)
      rw [this]
      rfl
    have s5 : evS (gk W n) (.ite (.ex (.op .notIn [(.var 1), (.op .idx [(.var 0), (.lit (.str [109, 111, 111, 100]))])])) [.ex (.op .setItem [(.op .mod [(.op .int [(.op .fdiv [(.var 4), (.lit (.int 3))])]), (.lit (.int 14))]), (.op .idx [(.var 0), (.lit (.str [109, 111, 111, 100]))]), (.var 1)])] []) [some (.ref 2), some (.int (p : Int)), some (.int m), some (.int ck), some (.int T)] h2 = .nx [some (.ref 2), some (.int (p : Int)), some (.int m), some (.int ck), some (.int T)] h3 := by
      unfold kMood at e4
      simp at ni
      simp [evSs, evS, evE, evEs, evT, e4, ni, fdiv_pos (show (0 : Int) < 3 by decide), bd3, fmod_pos (show (0 : Int) < 14 by decide), sk]
    rw [u11]
    refine (if_pos (show [D.ref 2, .int (p : Int), .int m].length = _law_cork.np from rfl)).trans ?_
    show endF h (evSs (gk W n) _law_cork.body [some (.ref 2), some (.int (p : Int)), some (.int m), none, none] h) = _
    rw [body, evSs_app pre, show _law_cork.body.drop 4 = (.ite (.ex (.op .notIn [(.var 1), (.op .idx [(.var 0), (.lit (.str [109, 111, 111, 100]))])])) [.ex (.op .setItem [(.op .mod [(.op .int [(.op .fdiv [(.var 4), (.lit (.int 3))])]), (.lit (.int 14))]), (.op .idx [(.var 0), (.lit (.str [109, 111, 111, 100]))]), (.var 1)])] []) :: _law_cork.body.drop 5 from rfl, evSs_cons s5, e]
    show finish h (.int t) h3 = _
    rw [fin_len len3]
end Lk09

namespace Lk09
open Ivy
theorem cork_nat {W : Nat} (n : Nat) (h : Hh) (p : Nat) (m : Nat) (x : Rk h) (hp : p < 100) (hm : 0 < m) : ∃ (t : Nat) (h' : Hh), callF (Pr W) (n + 1) 11 [.ref 2, .int (p : Int), .int (m : Int)] h = .ok (.int (t : Int)) h' ∧ t < m ∧ Kp h h' := by
  obtain ⟨t, h', e, t0, t1, k⟩ := cork_ok (W := W) n h p (m : Int) x hp (by omega)
  obtain ⟨j, rfl⟩ : ∃ j : Nat, t = j := ⟨t.toNat, by omega⟩
  exact ⟨j, h', e, by omega, k⟩
/-- a row as it is drawn -/
structure RowOk (words many : Nat) (r : Rw) : Prop where
  nx : ∀ j ∈ r.nx, j < many
  call : ∀ c n, r = .call c n → c < words
  few : r.nx.length ≤ 10
  lw : ∀ n, D.low n (rwD r) = true
theorem ok_call {words many c n : Nat} (hc : c < words) (hn : n < many) : RowOk words many (.call c n) := ⟨fun j hj => by simp [Rw.nx] at hj; omega, (fun a b e => by cases e; exact hc), by simp [Rw.nx], fun n => by simp [rwD, D.low, D.lowL, nD]⟩
theorem ok_deed {words many n : Nat} {d : D} (hn : n < many) (hd : ∀ n, D.low n d = true) : RowOk words many (.deed d n) := ⟨fun j hj => by simp [Rw.nx] at hj; omega, (fun a b e => by cases e), by simp [Rw.nx], fun n => by simp [rwD, D.low, D.lowL, nD, hd]⟩
theorem ok_ret {words many : Nat} : RowOk words many .ret := ⟨(fun j hj => by cases hj), (fun a b e => by cases e), by simp [Rw.nx], fun n => by simp [rwD, D.low, D.lowL]⟩
theorem ok_cho {words many : Nat} {ns : List Nat} (h : ∀ j ∈ ns, j < many) (hl : ns.length ≤ 10) : RowOk words many (.cho ns) := ⟨h, (fun a b e => by cases e), hl, fun n => by simp [rwD, D.low, D.lowL]; exact low_map nD (fun z => by simp [nD, D.low]) ns⟩
theorem lp_draw {W : Nat} (n : Nat) (p many : Nat) (hp : p < 100) (hm : 0 < many) {step : D → Hh → R (Option D)} (hs : ∀ x h, D.pers x = true → step x h = ((callF (Pr W) (n + 1) 11 [.ref 2, .int (p : Int), .int (many : Int)] h).bind fun d h => boxR d h).bind fun y h => whenR (D.pers y) (.ok (some y) h)) :
    ∀ (xs : List D) (h : Hh), (∀ x ∈ xs, D.pers x = true) → Rk h → ∃ (ts : List Nat) (h' : Hh), ts.length = xs.length ∧ (∀ t ∈ ts, t < many) ∧ Kp h h' ∧ lpC [] step xs h = .ok (ts.map nD) h'
  | [], h, _, x => ⟨[], h, rfl, (fun t ht => by cases ht), x.refl, rfl⟩
  | y :: ys, h, hy, x => by
    obtain ⟨t, h1, e, t1, k1⟩ := cork_nat (W := W) n h p many x hp hm
    obtain ⟨ts, h2, l, b, k2, e2⟩ := lp_draw n p many hp hm hs ys h1 (fun z hz => hy z (List.mem_cons_of_mem _ hz)) k1.rk
    refine ⟨t :: ts, h2, by simp [l], fun z hz => ?_, k1.trans k2, ?_⟩
    · rcases List.mem_cons.mp hz with rfl | hz
      · exact t1
      · exact b z hz
    · rw [lpC_eq, gd_nil, hs y h (hy y (List.mem_cons_self ..)), e]
      simp only [s_wt, s_okb, s_boxI, p_int, s_calm]
      rw [e2]
      rfl
/-- cells but the rack's and one of ours stay -/
structure KA (A : Nat) (h h' : Hh) : Prop where
  len : h'.length = h.length
  off : ∀ i, 3 ≤ i → i ≠ A → h'[i]? = h[i]?
  rk : Rk h'
theorem KA.of {A : Nat} {h h' : Hh} (x : Kp h h') : KA A h h' := ⟨x.len, fun i h3 _ => x.off i h3, x.rk⟩
theorem KA.trans {A : Nat} {a b c : Hh} (x : KA A a b) (y : KA A b c) : KA A a c := ⟨y.len.trans x.len, fun i h3 ne => (y.off i h3 ne).trans (x.off i h3 ne), y.rk⟩
theorem Rk.set {h : Hh} {A : Nat} {c : C} (x : Rk h) (hA : 3 ≤ A) : Rk (h.set A c) := by
  obtain ⟨cs, kvs, st, tn, x⟩ := x
  exact ⟨cs, kvs, st, tn, ⟨by rw [List.getElem?_set_ne (by omega)]; exact x.c0, by rw [List.getElem?_set_ne (by omega)]; exact x.c1, by rw [List.getElem?_set_ne (by omega)]; exact x.c2, x.ne, x.cb, x.cl, x.mo, x.s0, x.t0⟩⟩
theorem Rk.app {h : Hh} {cs : List C} (x : Rk h) : Rk (h ++ cs) := by
  have l := x.len
  obtain ⟨ks, kvs, st, tn, x⟩ := x
  exact ⟨ks, kvs, st, tn, ⟨by rw [List.getElem?_append_left (by omega)]; exact x.c0, by rw [List.getElem?_append_left (by omega)]; exact x.c1, by rw [List.getElem?_append_left (by omega)]; exact x.c2, x.ne, x.cb, x.cl, x.mo, x.s0, x.t0⟩⟩
def dwd (words word calls many : Nat) (A : Nat) (a k h m : Option D) : Sl := [some (.ref 2), some (nD words), some (nD word), some (nD calls), some (nD many), some (.ref A), a, k, h, m, none]
theorem put_row {g : Hh} {A : Nat} {L : List Rw} {r : Rw} (hl : L.length ≤ 1000) (e : g[A]? = some (.lst (L.map rwD))) : opApp sub .append [.ref A, rwD r] g = .ok .non (g.set A (.lst ((L ++ [r]).map rwD))) := by
  rw [o_appendL e, rwD_pers, decide_eq_true (by rw [List.length_map, cells_n]; omega)]
  simp
theorem ite1 {G : G} {t : Te} {a b : List St} {δ δ' : Sl} {h h' : Hh} {k : Bool} (ht : evT G t δ h = .ok k h) (hb : evSs G (if k = true then a else b) δ h = .nx δ' h') : evSs G [.ite t a b] δ h = .nx δ' h' := by
  refine (evSs_cons ?_).trans evSs_nil
  simp only [evS, ht]
  cases k <;> exact hb
theorem word_turn {W : Nat} (n : Nat) (h : Hh) (words word calls many A a : Nat) (L : List Rw) (x : Rk h) (hA : 3 ≤ A) (hl : L.length ≤ 100) (e : h[A]? = some (.lst (L.map rwD))) (hw : 0 < words) (hm : 0 < many) :
    ∃ (r : Rw) (h' : Hh) (k s m : Option D), RowOk words many r ∧ KA A h h' ∧ h'[A]? = some (.lst ((L ++ [r]).map rwD)) ∧ evSs (gk W (n + 1)) _law_word_l1 (dwd words word calls many A (some (nD a)) none none none) h = .nx (dwd words word calls many A (some (nD a)) k s m) h' := by
  obtain ⟨kd, h1, e1, b1, k1⟩ := cork_nat (W := W) n h 2 16 x (by omega) (by omega)
  obtain ⟨t3, h2, e2, b2, k2⟩ := cork_nat (W := W) n h1 3 3 k1.rk (by omega) (by omega)
  have m0 : (many : Int) ≠ 0 := by omega
  have mp : (0 : Int) < many := by omega
  have w0 : (words : Int) ≠ 0 := by omega
  have wp : (0 : Int) < words := by omega
  obtain ⟨H, h3, hH, k3, e3⟩ : ∃ (H : Nat) (h3 : Hh), H < many ∧ Kp h2 h3 ∧ evE (gk W (n + 1)) (.box (.ifx (.ex (.op .gt [(.call 11 [(.var 0), (.lit (.int 3)), (.lit (.int 3))] []), (.lit (.int 0))])) (.op .mod [(.op .add [(.var 6), (.lit (.int 1))]), (.var 4)]) (.call 11 [(.var 0), (.lit (.int 4)), (.var 4)] []))) (dwd words word calls many A (some (nD a)) (some (nD kd)) none none) h1 = .ok (nD H) h3 := by
    by_cases q : 0 < t3
    · have c0 := Int.emod_nonneg ((a : Int) + 1) m0
      have c1 := Int.emod_lt_of_pos ((a : Int) + 1) mp
      obtain ⟨H, hH⟩ : ∃ H : Nat, ((a : Int) + 1) % (many : Int) = H := ⟨(((a : Int) + 1) % (many : Int)).toNat, by omega⟩
      refine ⟨H, h2, by omega, k2.rk.refl, ?_⟩
      simp at e2
      simp [dwd, evE, evEs, evT, e2, q, nD, m0, fmod_pos mp, hH, show many ≠ 0 by omega]
    · obtain ⟨t4, h3, e4, b4, k4⟩ := cork_nat (W := W) n h2 4 many k2.rk (by omega) hm
      refine ⟨t4, h3, b4, k4, ?_⟩
      simp at e2 e4
      simp [dwd, evE, evEs, evT, e2, q, nD, e4]
  have K3 : KA A h h3 := ((KA.of k1).trans (KA.of k2)).trans (KA.of k3)
  have ne3 : ∀ {g g' : Hh}, Kp g g' → g[A]? = some (.lst (L.map rwD)) → g'[A]? = some (.lst (L.map rwD)) := fun k q => (k.off A hA).trans q
  have r3 := ne3 k3 (ne3 k2 (ne3 k1 e))
  have lA : ∀ {g : Hh}, g[A]? = some (.lst (L.map rwD)) → A < g.length := fun q => (List.getElem?_eq_some_iff.mp q).1
  have ck := ck_at r3
  have pre : evSs (gk W (n + 1)) (_law_word_l1.take 2) (dwd words word calls many A (some (nD a)) none none none) h = .nx (dwd words word calls many A (some (nD a)) (some (nD kd)) (some (nD H)) none) h3 := by
    have s1 : evS (gk W (n + 1)) (.asg (.name 7) (.box (.call 11 [(.var 0), (.lit (.int 2)), (.lit (.int 16))] []))) (dwd words word calls many A (some (nD a)) none none none) h = .nx (dwd words word calls many A (some (nD a)) (some (nD kd)) none none) h1 := by
      simp at e1
      simp [dwd, evS, evE, evEs, e1, nD]
    rw [show _law_word_l1.take 2 = [.asg (.name 7) (.box (.call 11 [(.var 0), (.lit (.int 2)), (.lit (.int 16))] [])), .asg (.name 8) (.box (.ifx (.ex (.op .gt [(.call 11 [(.var 0), (.lit (.int 3)), (.lit (.int 3))] []), (.lit (.int 0))])) (.op .mod [(.op .add [(.var 6), (.lit (.int 1))]), (.var 4)]) (.call 11 [(.var 0), (.lit (.int 4)), (.var 4)] [])))] from rfl]
    rw [evSs_cons s1, evSs_cons (δ2 := dwd words word calls many A (some (nD a)) (some (nD kd)) (some (nD H)) none) (h2 := h3) (asg_ok e3 rfl), evSs_nil]
  have fin : ∀ (g : Hh) (r : Rw) (m : Option D), KA A h g → g[A]? = some (.lst (L.map rwD)) → RowOk words many r → evSs (gk W (n + 1)) (_law_word_l1.drop 2) (dwd words word calls many A (some (nD a)) (some (nD kd)) (some (nD H)) none) h3 = .nx (dwd words word calls many A (some (nD a)) (some (nD kd)) (some (nD H)) m) (g.set A (.lst ((L ++ [r]).map rwD))) →
      ∃ (r : Rw) (h' : Hh) (k s m : Option D), RowOk words many r ∧ KA A h h' ∧ h'[A]? = some (.lst ((L ++ [r]).map rwD)) ∧ evSs (gk W (n + 1)) _law_word_l1 (dwd words word calls many A (some (nD a)) none none none) h = .nx (dwd words word calls many A (some (nD a)) k s m) h' := fun g r m kg ge ro ev =>
    ⟨r, _, _, _, m, ro, ⟨by rw [List.length_set]; exact kg.len, fun i h3' ne => by rw [List.getElem?_set_ne (Ne.symm ne)]; exact kg.off i h3' ne, kg.rk.set hA⟩, List.getElem?_set_self (lA ge), by
      rw [show _law_word_l1 = _law_word_l1.take 2 ++ _law_word_l1.drop 2 from rfl, evSs_app pre]
      exact ev⟩
  by_cases c1 : kd < calls
  · -- a call
    have c1' : decide ((kd : Int) < (calls : Int)) = true := decide_eq_true (by omega)
    obtain ⟨t5, h4, e5, b5, k5⟩ := cork_nat (W := W) n h3 5 3 k3.rk (by omega) (by omega)
    have r4 := ne3 k5 r3
    by_cases q : t5 = 0
    · have d0 := Int.emod_nonneg ((word : Int) + 1) w0
      have d1 := Int.emod_lt_of_pos ((word : Int) + 1) wp
      obtain ⟨c, hc⟩ : ∃ c : Nat, ((word : Int) + 1) % (words : Int) = c := ⟨(((word : Int) + 1) % (words : Int)).toNat, by omega⟩
      refine fin h4 (.call c H) none (K3.trans (KA.of k5)) r4 (ok_call (by omega) hH) ?_
      have ap := put_row (r := .call c H) (by omega : L.length ≤ 1000) r4
      simp [rwD, sCall, nD] at ap
      simp at e5
      simp [dwd, _law_word_l1, evSs, evS, evE, evEs, evT, nD, c1, ck, e5, q, w0, fmod_pos wp, hc, show words ≠ 0 by omega]
      simp [rwD, sCall, nD, ap]
    · obtain ⟨t6, h5, e6, b6, k6⟩ := cork_nat (W := W) n h4 6 words k5.rk (by omega) hw
      have r5 := ne3 k6 r4
      refine fin h5 (.call t6 H) none ((K3.trans (KA.of k5)).trans (KA.of k6)) r5 (ok_call b6 hH) ?_
      have ap := put_row (r := .call t6 H) (by omega : L.length ≤ 1000) r5
      simp [rwD, sCall, nD] at ap
      simp at e5 e6
      simp [dwd, _law_word_l1, evSs, evS, evE, evEs, evT, nD, c1, ck, e5, q, e6]
      simp [rwD, sCall, nD, ap]
  · by_cases c2 : kd < 11
    · have c2i : (kd : Int) < 11 := by omega
      obtain ⟨t7, h4, e7, b7, k7⟩ := cork_nat (W := W) n h3 7 6 k3.rk (by omega) (by omega)
      obtain ⟨t8, h5, e8, b8, k8⟩ := cork_nat (W := W) n h4 8 (1 + t7) k7.rk (by omega) (by omega)
      obtain ⟨t9, h6, e9, b9, k9⟩ := cork_nat (W := W) n h5 9 9 k8.rk (by omega) (by omega)
      obtain ⟨t10, h7, e10, b10, k10⟩ := cork_nat (W := W) n h6 10 3 k9.rk (by omega) (by omega)
      have r7 := ne3 k10 (ne3 k9 (ne3 k8 (ne3 k7 r3)))
      obtain ⟨v, hv⟩ : ∃ v : Int, ∀ g, opApp sub .idx [.tup [.int 1, .int (-1), .int 2], .int (t10 : Int)] g = .ok (.int v) g := by
        have : t10 = 0 ∨ t10 = 1 ∨ t10 = 2 := by omega
        rcases this with rfl | rfl | rfl
        · exact ⟨1, fun g => by simp⟩
        · exact ⟨-1, fun g => by simp⟩
        · exact ⟨2, fun g => by simp⟩
      have r4 := ne3 k7 r3
      have ck4 := ck_at r4
      refine fin h7 (.deed (.tup [.int (t8 : Int), .int (1 + (t7 : Int)), .int ((t9 : Int) - 4), .int v]) H) (some (.int (1 + (t7 : Int)))) ((((K3.trans (KA.of k7)).trans (KA.of k8)).trans (KA.of k9)).trans (KA.of k10)) r7 (ok_deed hH (fun n => by simp [D.low, D.lowL])) ?_
      have ap := put_row (r := .deed (.tup [.int (t8 : Int), .int (1 + (t7 : Int)), .int ((t9 : Int) - 4), .int v]) H) (by omega : L.length ≤ 1000) r7
      have e8' : callF (Pr W) (n + 1) 11 [.ref 2, .int 8, .int (1 + (t7 : Int))] h4 = .ok (.int (t8 : Int)) h5 := by simpa using e8
      simp [rwD, sDeed, nD] at ap
      simp at e7 e9 e10
      simp [dwd, _law_word_l1, evSs, evS, evE, evEs, evT, nD, c1, c2, c2i, ck4, e7, e8', e9, e10, hv]
      simp [rwD, sDeed, nD, ap]
    · have c2i : ¬ (kd : Int) < 11 := by omega
      by_cases c3 : kd < 14
      · have c3i : (kd : Int) < 14 := by omega
        obtain ⟨t12, h4, e12, b12, k12⟩ := cork_nat (W := W) n h3 12 2 k3.rk (by omega) (by omega)
        obtain ⟨ts, h5, l5, b5, k5, e5⟩ := lp_draw (W := W) n 11 many (by omega) hm (step := fun x h => match putT (.name 10) x [some (.ref 2), some (nD words), some (nD word), some (nD calls), some (nD many), some (.ref A), some (nD a), some (nD kd), some (nD H), none, none] with
          | some δ' => (evTs (gk W (n + 1)) [] δ' h).bind fun k h => if k = true then (evE (gk W (n + 1)) (.box (.call 11 [(.var 0), (.lit (.int 11)), (.var 4)] [])) δ' h).bind fun y h => whenR (D.pers y) (.ok (some y) h) else .ok none h
          | none => .no) (fun x h px => by simp [px, evTs, evE, evEs, nD]) (rangeL 0 (rangeN 0 (1 + (t12 : Int)) 1) 1) h4 rangeL_pers k12.rk
        have r5 := ne3 k5 (ne3 k12 r3)
        have tl : ts.length ≤ 3 := by
          rw [l5, rangeN_one]
          simp [rangeL]
          omega
        refine fin h5 (.cho (H :: ts)) none ((K3.trans (KA.of k12)).trans (KA.of k5)) r5 (ok_cho (fun j hj => by
          rcases List.mem_cons.mp hj with rfl | hj
          · exact hH
          · exact b5 j hj) (by simp; omega)) ?_
        have ap := put_row (r := .cho (H :: ts)) (by omega : L.length ≤ 1000) r5
        have cp : evE (gk W (n + 1)) (.comp [10] (.name 10) (.rng [(.op .add [(.lit (.int 1)), (.call 11 [(.var 0), (.lit (.int 12)), (.lit (.int 2))] [])])]) [] (.box (.call 11 [(.var 0), (.lit (.int 11)), (.var 4)] []))) (dwd words word calls many A (some (nD a)) (some (nD kd)) (some (nD H)) none) h3 = .ok (.lst (ts.map nD)) h5 := by
          have e3' : ∀ (G : G) (b : Ex) (it : Ivy.It) (δ : Sl) (h : Hh), evE G (.comp [10] (.name 10) it [] b) δ h = (evI G it δ h).bind fun src h => (lpC src.gd (fun x h => match putT (.name 10) x (wipeS δ [10]) with
            | some δ' => (evTs G [] δ' h).bind fun k h => if k = true then (evE G b δ' h).bind fun y h => whenR (D.pers y) (.ok (some y) h) else .ok none h
            | none => .no) src.ds h).bind fun ys h => whenR (decide (ys.length ≤ cells)) (.ok (.lst ys) h) := fun G b it δ h => by simp only [evE] <;> rfl
          have ei : evI (gk W (n + 1)) (.rng [(.op .add [(.lit (.int 1)), (.call 11 [(.var 0), (.lit (.int 12)), (.lit (.int 2))] [])])]) (dwd words word calls many A (some (nD a)) (some (nD kd)) (some (nD H)) none) h3 = .ok ⟨rangeL 0 (rangeN 0 (1 + (t12 : Int)) 1) 1, []⟩ h4 := by
            simp at e12
            simp [dwd, evI, evE, evEs, e12, rng1]
          rw [e3', ei]
          simp only [s_okb]
          rw [show wipeS (dwd words word calls many A (some (nD a)) (some (nD kd)) (some (nD H)) none) [10] = [some (.ref 2), some (nD words), some (nD word), some (nD calls), some (nD many), some (.ref A), some (nD a), some (nD kd), some (nD H), none, none] from by simp [dwd]]
          rw [e5]
          simp [show ts.length ≤ 16777216 by omega]
        have c1' : decide ((kd : Int) < (calls : Int)) = false := decide_eq_false (by omega)
        have tc : evE (gk W (n + 1)) (.op .tuple [(.op .add [(.op .lst [(.var 8)]), (.comp [10] (.name 10) (.rng [(.op .add [(.lit (.int 1)), (.call 11 [(.var 0), (.lit (.int 12)), (.lit (.int 2))] [])])]) [] (.box (.call 11 [(.var 0), (.lit (.int 11)), (.var 4)] [])))])]) (dwd words word calls many A (some (nD a)) (some (nD kd)) (some (nD H)) none) h3 = .ok (.tup ((H :: ts).map nD)) h5 := by
          have e4 : ∀ (G : G) (b : Ex) (δ : Sl) (h : Hh) (d : D), δ[8]? = some (some d) → D.pers d = true → evE G (.op .tuple [(.op .add [(.op .lst [(.var 8)]), b])]) δ h = (evE G b δ h).bind fun y h => (opApp G.sub .add [.lst [d], y] h).bind fun d h => opApp G.sub .tuple [d] h := fun G b δ h d hd pd => by
            simp only [evE, evEs, hd, s_okb]
            have : opApp G.sub .lst [d] h = .ok (.lst [d]) h := by
              rw [o_lst]
              simp [pd]
            rw [this]
            simp only [s_okb]
            cases evE G b δ h with
            | err _ _ _ => rfl
            | no => rfl
            | ok y h1 =>
              simp only [s_okb]
              cases opApp G.sub .add [.lst [d], y] h1 <;> rfl
          rw [e4 _ _ _ _ (nD H) rfl rfl, cp]
          simp only [s_okb]
          rw [o_addLL, decide_eq_true (by rw [cells_n, List.length_map, List.length_singleton]; omega)]
          rfl
        have e9 : ∀ (G : G) (b : Ex) (δ : Sl) (h h' h2 : Hh) (A : Nat) (d : D) (x : Tx), δ[5]? = some (some (.ref A)) → ckR 1 (.ref A) h = .ok (.ref A) h → evE G b δ h = .ok d h' → D.pers d = true → opApp G.sub .append [.ref A, .tup [.str x, d]] h' = .ok .non h2 → evS G (.ex (.op .append [(.ck 1 (.var 5)), (.op .tup [(.lit (.str x)), b])])) δ h = .nx δ h2 := fun G b δ h h' h2 A d x h5 ck eb pd ap => by
          simp only [evS, evE, evEs, h5, s_okb, ck, eb]
          have : opApp G.sub .tup [.str x, d] h' = .ok (.tup [.str x, d]) h' := by
            rw [o_tup]
            simp [pd]
          rw [this]
          simp only [s_okb]
          rw [ap]
          rfl
        have se := e9 (gk W (n + 1)) _ (dwd words word calls many A (some (nD a)) (some (nD kd)) (some (nD H)) none) h3 h5 _ A _ sCho rfl ck tc rfl ap
        refine ite1 (k := false) (by simp [dwd, nD, evT, evE, evEs, c1]) ?_
        refine ite1 (k := false) (by simp [dwd, nD, evT, evE, evEs, c2i]) ?_
        refine ite1 (k := true) (by simp [dwd, nD, evT, evE, evEs, c3i]) ?_
        exact (evSs_cons se).trans evSs_nil
      · have c3i : ¬ (kd : Int) < 14 := by omega
        refine fin h3 .ret none K3 r3 ok_ret ?_
        have ap := put_row (r := .ret) (by omega : L.length ≤ 1000) r3
        simp [rwD, sRet] at ap
        simp [dwd, _law_word_l1, evSs, evS, evE, evEs, evT, nD, c1, c2i, c3i, ck]
        simp [rwD, sRet, ap]
end Lk09

namespace Lk09
open Ivy
theorem trim_low {n : Nat} : ∀ (h g : Hh), h.length ≤ g.length → (∀ i, i < h.length → g[i]? = h[i]? ∨ ∃ c, g[i]? = some c ∧ C.low n c = true) → trimOk n h g = true
  | [], _, _, _ => rfl
  | c :: h, [], l, _ => by simp at l
  | c :: h, c' :: g, l, x => by
    show ((C.beq c c' || C.low n c') && trimOk n h g) = true
    have e := x 0 (by simp)
    have t := trim_low (n := n) h g (by simpa using l) fun i hi => by simpa using x (i + 1) (by simpa using hi)
    rw [t]
    rcases e with e | ⟨d, e1, e2⟩
    · simp at e
      rw [e, cbeq_refl]; rfl
    · simp at e1
      rw [e1, e2]; simp
theorem low_ints (n : Nat) : ∀ zs : List Int, D.lowL n (zs.map .int) = true
  | [] => by simp [D.lowL]
  | z :: zs => by simp [D.lowL, D.low, low_ints n zs]
theorem low_moods {n : Nat} : ∀ {kvs : List (Ky × D)}, (∀ q ∈ kvs, ∃ v : Int, q.2 = .int v) → D.lowK n kvs = true
  | [], _ => by simp [D.lowK]
  | (k, d) :: r, h => by
    obtain ⟨v, e⟩ := h _ (List.mem_cons_self ..)
    simp only at e
    subst e
    simp [D.lowK, D.low, low_moods fun q hq => h q (List.mem_cons_of_mem _ hq)]
theorem fin_rk {h g : Hh} {d : D} (xh : Rk h) (x : Rk g) (hl : h.length ≤ g.length) (off : ∀ i, 3 ≤ i → i < h.length → g[i]? = h[i]?) (hd : D.low h.length d = true) (hr : isRef d = false) : ∃ h', finish h d g = .ok d h' ∧ Kp h h' := by
  have l3 := xh.len
  by_cases e : g.length = h.length
  · refine ⟨g, by unfold finish; rw [if_pos e], e, fun i hi => ?_, x⟩
    by_cases q : i < h.length
    · exact off i hi q
    · rw [List.getElem?_eq_none (by omega), List.getElem?_eq_none (by omega)]
  · have el : lift h.length g d = d := by cases d <;> first | rfl | cases hr
    have tr : trimOk h.length h g = true := trim_low h g hl fun i hi => by
      obtain ⟨cs, kvs, st, tn, y⟩ := x
      by_cases i0 : i = 0
      · subst i0
        exact .inr ⟨_, y.c0, low_ints _ _⟩
      · by_cases i1 : i = 1
        · subst i1
          exact .inr ⟨_, y.c1, low_moods fun q hq => by obtain ⟨v, e, _⟩ := y.mo.val q hq; exact ⟨v, e⟩⟩
        · by_cases i2 : i = 2
          · subst i2
            refine .inr ⟨_, y.c2, ?_⟩
            have a0 : 0 < h.length := by omega
            have a1 : 1 < h.length := by omega
            simp [C.low, rkD, D.lowK, D.low, a0, a1]
          · exact .inl (off i (by omega) hi)
    refine ⟨g.take h.length, ?_, ?_, fun i hi => ?_, ?_⟩
    · unfold finish
      rw [if_neg e, el, hd, tr]
      rfl
    · rw [List.length_take]; omega
    · by_cases q : i < h.length
      · rw [List.getElem?_take_of_lt q]; exact off i hi q
      · rw [List.getElem?_eq_none (by rw [List.length_take]; omega), List.getElem?_eq_none (by omega)]
    · obtain ⟨cs, kvs, st, tn, y⟩ := x
      exact ⟨cs, kvs, st, tn, by rw [List.getElem?_take_of_lt (by omega)]; exact y.c0, by rw [List.getElem?_take_of_lt (by omega)]; exact y.c1, by rw [List.getElem?_take_of_lt (by omega)]; exact y.c2, y.ne, y.cb, y.cl, y.mo, y.s0, y.t0⟩
theorem wloop {W : Nat} (n : Nat) (words word calls many A : Nat) (hA : 3 ≤ A) (hw : 0 < words) (hm : 0 < many) : ∀ (as : List Nat) (h : Hh) (L : List Rw), Rk h → h[A]? = some (.lst (L.map rwD)) → L.length + as.length ≤ 100 → (∀ r ∈ L, RowOk words many r) →
    ∃ (L' : List Rw) (h' : Hh), lpF [] (.name 6) [6, 7, 8, 9, 10] (evSs (gk W (n + 1)) _law_word_l1) (as.map nD) (dwd words word calls many A none none none none) h = .nx (dwd words word calls many A none none none none) h' ∧ KA A h h' ∧ h'[A]? = some (.lst (L'.map rwD)) ∧ L'.length = L.length + as.length ∧ ∀ r ∈ L', RowOk words many r
  | [], h, L, x, e, hl, ok => ⟨L, h, by rw [List.map_nil, lpF_nil]; simp [dwd, wipeS], KA.of x.refl, e, rfl, ok⟩
  | a :: as, h, L, x, e, hl, ok => by
    obtain ⟨r, h1, k, s, m, ro, ka, e1, ev⟩ := word_turn (W := W) n h words word calls many A a L x hA (by omega) e hw hm
    obtain ⟨L', h2, e2, ka2, at2, l2, ok2⟩ := wloop (W := W) n words word calls many A hA hw hm as h1 (L ++ [r]) ka.rk e1 (by simp at hl ⊢; omega) fun q hq => by
      rcases List.mem_append.mp hq with hq | hq
      · exact ok q hq
      · simp at hq; subst hq; exact ro
    refine ⟨L', h2, ?_, ka.trans ka2, at2, by simp at l2 ⊢; omega, ok2⟩
    rw [List.map_cons, lpF_go (δ1 := dwd words word calls many A (some (nD a)) none none none) (by simp [dwd, nD_pers]) ev]
    rw [show wipeS (dwd words word calls many A (some (nD a)) k s m) [6, 7, 8, 9, 10] = dwd words word calls many A none none none none from by simp [dwd, wipeS]]
    exact e2
theorem rows_low (n : Nat) : ∀ {rs : List Rw}, (∀ r ∈ rs, ∀ n, D.low n (rwD r) = true) → D.low n (wdD rs) = true
  | [], _ => by simp [wdD, D.low, D.lowL]
  | r :: rs, h => by
    have := rows_low n (rs := rs) fun q hq => h q (List.mem_cons_of_mem _ hq)
    simp only [wdD, D.low, List.map_cons, D.lowL] at this ⊢
    rw [h r (List.mem_cons_self ..), this]
    rfl
def dw4 (words word calls : Nat) (m a : Option D) : Sl := [some (.ref 2), some (nD words), some (nD word), some (nD calls), m, a, none, none, none, none, none]
theorem word_ok {W : Nat} (n : Nat) (h : Hh) (words word calls : Nat) (x : Rk h) (hw : 0 < words) : ∃ (rs : List Rw) (h' : Hh), callF (Pr W) (n + 2) 12 [.ref 2, nD words, nD word, nD calls] h = .ok (wdD rs) h' ∧ Kp h h' ∧ 0 < rs.length ∧ rs.length ≤ 8 ∧ ∀ r ∈ rs, RowOk words rs.length r := by
  obtain ⟨m0, h1, e1, b1, k1⟩ := cork_nat (W := W) n h 1 7 x (by omega) (by omega)
  have l3 := k1.rk.len
  obtain ⟨h2, hh2⟩ : ∃ h2 : Hh, h2 = h1 ++ [.lst []] := ⟨_, rfl⟩
  have x2 : Rk h2 := by rw [hh2]; exact k1.rk.app
  have at2 : h2[h1.length]? = some (.lst (([] : List Rw).map rwD)) := by rw [hh2]; simp
  obtain ⟨L, h3, e3, ka, at3, ll, ok⟩ := wloop (W := W) n words word calls (m0 + 1) h1.length l3 hw (by omega) (List.range (m0 + 1)) h2 [] x2 at2 (by simp; omega) (fun r hr => by cases hr)
  have ll : L.length = m0 + 1 := by simpa using ll
  obtain ⟨t, h4, e4, b4, k4⟩ := cork_nat (W := W) n h3 13 3 ka.rk (by omega) (by omega)
  have at4 : h4[h1.length]? = some (.lst (L.map rwD)) := (k4.off _ l3).trans at3
  have len4 : h4.length = h1.length + 1 := by rw [k4.len, ka.len, hh2]; simp
  have off4 : ∀ i, 3 ≤ i → i < h.length → h4[i]? = h[i]? := fun i hi hl => by
    have l1 := k1.len
    rw [k4.off i hi, ka.off i hi (by omega), hh2, List.getElem?_append_left (by omega), k1.off i hi]
  have pre : evSs (gk W (n + 1)) (_law_word.body.take 3) (dw4 words word calls none none) h = .nx (dw4 words word calls (some (nD (m0 + 1))) (some (.ref h1.length))) h3 := by
    have rn := range_nat (m0 + 1)
    have c1 : (1 : Int) + (m0 : Int) = ((m0 + 1 : Nat) : Int) := by omega
    unfold dwd at e3
    rw [hh2] at e3
    simp only [nD] at e3
    rw [show nD = fun (k : Nat) => D.int (k : Int) from rfl, show ((m0 + 1 : Nat) : Int) = (m0 : Int) + 1 from by omega] at e3
    simp at e1
    simp only [dw4, nD, _law_word, List.take]
    simp [evSs, evS, evE, evEs, evI, e1, nD]
    rw [c1, rng1, rn]
    simp [wipeS, e3]
  have body : _law_word.body = _law_word.body.take 3 ++ _law_word.body.drop 3 := rfl
  have go : ∀ (rs : List Rw) (g : Hh), evSs (gk W (n + 1)) (_law_word.body.drop 3) (dw4 words word calls (some (nD (m0 + 1))) (some (.ref h1.length))) h3 = .ret (wdD rs) g → Rk g → g.length = h1.length + 1 → (∀ i, 3 ≤ i → i < h.length → g[i]? = h[i]?) → (∀ r ∈ rs, ∀ n, D.low n (rwD r) = true) → ∃ h', callF (Pr W) (n + 2) 12 [.ref 2, nD words, nD word, nD calls] h = .ok (wdD rs) h' ∧ Kp h h' := fun rs g e xg lg off lw => by
    obtain ⟨h', ef, kp⟩ := fin_rk (d := wdD rs) x xg (by have := k1.len; omega) off (rows_low _ lw) rfl
    refine ⟨h', ?_, kp⟩
    rw [u12]
    refine (if_pos (show [D.ref 2, nD words, nD word, nD calls].length = _law_word.np from rfl)).trans ?_
    show endF h (evSs (gk W (n + 1)) _law_word.body (dw4 words word calls none none) h) = _
    rw [body, evSs_app pre, e]
    exact ef
  simp at e4
  by_cases q : 0 < t
  · obtain ⟨h', e, kp⟩ := go (L ++ [Rw.ret]) (h4.set h1.length (.lst ((L ++ [Rw.ret]).map rwD))) (by
      have ap := put_row (r := .ret) (by omega : L.length ≤ 1000) at4
      have tp := o_tupAt (s := sub) (List.getElem?_set_self (a := C.lst ((L ++ [Rw.ret]).map rwD)) (List.getElem?_eq_some_iff.mp at4).1)
      have ck := ck_at at4
      have q1 : (0 : Int) < t := by omega
      simp [rwD, sRet] at ap
      simp [rwD, sRet] at tp
      simp [dw4, nD, _law_word, evSs, evS, evE, evEs, evT, e4, q, q1, ck]
      simp [rwD, sRet, ap, tp, wdD]) (k4.rk.set l3) (by rw [List.length_set, len4]) (fun i hi hl => by rw [List.getElem?_set_ne (by have := k1.len; omega)]; exact off4 i hi hl) (fun r hr => by
      rcases List.mem_append.mp hr with hr | hr
      · exact (ok r hr).lw
      · simp at hr; subst hr; exact (ok_ret (words := 0) (many := 0)).lw)
    refine ⟨_, h', e, kp, by simp, by simp; omega, fun r hr => ?_⟩
    rcases List.mem_append.mp hr with hr | hr
    · have o := ok r hr
      exact ⟨fun j hj => by have := o.nx j hj; simp; omega, o.call, o.few, o.lw⟩
    · simp at hr; subst hr; exact ok_ret
  · obtain ⟨h', e, kp⟩ := go L h4 (by
      have tp := o_tupAt (s := sub) at4
      have q1 : ¬ (0 : Int) < t := by omega
      simp [dw4, nD, _law_word, evSs, evS, evE, evEs, evT, e4, q, q1, tp, wdD]) k4.rk len4 off4 (fun r hr => (ok r hr).lw)
    exact ⟨_, h', e, kp, by omega, by omega, fun r hr => by rw [ll]; exact ok r hr⟩
end Lk09

namespace Lk09
open Ivy
/-- codes as they are drawn here -/
structure SC (C : Cd) : Prop where
  pos : 0 < C.length
  few : C.length ≤ 20
  ws : ∀ rs ∈ C, 0 < rs.length ∧ rs.length ≤ 200 ∧ ∀ r ∈ rs, RowOk C.length rs.length r
theorem rowsN_le : ∀ (C : Cd) (k : Nat), (∀ rs ∈ C, rs.length ≤ k) → rowsN C ≤ C.length * k
  | [], k, _ => by simp [rowsN]
  | rs :: C, k, h => by
    have a := rowsN_le C k fun q hq => h q (List.mem_cons_of_mem _ hq)
    have b := h rs (List.mem_cons_self ..)
    simp only [rowsN, List.map_cons, List.sum_cons, List.length_cons, Nat.add_mul, Nat.one_mul] at a ⊢
    omega
theorem SC.big {W : Nat} {C : Cd} (s : SC C) (hW : 2000000 ≤ W) : Big W C := by
  have l := rowsN_le C 200 fun rs h => (s.ws rs h).2.1
  have f := s.few
  refine ⟨⟨fun rs h => (s.ws rs h).1, fun rs h r hr => ((s.ws rs h).2.2 r hr).nx, fun rs h r hr => ((s.ws rs h).2.2 r hr).call, fun rs h r hr => Nat.le_trans ((s.ws rs h).2.2 r hr).few (by omega), by omega, fun rs h => Nat.le_trans (s.ws rs h).2.1 (by omega)⟩, s.pos, by omega, hW⟩
theorem SC.low {C : Cd} (s : SC C) (n : Nat) : D.low n (cdD C) = true := by
  have : ∀ X : Cd, (∀ rs ∈ X, D.low n (wdD rs) = true) → D.lowL n (X.map wdD) = true := fun X => by
    induction X with
    | nil => intro _; simp [D.lowL]
    | cons rs X ih =>
      intro h
      simp only [List.map_cons, D.lowL]
      rw [h rs (List.mem_cons_self ..), ih fun q hq => h q (List.mem_cons_of_mem _ hq)]
      rfl
  simp only [cdD, D.low]
  exact this C fun rs h => rows_low n fun r hr => ((s.ws rs h).2.2 r hr).lw
theorem comp_eq (G : G) (ks : List Nat) (t : Tg) (b : Ex) (it : Ivy.It) (δ : Sl) (h : Hh) : evE G (.comp ks t it [] b) δ h = (evI G it δ h).bind fun src h => (lpC src.gd (fun x h => match putT t x (wipeS δ ks) with
            | some δ' => (evTs G [] δ' h).bind fun k h => if k = true then (evE G b δ' h).bind fun y h => whenR (D.pers y) (.ok (some y) h) else .ok none h
            | none => .no) src.ds h).bind fun ys h => whenR (decide (ys.length ≤ cells)) (.ok (.lst ys) h) := by simp only [evE] <;> rfl
theorem ret_ok {G : G} {e : Ex} {δ : Sl} {h h' : Hh} {d : D} (he : evE G e δ h = .ok d h') : evS G (.ret e) δ h = .ret d h' := by
  simp only [evS, he]; rfl
theorem lp_words {W : Nat} (n : Nat) (words calls : Nat) (hw : 0 < words) {step : D → Hh → R (Option D)} (hs : ∀ (w : Nat) h, step (nD w) h = ((callF (Pr W) (n + 2) 12 [.ref 2, nD words, nD w, nD calls] h).bind fun d h => boxR d h).bind fun y h => whenR (D.pers y) (.ok (some y) h)) :
    ∀ (xs : List Nat) (h : Hh), Rk h → ∃ (C : Cd) (h' : Hh), C.length = xs.length ∧ (∀ rs ∈ C, 0 < rs.length ∧ rs.length ≤ 8 ∧ ∀ r ∈ rs, RowOk words rs.length r) ∧ Kp h h' ∧ lpC [] step (xs.map nD) h = .ok (C.map wdD) h'
  | [], h, x => ⟨[], h, rfl, (fun t ht => by cases ht), x.refl, rfl⟩
  | y :: ys, h, x => by
    obtain ⟨rs, h1, e, k1, p1, p2, p3⟩ := word_ok (W := W) n h words y calls x hw
    obtain ⟨C, h2, l, b, k2, e2⟩ := lp_words n words calls hw hs ys h1 k1.rk
    refine ⟨rs :: C, h2, by simp [l], fun z hz => ?_, k1.trans k2, ?_⟩
    · rcases List.mem_cons.mp hz with rfl | hz
      · exact ⟨p1, p2, p3⟩
      · exact b z hz
    · rw [List.map_cons, lpC_eq, gd_nil, hs y h, e]
      have bx : ∀ g, boxR (wdD rs) g = .ok (wdD rs) g := fun g => rfl
      have px : D.pers (wdD rs) = true := rfl
      simp only [s_wt, s_okb, bx, px, s_calm]
      rw [e2]
      rfl
theorem code_ok {W : Nat} (n : Nat) (h : Hh) (x : Rk h) : ∃ (C : Cd) (h' : Hh), callF (Pr W) (n + 3) 13 [.ref 2] h = .ok (cdD C) h' ∧ Kp h h' ∧ SC C := by
  obtain ⟨a, h1, e1, b1, k1⟩ := cork_nat (W := W) (n + 1) h 14 5 x (by omega) (by omega)
  obtain ⟨b, h2, e2, b2, k2⟩ := cork_nat (W := W) (n + 1) h1 15 3 k1.rk (by omega) (by omega)
  obtain ⟨words, w0, w1, iw⟩ : ∃ v : Nat, 0 < v ∧ v ≤ 12 ∧ ∀ g, opApp sub .idx [.tup [.int 1, .int 2, .int 3, .int 4, .int 12], .int (a : Int)] g = .ok (nD v) g := by
    have : a = 0 ∨ a = 1 ∨ a = 2 ∨ a = 3 ∨ a = 4 := by omega
    rcases this with rfl | rfl | rfl | rfl | rfl
    · exact ⟨1, by omega, by omega, fun g => by simp [nD]⟩
    · exact ⟨2, by omega, by omega, fun g => by simp [nD]⟩
    · exact ⟨3, by omega, by omega, fun g => by simp [nD]⟩
    · exact ⟨4, by omega, by omega, fun g => by simp [nD]⟩
    · exact ⟨12, by omega, by omega, fun g => by rw [nD]; rfl⟩
  obtain ⟨calls, ic⟩ : ∃ v : Nat, ∀ g, opApp sub .idx [.tup [.int 2, .int 4, .int 8], .int (b : Int)] g = .ok (nD v) g := by
    have : b = 0 ∨ b = 1 ∨ b = 2 := by omega
    rcases this with rfl | rfl | rfl
    · exact ⟨2, fun g => by simp [nD]⟩
    · exact ⟨4, fun g => by simp [nD]⟩
    · exact ⟨8, fun g => by simp [nD]⟩
  obtain ⟨C, h3, cl, cw, k3, e3⟩ := lp_words (W := W) n words calls w0 (step := fun x h => match putT (.name 3) x (wipeS [some (.ref 2), some (nD words), some (nD calls), none] [3]) with
            | some δ' => (evTs (gk W (n + 2)) [] δ' h).bind fun k h => if k = true then (evE (gk W (n + 2)) (.box (.call 12 [(.var 0), (.var 1), (.var 3), (.var 2)] [])) δ' h).bind fun y h => whenR (D.pers y) (.ok (some y) h) else .ok none h
            | none => .no) (fun w h => by simp [nD, evTs, evE, evEs, wipeS]) (List.range words) h2 k2.rk
  have cl : C.length = words := by simpa using cl
  have sc : SC C := ⟨by omega, by omega, fun rs hr => by rw [cl]; exact ⟨(cw rs hr).1, by have := (cw rs hr).2.1; omega, (cw rs hr).2.2⟩⟩
  have K := (k1.trans k2).trans k3
  obtain ⟨h', ef, kp⟩ := fin_rk (d := cdD C) x K.rk (by rw [K.len]; exact Nat.le_refl _) (fun i hi _ => K.off i hi) (sc.low _) rfl
  refine ⟨C, h', ?_, kp, sc⟩
  simp at e1 e2
  have s1 : evE (gk W (n + 2)) (.op .idx [(.op .tup [(.lit (.int 1)), (.lit (.int 2)), (.lit (.int 3)), (.lit (.int 4)), (.lit (.int 12))]), (.call 11 [(.var 0), (.lit (.int 14)), (.lit (.int 5))] [])]) [some (.ref 2), none, none, none] h = .ok (nD words) h1 := by
    simp [evE, evEs, e1, iw]
  have s2 : evE (gk W (n + 2)) (.op .idx [(.op .tup [(.lit (.int 2)), (.lit (.int 4)), (.lit (.int 8))]), (.call 11 [(.var 0), (.lit (.int 15)), (.lit (.int 3))] [])]) [some (.ref 2), some (nD words), none, none] h1 = .ok (nD calls) h2 := by
    simp [evE, evEs, e2, ic]
  have ei : evI (gk W (n + 2)) (.rng [(.var 1)]) [some (.ref 2), some (nD words), some (nD calls), none] h2 = .ok ⟨(List.range words).map nD, []⟩ h2 := by
    have rn := range_nat words
    simp [evI, evE, evEs, nD, rng1, rn]
  have s3 : evE (gk W (n + 2)) (.op .tuple [(.comp [3] (.name 3) (.rng [(.var 1)]) [] (.box (.call 12 [(.var 0), (.var 1), (.var 3), (.var 2)] [])))]) [some (.ref 2), some (nD words), some (nD calls), none] h2 = .ok (cdD C) h3 := by
    have c1 : evE (gk W (n + 2)) (.comp [3] (.name 3) (.rng [(.var 1)]) [] (.box (.call 12 [(.var 0), (.var 1), (.var 3), (.var 2)] []))) [some (.ref 2), some (nD words), some (nD calls), none] h2 = .ok (.lst (C.map wdD)) h3 := by
      rw [comp_eq, ei]
      simp only [s_okb]
      rw [e3]
      simp [cl, show words ≤ 16777216 by omega]
    have e4 : ∀ (G : G) (b : Ex) (δ : Sl) (h h' : Hh) (d : D), evE G b δ h = .ok d h' → evE G (.op .tuple [b]) δ h = opApp G.sub .tuple [d] h' := fun G b δ h h' d hd => by
      simp only [evE, evEs, hd, s_okb]
    rw [e4 _ _ _ _ _ _ c1]
    rfl
  rw [u13]
  refine (if_pos (show [D.ref 2].length = _law_code.np from rfl)).trans ?_
  show endF h (evSs (gk W (n + 2)) _law_code.body [some (.ref 2), none, none, none] h) = _
  rw [show _law_code.body = [.asg (.name 1) (.op .idx [(.op .tup [(.lit (.int 1)), (.lit (.int 2)), (.lit (.int 3)), (.lit (.int 4)), (.lit (.int 12))]), (.call 11 [(.var 0), (.lit (.int 14)), (.lit (.int 5))] [])]), .asg (.name 2) (.op .idx [(.op .tup [(.lit (.int 2)), (.lit (.int 4)), (.lit (.int 8))]), (.call 11 [(.var 0), (.lit (.int 15)), (.lit (.int 3))] [])]), .ret (.op .tuple [(.comp [3] (.name 3) (.rng [(.var 1)]) [] (.box (.call 12 [(.var 0), (.var 1), (.var 3), (.var 2)] [])))])] from rfl]
  rw [evSs_cons (δ2 := [some (.ref 2), some (nD words), none, none]) (h2 := h1) (asg_ok s1 rfl), evSs_cons (δ2 := [some (.ref 2), some (nD words), some (nD calls), none]) (h2 := h2) (asg_ok s2 rfl), evSs_ret (ret_ok s3)]
  exact ef
end Lk09

namespace Lk09
open Ivy
def dch (words : Nat) (A : Nat) (w d : Option D) (l : Option D) : Sl := [some (.ref 2), some (nD words), some (.ref A), w, d, l]
theorem put_word {g : Hh} {A : Nat} {L : Cd} {rs : List Rw} (hl : L.length ≤ 1000) (e : g[A]? = some (.lst (L.map wdD))) : opApp sub .append [.ref A, wdD rs] g = .ok .non (g.set A (.lst ((L ++ [rs]).map wdD))) := by
  rw [o_appendL e, show D.pers (wdD rs) = true from rfl, decide_eq_true (by rw [List.length_map, cells_n]; omega)]
  simp
def WdOk (words : Nat) (rs : List Rw) : Prop := 0 < rs.length ∧ rs.length ≤ 200 ∧ ∀ r ∈ rs, RowOk words rs.length r
theorem detA_ok {words c : Nat} (h : c < words) : WdOk words [.cho [1, 2], .call c 2, .ret] := ⟨by simp, by simp, fun r hr => by
  simp at hr
  rcases hr with rfl | rfl | rfl
  · exact ok_cho (fun j hj => by simp at hj ⊢; omega) (by simp)
  · exact ok_call h (by simp)
  · exact ok_ret⟩
theorem detB_ok {words c : Nat} (h : c < words) : WdOk words [.call c 1, .ret] := ⟨by simp, by simp, fun r hr => by
  simp at hr
  rcases hr with rfl | rfl
  · exact ok_call h (by simp)
  · exact ok_ret⟩
theorem chain_turn {W : Nat} (n : Nat) (h : Hh) (words A w : Nat) (L : Cd) (x : Rk h) (hA : 3 ≤ A) (hl : L.length ≤ 100) (e : h[A]? = some (.lst (L.map wdD))) (hw : w + 1 < words) :
    ∃ (rs : List Rw) (h' : Hh) (d : Option D), WdOk words rs ∧ KA A h h' ∧ h'[A]? = some (.lst ((L ++ [rs]).map wdD)) ∧ evSs (gk W (n + 1)) _law_chain_l1 (dch words A (some (nD w)) none none) h = .nx (dch words A (some (nD w)) d none) h' := by
  obtain ⟨t, h1, e1, b1, k1⟩ := cork_nat (W := W) n h 17 4 x (by omega) (by omega)
  have at1 : h1[A]? = some (.lst (L.map wdD)) := (k1.off A hA).trans e
  have ck := ck_at at1
  have K : ∀ c, KA A h (h1.set A c) := fun c => ⟨by rw [List.length_set]; exact k1.len, fun i h3 ne => by rw [List.getElem?_set_ne (Ne.symm ne)]; exact k1.off i h3, k1.rk.set hA⟩
  have lA := (List.getElem?_eq_some_iff.mp at1).1
  have go : ∀ (rs : List Rw), evE (gk W (n + 1)) (.op .idx [(.op .tup [(.op .tup [(.op .tup [(.lit (.str [99, 104, 111, 111, 115, 101])), (.op .tup [(.lit (.int 1)), (.lit (.int 2))])]), (.op .tup [(.lit (.str [99, 97, 108, 108])), (.box (.op .add [(.var 3), (.lit (.int 1))])), (.lit (.int 2))]), (.op .tup [(.lit (.str [114, 101, 116, 117, 114, 110]))])]), (.op .tup [(.op .tup [(.lit (.str [99, 97, 108, 108])), (.box (.op .add [(.var 3), (.lit (.int 1))])), (.lit (.int 1))]), (.op .tup [(.lit (.str [114, 101, 116, 117, 114, 110]))])])]), (.op .int [(.op .gt [(.call 11 [(.var 0), (.lit (.int 17)), (.lit (.int 4))] []), (.lit (.int 0))])])]) (dch words A (some (nD w)) none none) h = .ok (wdD rs) h1 → WdOk words rs → ∃ (rs : List Rw) (h' : Hh) (d : Option D), WdOk words rs ∧ KA A h h' ∧ h'[A]? = some (.lst ((L ++ [rs]).map wdD)) ∧ evSs (gk W (n + 1)) _law_chain_l1 (dch words A (some (nD w)) none none) h = .nx (dch words A (some (nD w)) d none) h' := fun rs ee ok => by
    refine ⟨rs, h1.set A (.lst ((L ++ [rs]).map wdD)), some (wdD rs), ok, K _, List.getElem?_set_self lA, ?_⟩
    have ap := put_word (rs := rs) (by omega : L.length ≤ 1000) at1
    have s2 : evS (gk W (n + 1)) (.ex (.op .append [(.ck 1 (.var 2)), (.var 4)])) (dch words A (some (nD w)) (some (wdD rs)) none) h1 = .nx (dch words A (some (nD w)) (some (wdD rs)) none) (h1.set A (.lst ((L ++ [rs]).map wdD))) := by
      simp only [dch, evS, evE, evEs]
      simp [ck]
      rw [ap]
      simp
    rw [show _law_chain_l1 = [.asg (.name 4) (.op .idx [(.op .tup [(.op .tup [(.op .tup [(.lit (.str [99, 104, 111, 111, 115, 101])), (.op .tup [(.lit (.int 1)), (.lit (.int 2))])]), (.op .tup [(.lit (.str [99, 97, 108, 108])), (.box (.op .add [(.var 3), (.lit (.int 1))])), (.lit (.int 2))]), (.op .tup [(.lit (.str [114, 101, 116, 117, 114, 110]))])]), (.op .tup [(.op .tup [(.lit (.str [99, 97, 108, 108])), (.box (.op .add [(.var 3), (.lit (.int 1))])), (.lit (.int 1))]), (.op .tup [(.lit (.str [114, 101, 116, 117, 114, 110]))])])]), (.op .int [(.op .gt [(.call 11 [(.var 0), (.lit (.int 17)), (.lit (.int 4))] []), (.lit (.int 0))])])]), .ex (.op .append [(.ck 1 (.var 2)), (.var 4)])] from rfl]
    rw [evSs_cons (δ2 := dch words A (some (nD w)) (some (wdD rs)) none) (h2 := h1) (asg_ok ee rfl), evSs_cons s2, evSs_nil]
  simp at e1
  have ib1 : ∀ g, opApp sub .int [.bl true] g = .ok (.int 1) g := fun g => rfl
  have ib0 : ∀ g, opApp sub .int [.bl false] g = .ok (.int 0) g := fun g => rfl
  by_cases q : 0 < t
  · exact go _ (by simp [dch, evE, evEs, evT, e1, nD, q, ib1, wdD, rwD, sCho, sCall, sRet]) (detB_ok hw)
  · exact go _ (by simp [dch, evE, evEs, evT, e1, nD, q, ib0, wdD, rwD, sCho, sCall, sRet]) (detA_ok hw)
theorem chain_loop {W : Nat} (n : Nat) (words A : Nat) (hA : 3 ≤ A) : ∀ (as : List Nat) (h : Hh) (L : Cd), Rk h → h[A]? = some (.lst (L.map wdD)) → L.length + as.length ≤ 100 → (∀ a ∈ as, a + 1 < words) → (∀ r ∈ L, WdOk words r) →
    ∃ (L' : Cd) (h' : Hh), lpF [] (.name 3) [3, 4] (evSs (gk W (n + 1)) _law_chain_l1) (as.map nD) (dch words A none none none) h = .nx (dch words A none none none) h' ∧ KA A h h' ∧ h'[A]? = some (.lst (L'.map wdD)) ∧ L'.length = L.length + as.length ∧ ∀ r ∈ L', WdOk words r
  | [], h, L, x, e, hl, ha, ok => ⟨L, h, by rw [List.map_nil, lpF_nil]; simp [dch, wipeS], KA.of x.refl, e, rfl, ok⟩
  | a :: as, h, L, x, e, hl, ha, ok => by
    obtain ⟨r, h1, d, ro, ka, e1, ev⟩ := chain_turn (W := W) n h words A a L x hA (by omega) e (ha a (List.mem_cons_self ..))
    obtain ⟨L', h2, e2, ka2, at2, l2, ok2⟩ := chain_loop (W := W) n words A hA as h1 (L ++ [r]) ka.rk e1 (by simp at hl ⊢; omega) (fun b hb => ha b (List.mem_cons_of_mem _ hb)) fun q hq => by
      rcases List.mem_append.mp hq with hq | hq
      · exact ok q hq
      · simp at hq; subst hq; exact ro
    refine ⟨L', h2, ?_, ka.trans ka2, at2, by simp at l2 ⊢; omega, ok2⟩
    rw [List.map_cons, lpF_go (δ1 := dch words A (some (nD a)) none none) (by simp [dch, nD_pers]) ev]
    rw [show wipeS (dch words A (some (nD a)) d none) [3, 4] = dch words A none none none from by simp [dch, wipeS]]
    exact e2
theorem chain_ok {W : Nat} (n : Nat) (h : Hh) (x : Rk h) : ∃ (C : Cd) (h' : Hh), callF (Pr W) (n + 2) 14 [.ref 2] h = .ok (cdD C) h' ∧ Kp h h' ∧ SC C := by
  obtain ⟨m0, h1, e1, b1, k1⟩ := cork_nat (W := W) n h 16 11 x (by omega) (by omega)
  have l3 := k1.rk.len
  obtain ⟨h2, hh2⟩ : ∃ h2 : Hh, h2 = h1 ++ [.lst []] := ⟨_, rfl⟩
  have x2 : Rk h2 := by rw [hh2]; exact k1.rk.app
  have at2 : h2[h1.length]? = some (.lst (([] : Cd).map wdD)) := by rw [hh2]; simp
  obtain ⟨L, h3, e3, ka, at3, ll, ok⟩ := chain_loop (W := W) n (m0 + 2) h1.length l3 (List.range (m0 + 1)) h2 [] x2 at2 (by simp; omega) (fun a ha => by have := List.mem_range.mp ha; omega) (fun r hr => by cases hr)
  have ll : L.length = m0 + 1 := by simpa using ll
  obtain ⟨t, h4, e4, b4, k4⟩ := cork_nat (W := W) n h3 18 3 ka.rk (by omega) (by omega)
  have at4 : h4[h1.length]? = some (.lst (L.map wdD)) := (k4.off _ l3).trans at3
  have len4 : h4.length = h1.length + 1 := by rw [k4.len, ka.len, hh2]; simp
  have off4 : ∀ i, 3 ≤ i → i < h.length → h4[i]? = h[i]? := fun i hi hl => by
    have l1 := k1.len
    rw [k4.off i hi, ka.off i hi (by omega), hh2, List.getElem?_append_left (by omega), k1.off i hi]
  have pre : evSs (gk W (n + 1)) (_law_chain.body.take 4) [some (.ref 2), none, none, none, none, none] h = .nx (dch (m0 + 2) h1.length none none (some (nD t))) h4 := by
    have rn := range_nat (m0 + 1)
    have c1 : (2 : Int) + (m0 : Int) = ((m0 + 2 : Nat) : Int) := by omega
    have c2 : ((m0 + 2 : Nat) : Int) - 1 = ((m0 + 1 : Nat) : Int) := by omega
    unfold dch at e3
    rw [hh2] at e3
    simp only [nD] at e3
    rw [show nD = fun (k : Nat) => D.int (k : Int) from rfl] at e3
    simp at e1 e4
    simp only [dch, nD, _law_chain, List.take]
    simp only [evSs, evS, evE, evEs, evI]
    simp [e1, -Int.natCast_add]
    rw [c1]
    simp only [s_go, s_okb, c2, rng1, rn]
    simp [wipeS, e3, e4, -Int.natCast_add]
  have body : _law_chain.body = _law_chain.body.take 4 ++ _law_chain.body.drop 4 := rfl
  have go : ∀ (rs : List Rw), evE (gk W (n + 1)) (.op .idx [(.op .tup [(.op .tup [(.op .tup [(.lit (.str [114, 101, 116, 117, 114, 110]))])]), (.op .tup [(.op .tup [(.lit (.str [99, 97, 108, 108])), (.lit (.int 0)), (.lit (.int 1))]), (.op .tup [(.lit (.str [114, 101, 116, 117, 114, 110]))])]), (.op .tup [(.op .tup [(.lit (.str [99, 97, 108, 108])), (.op .sub [(.var 1), (.lit (.int 1))]), (.lit (.int 0))])])]), (.var 5)]) (dch (m0 + 2) h1.length none none (some (nD t))) h4 = .ok (wdD rs) h4 → WdOk (m0 + 2) rs → ∃ (C : Cd) (h' : Hh), callF (Pr W) (n + 2) 14 [.ref 2] h = .ok (cdD C) h' ∧ Kp h h' ∧ SC C := fun rs ee ok5 => by
    have sc : SC (L ++ [rs]) := ⟨by simp, by simp; omega, fun q hq => by
      have e : (L ++ [rs]).length = m0 + 2 := by simp [ll]
      rw [e]
      rcases List.mem_append.mp hq with hq | hq
      · exact ok q hq
      · simp at hq; subst hq; exact ok5⟩
    obtain ⟨h5, hh5⟩ : ∃ h5 : Hh, h5 = h4.set h1.length (.lst ((L ++ [rs]).map wdD)) := ⟨_, rfl⟩
    have ap := put_word (rs := rs) (by omega : L.length ≤ 1000) at4
    rw [← hh5] at ap
    have at5 : h5[h1.length]? = some (.lst ((L ++ [rs]).map wdD)) := by rw [hh5]; exact List.getElem?_set_self (List.getElem?_eq_some_iff.mp at4).1
    have ck := ck_at at4
    have tp := o_tupAt (s := sub) at5
    obtain ⟨h', ef, kp⟩ := fin_rk (d := cdD (L ++ [rs])) x (g := h5) (by rw [hh5]; exact k4.rk.set l3) (by rw [hh5, List.length_set]; have := k1.len; omega) (fun i hi hl => by rw [hh5, List.getElem?_set_ne (by have := k1.len; omega)]; exact off4 i hi hl) (sc.low _) rfl
    refine ⟨_, h', ?_, kp, sc⟩
    rw [u14]
    refine (if_pos (show [D.ref 2].length = _law_chain.np from rfl)).trans ?_
    show endF h (evSs (gk W (n + 1)) _law_chain.body [some (.ref 2), none, none, none, none, none] h) = _
    rw [body, evSs_app pre]
    have e9 : ∀ (G : G) (b : Ex) (δ : Sl) (h h' h2 : Hh) (A : Nat) (d : D), δ[2]? = some (some (.ref A)) → ckR 1 (.ref A) h = .ok (.ref A) h → evE G b δ h = .ok d h' → opApp G.sub .append [.ref A, d] h' = .ok .non h2 → evS G (.ex (.op .append [(.ck 1 (.var 2)), b])) δ h = .nx δ h2 := fun G b δ h h' h2 A d h5 ck eb ap => by
      simp only [evS, evE, evEs, h5, s_okb, ck, eb]
      rw [ap]
      rfl
    rw [show _law_chain.body.drop 4 = [.ex (.op .append [(.ck 1 (.var 2)), (.op .idx [(.op .tup [(.op .tup [(.op .tup [(.lit (.str [114, 101, 116, 117, 114, 110]))])]), (.op .tup [(.op .tup [(.lit (.str [99, 97, 108, 108])), (.lit (.int 0)), (.lit (.int 1))]), (.op .tup [(.lit (.str [114, 101, 116, 117, 114, 110]))])]), (.op .tup [(.op .tup [(.lit (.str [99, 97, 108, 108])), (.op .sub [(.var 1), (.lit (.int 1))]), (.lit (.int 0))])])]), (.var 5)])]), .ret (.op .tuple [(.var 2)])] from rfl]
    rw [evSs_cons (e9 _ _ _ _ _ _ _ _ rfl ck ee ap), evSs_ret (ret_ok (d := cdD (L ++ [rs])) (h' := h5) (by simp only [dch, evE, evEs]; simp [tp, cdD]))]
    exact ef
  have : t = 0 ∨ t = 1 ∨ t = 2 := by omega
  rcases this with rfl | rfl | rfl
  · exact go [.ret] (by simp [dch, evE, evEs, nD, wdD, rwD, sRet]) ⟨by simp, by simp, fun r hr => by simp at hr; subst hr; exact ok_ret⟩
  · exact go [.call 0 1, .ret] (by simp [dch, evE, evEs, nD, wdD, rwD, sRet, sCall]) (detB_ok (by omega))
  · exact go [.call (m0 + 1) 0] (by simp [dch, evE, evEs, nD, wdD, rwD, sRet, sCall]; try omega) ⟨by simp, by simp, fun r hr => by simp at hr; subst hr; exact ok_call (by omega) (by simp)⟩
end Lk09

namespace Lk09
open Ivy
/-- one row of one word changed -/
def turn (C : Cd) (w : Nat) (wr : List Rw) (i : Nat) (r : Rw) : Cd := C.take w ++ [wr.take i ++ [r] ++ wr.drop (i + 1)] ++ C.drop (w + 1)
theorem turn_sc {C : Cd} {w i : Nat} {wr : List Rw} {r : Rw} (s : SC C) (hw : C[w]? = some wr) (hi : i < wr.length) (hr : RowOk C.length wr.length r) : SC (turn C w wr i r) := by
  have hl := (List.getElem?_eq_some_iff.mp hw).1
  have l1 : (turn C w wr i r).length = C.length := by
    unfold turn
    simp
    omega
  have l2 : (wr.take i ++ [r] ++ wr.drop (i + 1)).length = wr.length := by
    simp
    omega
  refine ⟨by rw [l1]; exact s.pos, by rw [l1]; exact s.few, fun rs hrs => ?_⟩
  rw [l1]
  unfold turn at hrs
  rcases List.mem_append.mp hrs with h | h
  · rcases List.mem_append.mp h with h | h
    · exact s.ws rs (List.mem_of_mem_take h)
    · simp only [List.mem_singleton] at h
      subst h
      obtain ⟨p1, p2, p3⟩ := s.ws wr (List.mem_of_getElem? hw)
      rw [l2]
      refine ⟨p1, p2, fun q hq => ?_⟩
      rcases List.mem_append.mp hq with h | h
      · rcases List.mem_append.mp h with h | h
        · exact p3 q (List.mem_of_mem_take h)
        · simp only [List.mem_singleton] at h
          subst h
          exact hr
      · exact p3 q (List.mem_of_mem_drop h)
  · exact s.ws rs (List.mem_of_mem_drop h)
theorem turn_D {C : Cd} {w i : Nat} {wr : List Rw} {r : Rw} : cdD (turn C w wr i r) = .tup ((C.map wdD).take w ++ [.tup ((wr.map rwD).take i ++ [rwD r] ++ (wr.map rwD).drop (i + 1))] ++ (C.map wdD).drop (w + 1)) := by
  simp [cdD, turn, wdD, List.map_take, List.map_drop]
theorem turned_ok {W : Nat} (n : Nat) (h : Hh) {C : Cd} (x : Rk h) (s : SC C) : ∃ (C' : Cd) (h' : Hh), callF (Pr W) (n + 2) 21 [.ref 2, cdD C] h = .ok (cdD C') h' ∧ Kp h h' ∧ SC C' := by
  have cf := s.few
  obtain ⟨w, h1, e1, b1, k1⟩ := cork_nat (W := W) n h 19 C.length x (by omega) s.pos
  obtain ⟨wr, hwr⟩ : ∃ wr, C[w]? = some wr := ⟨_, List.getElem?_eq_getElem b1⟩
  obtain ⟨p1, p2, p3⟩ := s.ws wr (List.mem_of_getElem? hwr)
  obtain ⟨i, h2, e2, b2, k2⟩ := cork_nat (W := W) n h1 20 wr.length k1.rk (by omega) p1
  obtain ⟨z, h3, e3, b3, k3⟩ := cork_nat (W := W) n h2 21 2 k2.rk (by omega) (by omega)
  have lnC : ∀ g, opApp sub .len [cdD C] g = .ok (.int (C.length : Int)) g := fun g => by
    show opApp sub .len [.tup (C.map wdD)] g = _
    rw [o_lenT, List.length_map]
  have ix : ∀ g, opApp sub .idx [cdD C, .int (w : Int)] g = .ok (wdD wr) g := fun g => by
    show opApp sub .idx [.tup (C.map wdD), .int (w : Int)] g = _
    rw [o_idxT, atP_map hwr]
  have lnW : ∀ g, opApp sub .len [wdD wr] g = .ok (.int (wr.length : Int)) g := fun g => by
    show opApp sub .len [.tup (wr.map rwD)] g = _
    rw [o_lenT, List.length_map]
  have body : _law_turned.body = _law_turned.body.take 2 ++ _law_turned.body.drop 2 := rfl
  have pre : evSs (gk W (n + 1)) (_law_turned.body.take 2) [some (.ref 2), some (cdD C), none, none, none] h = .nx [some (.ref 2), some (cdD C), some (nD w), some (nD i), none] h2 := by
    simp at e1 e2
    simp [_law_turned, evSs, evS, evE, evEs, nD, lnC, ix, lnW, e1, e2, cdD_pers]
  have last : ∀ (r : Rw) (g : Hh), RowOk C.length wr.length r → Kp h g → evE (gk W (n + 1)) (.ifx (.ex (.op .eq [(.call 11 [(.var 0), (.lit (.int 21)), (.lit (.int 2))] []), (.lit (.int 0))])) (.op .tup [(.lit (.str [114, 101, 116, 117, 114, 110]))]) (.op .tup [(.lit (.str [99, 97, 108, 108])), (.box (.call 11 [(.var 0), (.lit (.int 22)), (.op .len [(.var 1)])] [])), (.box (.call 11 [(.var 0), (.lit (.int 23)), (.op .len [(.op .idx [(.var 1), (.var 2)])])] []))])) [some (.ref 2), some (cdD C), some (nD w), some (nD i), none] h2 = .ok (rwD r) g → ∃ (C' : Cd) (h' : Hh), callF (Pr W) (n + 2) 21 [.ref 2, cdD C] h = .ok (cdD C') h' ∧ Kp h h' ∧ SC C' := fun r g hr K ee => by
    have sc := turn_sc s hwr b2 hr
    obtain ⟨h', ef, kp⟩ := fin_rk (d := cdD (turn C w wr i r)) x K.rk (by rw [K.len]; exact Nat.le_refl _) (fun i hi _ => K.off i hi) (sc.low _) rfl
    refine ⟨_, h', ?_, kp, sc⟩
    rw [u21]
    refine (if_pos (show [D.ref 2, cdD C].length = _law_turned.np from rfl)).trans ?_
    show endF h (evSs (gk W (n + 1)) _law_turned.body [some (.ref 2), some (cdD C), none, none, none] h) = _
    rw [body, evSs_app pre]
    have rr : evE (gk W (n + 1)) (.op .add [(.op .add [(.op (.slice false true) [(.var 1), (.var 2)]), (.op .tup [(.box (.op .add [(.op .add [(.op (.slice false true) [(.op .idx [(.var 1), (.var 2)]), (.var 3)]), (.op .tup [(.var 4)])]), (.op (.slice true false) [(.op .idx [(.var 1), (.var 2)]), (.op .add [(.var 3), (.lit (.int 1))])])]))])]), (.op (.slice true false) [(.var 1), (.op .add [(.var 2), (.lit (.int 1))])])]) [some (.ref 2), some (cdD C), some (nD w), some (nD i), some (rwD r)] g = .ok (cdD (turn C w wr i r)) g := by
      have c1 := cut_take (wr.map rwD) i (by rw [List.length_map]; omega)
      have c2 := cut_drop (wr.map rwD) (i + 1) (by rw [List.length_map]; omega)
      have c3 := cut_take (C.map wdD) w (by rw [List.length_map]; omega)
      have c4 := cut_drop (C.map wdD) (w + 1) (by rw [List.length_map]; omega)
      have ap_at : atP (C.map wdD) (w : Int) = some (wdD wr) := atP_map hwr
      have px : D.pers (rwD r) = true := rwD_pers r
      rw [turn_D]
      unfold cdD at *
      simp at c2 c4
      have m1 : min i wr.length = i := by omega
      have m2 : min w C.length = w := by omega
      have m5 : i + 1 + (wr.length - (i + 1)) ≤ 16777216 := by omega
      have m6 : w + 1 + (C.length - (w + 1)) ≤ 16777216 := by omega
      have m3 : i ≤ 16777215 := by omega
      have m4 : w ≤ 16777215 := by omega
      simp [evE, evEs, nD, ap_at, px, m1, m2, m3, m4, m5, m6, o_addT, c1, c2, c3, c4, wdD]
    rw [show _law_turned.body.drop 2 = [.asg (.name 4) (.ifx (.ex (.op .eq [(.call 11 [(.var 0), (.lit (.int 21)), (.lit (.int 2))] []), (.lit (.int 0))])) (.op .tup [(.lit (.str [114, 101, 116, 117, 114, 110]))]) (.op .tup [(.lit (.str [99, 97, 108, 108])), (.box (.call 11 [(.var 0), (.lit (.int 22)), (.op .len [(.var 1)])] [])), (.box (.call 11 [(.var 0), (.lit (.int 23)), (.op .len [(.op .idx [(.var 1), (.var 2)])])] []))])), .ret (.op .add [(.op .add [(.op (.slice false true) [(.var 1), (.var 2)]), (.op .tup [(.box (.op .add [(.op .add [(.op (.slice false true) [(.op .idx [(.var 1), (.var 2)]), (.var 3)]), (.op .tup [(.var 4)])]), (.op (.slice true false) [(.op .idx [(.var 1), (.var 2)]), (.op .add [(.var 3), (.lit (.int 1))])])]))])]), (.op (.slice true false) [(.var 1), (.op .add [(.var 2), (.lit (.int 1))])])])] from rfl]
    rw [evSs_cons (δ2 := [some (.ref 2), some (cdD C), some (nD w), some (nD i), some (rwD r)]) (h2 := g) (asg_ok ee (rwD_pers r)), evSs_ret (ret_ok rr)]
    exact ef
  simp at e3
  by_cases q : z = 0
  · exact last .ret h3 ok_ret ((k1.trans k2).trans k3) (by simp [evE, evEs, evT, e3, q, rwD, sRet])
  · obtain ⟨a, h4, e4, b4, k4⟩ := cork_nat (W := W) n h3 22 C.length k3.rk (by omega) s.pos
    obtain ⟨b, h5, e5, b5, k5⟩ := cork_nat (W := W) n h4 23 wr.length k4.rk (by omega) p1
    simp at e4 e5
    exact last (.call a b) h5 (ok_call b4 b5) ((((k1.trans k2).trans k3).trans k4).trans k5) (by simp [evE, evEs, evT, e3, q, rwD, sCall, nD, lnC, ix, lnW, e4, e5])
end Lk09

namespace Lk09
open Ivy
def dlr (ns : List Int) (st : Int) (a c : Option D) : Sl := [some (.rol (ns.map .int)), some (.ref 0), some (.int st), a, c]
theorem rack_loop {W : Nat} (n : Nat) (ns : List Int) : ∀ (as : List Nat) (cs : List Int) (st : Int), (∀ a ∈ as, a < ns.length) → 0 < cs.length → (∀ c ∈ cs, 0 ≤ c ∧ c < 1299709) → 0 ≤ st ∧ st < 2147483249 → cs.length + 2 * as.length ≤ 1000 →
    ∃ (cs' : List Int) (st' : Int), lpF [] (.name 3) [3, 4] (evSs (gk W n) _law_rack_l1) (as.map nD) (dlr ns st none none) [.lst (cs.map .int)] = .nx (dlr ns st' none none) [.lst (cs'.map .int)] ∧ 0 < cs'.length ∧ (∀ c ∈ cs', 0 ≤ c ∧ c < 1299709) ∧ (0 ≤ st' ∧ st' < 2147483249) ∧ cs'.length ≤ 1000
  | [], cs, st, _, h1, h2, h3, h4 => ⟨cs, st, by rw [List.map_nil, lpF_nil]; simp [dlr, wipeS], h1, h2, h3, by simpa using h4⟩
  | a :: as, cs, st, ha, h1, h2, h3, h4 => by
    have al := ha a (List.mem_cons_self ..)
    obtain ⟨z, hz⟩ : ∃ z, ns[a]? = some z := ⟨_, List.getElem?_eq_getElem al⟩
    have ap : atP (ns.map D.int) (a : Int) = some (.int z) := atP_map hz
    obtain ⟨c, hc⟩ : ∃ c : Int, c = (if z < 0 then -z else z) % 10000000000000000000000 := ⟨_, rfl⟩
    obtain ⟨s2, hs2⟩ : ∃ s2 : Int, s2 = (st * 65539 + c + 2 * (a : Int) + (if z < 0 then 1 else 0)) % 2147483249 := ⟨_, rfl⟩
    obtain ⟨x1, hx1⟩ : ∃ x : Int, x = c % 1299709 := ⟨_, rfl⟩
    obtain ⟨x2, hx2⟩ : ∃ x : Int, x = c / 1299709 % 1299709 := ⟨_, rfl⟩
    have turn : evSs (gk W n) _law_rack_l1 (dlr ns st (some (nD a)) none) [.lst (cs.map .int)] = .nx (dlr ns s2 (some (nD a)) (some (.int c))) [.lst ((cs ++ [x1, x2]).map .int)] := by
      have k1 : mulOk st 65539 = true := mul_small (.inr (by decide))
      have k2 : mulOk 2 (a : Int) = true := mul_small (.inl (by decide))
      have bd : (1299709 : Nat) < bigD := small_bigD (x := 1299709) (by decide)
      have pw : ∀ g, opApp sub .pow [.int 10, .int 22] g = .ok (.int 10000000000000000000000) g := fun g => rfl
      have irol : ∀ g, opApp sub .idx [.rol (ns.map .int), .int (a : Int)] g = .ok (.int z) g := fun g => by
        show opIdx g (.rol (ns.map .int)) (.int (a : Int)) = _
        unfold opIdx
        simp [dcD, sqD, lsD, ap]
      have ib1 : ∀ g, opApp sub .int [.bl true] g = .ok (.int 1) g := fun g => rfl
      have ib0 : ∀ g, opApp sub .int [.bl false] g = .ok (.int 0) g := fun g => rfl
      have e : ([C.lst (cs.map .int)] : Hh)[0]? = some (.lst (cs.map .int)) := rfl
      have ex := o_extendL (s := sub) (ys := [D.int x1, .int x2]) e
      have ck := ck_at e
      rw [decide_eq_true (by rw [List.length_map, cells_n]; simp at h4 ⊢; omega)] at ex
      simp at ex
      by_cases q : z < 0
      · have q' : decide (z < 0) = true := decide_eq_true q
        simp [q] at hs2 hc
        simp [dlr, _law_rack_l1, evSs, evS, evE, evEs, evT, nD, irol, pw, fmod_pos (show (0 : Int) < 10000000000000000000000 by decide), ← hc, fmod_pos (show (0 : Int) < 1299709 by decide), fdiv_pos (show (0 : Int) < 1299709 by decide), ← hx1, ← hx2, bd, ck, ex, k1, k2, q, q', ib1, fmod_pos (show (0 : Int) < 2147483249 by decide), ← hs2]
      · have q' : decide (z < 0) = false := decide_eq_false q
        simp [q] at hs2 hc
        simp [dlr, _law_rack_l1, evSs, evS, evE, evEs, evT, nD, irol, pw, fmod_pos (show (0 : Int) < 10000000000000000000000 by decide), ← hc, fmod_pos (show (0 : Int) < 1299709 by decide), fdiv_pos (show (0 : Int) < 1299709 by decide), ← hx1, ← hx2, bd, ck, ex, k1, k2, q, q', ib0, fmod_pos (show (0 : Int) < 2147483249 by decide), ← hs2]
    obtain ⟨cs', st', e, r⟩ := rack_loop (W := W) n ns as (cs ++ [x1, x2]) s2 (fun b hb => ha b (List.mem_cons_of_mem _ hb)) (by simp) (fun y hy => by
      rcases List.mem_append.mp hy with hy | hy
      · exact h2 y hy
      · simp at hy
        rcases hy with rfl | rfl <;> omega) (by omega) (by simp at h4 ⊢; omega)
    refine ⟨cs', st', ?_, r⟩
    rw [List.map_cons, lpF_go (δ1 := dlr ns st (some (nD a)) none) (by simp [dlr, nD_pers]) turn]
    rw [show wipeS (dlr ns s2 (some (nD a)) (some (.int c))) [3, 4] = dlr ns s2 none none from by simp [dlr, wipeS]]
    exact e
theorem rack_ok {W : Nat} (n : Nat) (ns : List Int) : ∃ (h : Hh) (d : D), Rk h ∧ h.length = 3 ∧ callF (Pr W) (n + 1) 10 [.rol (ns.map .int)] [] = .ok d (h.take 2) ∧ boxR d (h.take 2) = .ok (.ref 2) h := by
  obtain ⟨cs, st, e, c1, c2, c3, c4⟩ := rack_loop (W := W) n ns (List.range (min 44 ns.length)) [909] 99 (fun a ha => by have := List.mem_range.mp ha; omega) (by simp) (fun c hc => by simp at hc; omega) (by omega) (by simp; omega)
  refine ⟨[.lst (cs.map .int), .dct [], .dct (rkD st 0)], .dct (rkD st 0), ⟨cs, [], st, 0, rfl, rfl, rfl, c1, c2, c4, ⟨by simp, by simp, by simp⟩, c3, by omega⟩, rfl, ?_, rfl⟩
  have rn := range_nat (min 44 ns.length)
  have mn : ∀ g, opApp sub .min2 [.int 44, .int (ns.length : Int)] g = .ok (.int ((min 44 ns.length : Nat) : Int)) g := fun g => by
    show (.ok (.int (if (ns.length : Int) < 44 then (ns.length : Int) else 44)) g : R D) = _
    congr 2
    split <;> omega
  have lnr : ∀ g, opApp sub .len [.rol (ns.map .int)] g = .ok (.int (ns.length : Int)) g := fun g => by
    show (.ok (.int ((ns.map D.int).length : Int)) g : R D) = _
    rw [List.length_map]
  have od0 : ∀ g, opApp sub .dict [] g = .ok (.dct []) g := fun g => rfl
  have od : ∀ g, opApp sub .dict [.str [99, 111, 114, 107, 115], .ref 0, .str [115, 116, 105, 114], .int st, .str [116, 117, 114, 110], .int 0, .str [109, 111, 111, 100], .ref 1] g = .ok (.dct (rkD st 0)) g := fun g => rfl
  rw [u10]
  refine (if_pos (show [D.rol (ns.map .int)].length = _law_rack.np from rfl)).trans ?_
  show endF [] (evSs (gk W n) _law_rack.body [some (.rol (ns.map .int)), none, none, none, none] []) = _
  unfold dlr at e
  rw [show nD = fun (k : Nat) => D.int (k : Int) from rfl] at e
  simp at e
  simp [_law_rack, evSs, evS, evE, evEs, evI, lnr, mn, rng1, rn, wipeS, e, od0, od]
  rfl
end Lk09

namespace Lk09
open Ivy
def wfB (C : Cd) : Bool := decide (C.length ≤ 1000) && C.all fun rs => decide (0 < rs.length) && (decide (rs.length ≤ 1000) && rs.all fun r => (r.nx.all fun j => decide (j < rs.length)) && (decide (r.nx.length ≤ 1000) && (match r with
  | .call c _ => decide (c < C.length)
  | _ => true)))
theorem wf_of {C : Cd} (h : wfB C = true) : WF C := by
  unfold wfB at h
  rw [Bool.and_eq_true] at h
  obtain ⟨h1, h2⟩ := h
  have k : ∀ rs ∈ C, 0 < rs.length ∧ rs.length ≤ 1000 ∧ ∀ r ∈ rs, (∀ j ∈ r.nx, j < rs.length) ∧ r.nx.length ≤ 1000 ∧ (match r with
    | .call c _ => decide (c < C.length)
    | _ => true) = true := fun rs hr => by
    have a := List.all_eq_true.mp h2 rs hr
    rw [Bool.and_eq_true, Bool.and_eq_true] at a
    refine ⟨of_decide_eq_true a.1, of_decide_eq_true a.2.1, fun r hq => ?_⟩
    have b := List.all_eq_true.mp a.2.2 r hq
    rw [Bool.and_eq_true, Bool.and_eq_true] at b
    exact ⟨fun j hj => of_decide_eq_true (List.all_eq_true.mp b.1 j hj), of_decide_eq_true b.2.1, b.2.2⟩
  exact ⟨fun rs hr => (k rs hr).1, fun rs hr r hq => ((k rs hr).2.2 r hq).1, fun rs hr r hq c n e => by
    have := ((k rs hr).2.2 r hq).2.2
    subst e
    exact of_decide_eq_true this, fun rs hr r hq => ((k rs hr).2.2 r hq).2.1, of_decide_eq_true h1, fun rs hr => (k rs hr).2.1⟩
def ntD (l : List Nat) : D := .tup (l.map nD)
def nnD (l : List (List Nat)) : D := .tup (l.map ntD)
structure HR where
  C : Cd
  er : List (List Nat)
  lo : List Nat
  me : List (List Nat)
  ne : List (List Nat)
def hrD (r : HR) : D := .tup [cdD r.C, nnD r.er, ntD r.lo, nnD r.me, nnD r.ne]
def okB : R D → D → Bool
  | .ok d' [], d => D.beq d' d
  | _, _ => false
theorem ok_of {r : R D} {d : D} (h : okB r d = true) : r = .ok d [] := by
  cases r with
  | ok d' g =>
    cases g with
    | nil =>
      have h : D.beq d' d = true := h
      rw [D.beq_eq _ _ h]
    | cons _ _ => cases h
  | err _ _ _ => cases h
  | no => cases h
structure HOk (r : HR) : Prop where
  wf : wfB r.C = true
  sz : (decide (0 < r.C.length) && decide (rowsN r.C ≤ 4000)) = true
  e3 : okB (callF (Pr 5000) 4 3 [cdD r.C] []) (nnD r.er) = true
  e4 : okB (callF (Pr 5000) 4 4 [cdD r.C] []) (ntD r.lo) = true
  e7 : ((List.range r.C.length).all fun w => okB (callF (Pr 5000) 4 7 [cdD r.C, nD w] []) (ntD (r.me.getD w []))) = true
  e9 : ((List.range r.C.length).all fun w => okB (callF (Pr 5000) 5 9 [cdD r.C, nD w] []) (ntD (r.ne.getD w []))) = true
  lm : r.me.length = r.C.length
  ln : r.ne.length = r.C.length
  l1 : (decide (r.er.length ≤ 1000) && decide (r.lo.length ≤ 1000) && r.er.all (fun m => decide (m.length ≤ 1000)) && r.me.all (fun m => decide (m.length ≤ 1000)) && r.ne.all (fun m => decide (m.length ≤ 1000))) = true
def f1 : Rw := .deed (.tup [.int 0, .int 1, .int 1, .int 1]) 1
def hr1 : HR := ⟨[[.call 0 1, .ret]], [[1]], [0], [[0]], [[0]]⟩
def hr2 : HR := ⟨[[.cho [0, 0], .ret]], [[1]], [0], [[0]], [[0]]⟩
def hr3 : HR := ⟨[[.cho [0, 1], .ret]], [[0, 1]], [], [[0, 1]], [[0]]⟩
def hr4 : HR := ⟨[[.call 1 1, .ret], [.call 0 1, .ret]], [[1], [1]], [0, 1], [[0], [0]], [[0], [1]]⟩
def hr5 : HR := ⟨[[.cho [1, 3], .call 1 2, .call 2 3, .ret], [.call 1 1, .ret], [.ret]], [[0, 2, 3], [1], [0]], [1], [[0, 1, 3], [0], [0]], [[0], [1], [2]]⟩
def hr6 : HR := ⟨[[.cho [1, 2], .call 0 2, .ret]], [[0, 1, 2]], [], [[0, 1, 2]], [[0]]⟩
def hr7 : HR := ⟨[[f1, .call 1 2, .ret], [.cho [1, 2], .call 2 2, .ret], [.ret, .call 0 0]], [[0, 1, 2], [0, 1, 2], [0, 1]], [], [[0, 1, 2], [0, 1, 2], [0]], [[0, 1, 2], [1, 2], [2]]⟩
def hr8 : HR := ⟨[[f1, .cho [0, 0], .call 1 3, .ret], [.ret]], [[2, 3], [0]], [0], [[0, 1], [0]], [[0], [1]]⟩
theorem hk1 : HOk hr1 := ⟨by decide +kernel, by decide +kernel, by decide +kernel, by decide +kernel, by decide +kernel, by decide +kernel, rfl, rfl, by decide +kernel⟩
theorem hk2 : HOk hr2 := ⟨by decide +kernel, by decide +kernel, by decide +kernel, by decide +kernel, by decide +kernel, by decide +kernel, rfl, rfl, by decide +kernel⟩
theorem hk3 : HOk hr3 := ⟨by decide +kernel, by decide +kernel, by decide +kernel, by decide +kernel, by decide +kernel, by decide +kernel, rfl, rfl, by decide +kernel⟩
theorem hk4 : HOk hr4 := ⟨by decide +kernel, by decide +kernel, by decide +kernel, by decide +kernel, by decide +kernel, by decide +kernel, rfl, rfl, by decide +kernel⟩
theorem hk5 : HOk hr5 := ⟨by decide +kernel, by decide +kernel, by decide +kernel, by decide +kernel, by decide +kernel, by decide +kernel, rfl, rfl, by decide +kernel⟩
theorem hk6 : HOk hr6 := ⟨by decide +kernel, by decide +kernel, by decide +kernel, by decide +kernel, by decide +kernel, by decide +kernel, rfl, rfl, by decide +kernel⟩
theorem hk7 : HOk hr7 := ⟨by decide +kernel, by decide +kernel, by decide +kernel, by decide +kernel, by decide +kernel, by decide +kernel, rfl, rfl, by decide +kernel⟩
theorem hk8 : HOk hr8 := ⟨by decide +kernel, by decide +kernel, by decide +kernel, by decide +kernel, by decide +kernel, by decide +kernel, rfl, rfl, by decide +kernel⟩
def hrs : List HR := [hr1, hr2, hr3, hr4, hr5, hr6, hr7, hr8]
theorem hks : ∀ r ∈ hrs, HOk r := fun r hr => by
  simp only [hrs, List.mem_cons, List.not_mem_nil, or_false] at hr
  rcases hr with rfl | rfl | rfl | rfl | rfl | rfl | rfl | rfl
  · exact hk1
  · exact hk2
  · exact hk3
  · exact hk4
  · exact hk5
  · exact hk6
  · exact hk7
  · exact hk8
theorem hand_pre {W n : Nat} (c0 c1 c2 : C) : evSs (gk W n) (_law_hand.body.take 11) (List.replicate 13 none) [c0, c1, c2] = .nx [some (rwD f1), some (rwD .ret), some (.ref 5), some (cdD hr7.C), none, none, none, none, none, none, none, none, none] [c0, c1, c2, .lst ([hr1].map hrD), .lst ([hr1, hr2].map hrD), .lst (hrs.map hrD)] := rfl
end Lk09

namespace Lk09
open Ivy
structure HF (W : Nat) (r : HR) : Prop where
  few : r.C.length ≤ 1000
  e3 : ∀ kk h, callF (Pr W) (kk + 4) 3 [cdD r.C] h = .ok (nnD r.er) h
  e4 : ∀ kk h, callF (Pr W) (kk + 4) 4 [cdD r.C] h = .ok (ntD r.lo) h
  e7 : ∀ kk h w, w < r.C.length → callF (Pr W) (kk + 4) 7 [cdD r.C, nD w] h = .ok (ntD (r.me.getD w [])) h
  e9 : ∀ kk h w, w < r.C.length → callF (Pr W) (kk + 5) 9 [cdD r.C, nD w] h = .ok (ntD (r.ne.getD w [])) h
  sm : ∀ n h, callF (Pr W) (n + 4) 19 [.tup [nnD r.er, ntD r.lo, nnD r.me, nnD r.ne], .tup [nnD r.er, ntD r.lo, nnD r.me, nnD r.ne]] h = .ok (.bl true) h
theorem ok_inj {a b : D} {g g' : Hh} (h : (R.ok a g : R D) = .ok b g') : a = b := by cases h; rfl
theorem hf_of {W : Nat} {r : HR} (k : HOk r) (hW : 2000000 ≤ W) : HF W r := by
  have wf := wf_of k.wf
  have sz := k.sz
  rw [Bool.and_eq_true] at sz
  have p0 := of_decide_eq_true sz.1
  have p1 := of_decide_eq_true sz.2
  have l1 := k.l1
  rw [Bool.and_eq_true, Bool.and_eq_true, Bool.and_eq_true, Bool.and_eq_true] at l1
  obtain ⟨⟨⟨⟨a1, a2⟩, a3⟩, a4⟩, a5⟩ := l1
  have few := wf.few
  have lm := k.lm
  have ln := k.ln
  have nn : ∀ (ls : List (List Nat)), ls.length ≤ 1000 → (ls.all fun m => decide (m.length ≤ 1000)) = true → ∀ n, D.pers (nnD ls) = true ∧ (∀ g, boxR (nnD ls) g = .ok (nnD ls) g) ∧ ∀ g, callF (Pr W) (n + 3) 19 [nnD ls, nnD ls] g = .ok (.bl true) g := fun ls hl ha n => ⟨rfl, fun _ => rfl, fun g => same_tup (n + 2) _ g (by rw [List.length_map]; omega) fun d hd => by
    obtain ⟨m, hmm, rfl⟩ := List.mem_map.mp hd
    exact ⟨rfl, fun _ => rfl, fun g => same_nats n _ g (by have := of_decide_eq_true (List.all_eq_true.mp ha m hmm); omega)⟩⟩
  refine ⟨few, fun kk h => ?_, fun kk h => ?_, fun kk h w hw => ?_, fun kk h w hw => ?_, fun n h => ?_⟩
  · obtain ⟨M, lf, e⟩ := ended_rows_ok (W := W) kk h wf p0 (by omega)
    obtain ⟨M', lf', e'⟩ := ended_rows_ok (W := 5000) 0 [] wf p0 (by omega)
    have q := lfp_uniq lf lf'
    subst q
    rw [ok_of k.e3] at e'
    rw [e, ok_inj e']
  · obtain ⟨M, lf, e⟩ := lost_ok (W := W) kk h wf p0 (by omega)
    obtain ⟨M', lf', e'⟩ := lost_ok (W := 5000) 0 [] wf p0 (by omega)
    have q := lfp_uniq lf lf'
    subst q
    rw [ok_of k.e4] at e'
    rw [e, ok_inj e']
  · obtain ⟨wr, hwr⟩ : ∃ wr, r.C[w]? = some wr := ⟨_, List.getElem?_eq_getElem hw⟩
    obtain ⟨M, L, lf, c, e⟩ := met_rows_ok (W := W) kk h wf hwr (by omega) (by omega)
    obtain ⟨M', L', lf', c', e'⟩ := met_rows_ok (W := 5000) 0 [] wf hwr (by omega) (by omega)
    have q := lfp_uniq lf lf'
    subst q
    rw [ok_of (List.all_eq_true.mp k.e7 w (List.mem_range.mpr hw))] at e'
    rw [e, cl_sort c c', ok_inj e']
  · obtain ⟨M, L, lf, c, e⟩ := needed_words_ok (W := W) kk h wf hw (by omega) (by omega)
    obtain ⟨M', L', lf', c', e'⟩ := needed_words_ok (W := 5000) 0 [] wf hw (by omega) (by omega)
    have q := lfp_uniq lf lf'
    subst q
    rw [ok_of (List.all_eq_true.mp k.e9 w (List.mem_range.mpr hw))] at e'
    rw [e, cl_sort c c', ok_inj e']
  · refine same_tup (n + 3) _ h (by simp) fun d hd => ?_
    simp only [List.mem_cons, List.not_mem_nil, or_false] at hd
    rcases hd with rfl | rfl | rfl | rfl
    · exact nn _ (of_decide_eq_true a1) a3 n
    · exact ⟨rfl, fun _ => rfl, fun g => same_nats (n + 1) _ g (by have := of_decide_eq_true a2; omega)⟩
    · exact nn _ (by omega) a4 n
    · exact nn _ (by omega) a5 n
theorem getD_map (ls : List (List Nat)) : (List.range ls.length).map (fun w => ntD (ls.getD w [])) = ls.map ntD := by
  refine List.ext_getElem (by simp) fun i h1 h2 => ?_
  simp at h1 h2
  simp [List.getD, h2]
def dhd (a b t : D) (A : Nat) (x y z u v w9 w10 w12 : Option D) : Sl := [some a, some b, some (.ref A), some t, x, y, z, u, v, w9, w10, none, w12]
def dh9 (a b t : D) (A : Nat) (r : HR) (w9 w10 w11 w12 : Option D) : Sl := [some a, some b, some (.ref A), some t, some (cdD r.C), some (nnD r.er), some (ntD r.lo), some (nnD r.me), some (nnD r.ne), w9, w10, w11, w12]
theorem hand_comp {W : Nat} (n f : Nat) (r : HR) (ls : List (List Nat)) (a b t : D) (A m : Nat) (g : Hh) (at2 : g[m]? = some (.lst ((List.range r.C.length).map nD))) (few : r.C.length ≤ 1000) (ll : ls.length = r.C.length) (e : ∀ w, w < r.C.length → callF (Pr W) n f [cdD r.C, nD w] g = .ok (ntD (ls.getD w [])) g) :
    evE (gk W n) (.op .tuple [(.comp [11] (.name 11) (.seq (.var 9)) [] (.box (.call f [(.var 4), (.var 11)] [])))]) (dh9 a b t A r (some (.ref m)) none none none) g = .ok (nnD ls) g := by
  have c1 : evE (gk W n) (.comp [11] (.name 11) (.seq (.var 9)) [] (.box (.call f [(.var 4), (.var 11)] []))) (dh9 a b t A r (some (.ref m)) none none none) g = .ok (.lst (ls.map ntD)) g := by
    have ei : evI (gk W n) (.seq (.var 9)) (dh9 a b t A r (some (.ref m)) none none none) g = .ok ⟨(List.range r.C.length).map nD, [(m, .lst ((List.range r.C.length).map nD))]⟩ g := by
      simp [dh9, evI, evE, srcD_at at2]
    have lp := lpC_map (step := fun x h => match putT (.name 11) x (wipeS (dh9 a b t A r (some (.ref m)) none none none) [11]) with
            | some δ' => (evTs (gk W n) [] δ' h).bind fun k h => if k = true then (evE (gk W n) (.box (.call f [(.var 4), (.var 11)] [])) δ' h).bind fun y h => whenR (D.pers y) (.ok (some y) h) else .ok none h
            | none => .no) (gd_one at2) nD (fun w => ntD (ls.getD w [])) (List.range r.C.length) (fun w hw => by
      have ew := e w (List.mem_range.mp hw)
      have bx : ∀ l : List Nat, boxR (ntD l) g = .ok (ntD l) g := fun l => rfl
      have px : ∀ l : List Nat, D.pers (ntD l) = true := fun l => rfl
      simp only [nD] at ew
      simp [dh9, evTs, evE, evEs, wipeS, nD, cdD_pers, ew, bx, px])
    rw [comp_eq, ei]
    simp only [s_okb]
    refine (congrArg (fun (r : R (List D)) => R.bind r fun ys h => whenR (decide (ys.length ≤ cells)) (R.ok (D.lst ys) h)) lp).trans ?_
    simp only [s_okb]
    rw [← ll, getD_map, decide_eq_true (by rw [List.length_map, cells_n]; omega)]
    rfl
  have e4 : ∀ (G : G) (b : Ex) (δ : Sl) (h h' : Hh) (d : D), evE G b δ h = .ok d h' → evE G (.op .tuple [b]) δ h = opApp G.sub .tuple [d] h' := fun G b δ h h' d hd => by
    simp only [evE, evEs, hd, s_okb]
  rw [e4 _ _ _ _ _ _ c1]
  rfl
theorem hand_turn {W : Nat} (kk : Nat) (r : HR) (k : HOk r) (x : HF W r) (a b t : D) (A : Nat) (g : Hh) : ∃ (g' : Hh) (w9 w10 w12 : Option D), Grow g g' ∧ evSs (gk W (kk + 5)) _law_hand_l1 (dh9 a b t A r none none none none) g = .nx (dh9 a b t A r w9 w10 none w12) g' := by
  have few := x.few
  obtain ⟨g2, hg2⟩ : ∃ g2 : Hh, g2 = g ++ [.lst ((List.range r.C.length).map nD)] := ⟨_, rfl⟩
  have gr2 : Grow g g2 := by rw [hg2]; exact Grow.app _
  have at2 : g2[g.length]? = some (.lst ((List.range r.C.length).map nD)) := by rw [hg2]; simp
  have s1 : evS (gk W (kk + 5)) (.asg (.name 9) (.box (.op .listRng [(.op .len [(.var 4)])]))) (dh9 a b t A r none none none none) g = .nx (dh9 a b t A r (some (.ref g.length)) none none none) g2 := by
    have ln : ∀ g, opApp sub .len [cdD r.C] g = .ok (.int (r.C.length : Int)) g := fun g => by
      show opApp sub .len [.tup (r.C.map wdD)] g = _
      rw [o_lenT, List.length_map]
    have lr : ∀ g, opApp sub .listRng [.int (r.C.length : Int)] g = .ok (.lst ((List.range r.C.length).map nD)) g := fun g => by
      have rn : rngS [.int (r.C.length : Int)] = some ⟨(List.range r.C.length).map nD, []⟩ := by rw [rng1, range_nat]; rfl
      show (match rngS [.int (r.C.length : Int)] with
        | some s => whenR (decide (s.ds.length ≤ cells) && [D.int (r.C.length : Int)].all smallD) (.ok (.lst s.ds) g)
        | none => .no : R D) = _
      rw [rn]
      have a1 : smallD (.int (r.C.length : Int)) = true := by
        unfold smallD
        exact decide_eq_true (by omega)
      simp [a1, show r.C.length ≤ 16777216 by omega]
    simp [dh9, evS, evE, evEs, ln, lr, ← hg2]
  have c7 := hand_comp (W := W) (kk + 5) 7 r r.me a b t A g.length g2 at2 few k.lm fun w hw => x.e7 (kk + 1) g2 w hw
  have c9 := hand_comp (W := W) (kk + 5) 9 r r.ne a b t A g.length g2 at2 few k.ln fun w hw => x.e9 kk g2 w hw
  have tu : evE (gk W (kk + 5)) (.op .tup [(.op .tuple [(.comp [11] (.name 11) (.seq (.var 9)) [] (.box (.call 7 [(.var 4), (.var 11)] [])))]), (.op .tuple [(.comp [11] (.name 11) (.seq (.var 9)) [] (.box (.call 9 [(.var 4), (.var 11)] [])))])]) (dh9 a b t A r (some (.ref g.length)) none none none) g2 = .ok (.tup [nnD r.me, nnD r.ne]) g2 := by
    have e2 : ∀ (G : G) (b c : Ex) (δ : Sl) (h : Hh) (d d2 : D), evE G b δ h = .ok d h → evE G c δ h = .ok d2 h → evE G (.op .tup [b, c]) δ h = opApp G.sub .tup [d, d2] h := fun G b c δ h d d2 hd hc => by
      rw [show evE G (.op .tup [b, c]) δ h = (evEs G [b, c] δ h).bind fun ds h => opApp G.sub .tup ds h from by simp only [evE]]
      simp only [evEs, hd, hc, s_okb]
    rw [e2 _ _ _ _ _ _ _ c7 c9]
    rfl
  have s3 : evS (gk W (kk + 5)) (.asg (.name 12) (.box (.op .add [(.op .tup [(.box (.call 3 [(.var 4)] [])), (.box (.call 4 [(.var 4)] []))]), (.var 10)]))) (dh9 a b t A r (some (.ref g.length)) (some (.tup [nnD r.me, nnD r.ne])) none none) g2 = .nx (dh9 a b t A r (some (.ref g.length)) (some (.tup [nnD r.me, nnD r.ne])) none (some (.tup [nnD r.er, ntD r.lo, nnD r.me, nnD r.ne]))) g2 := by
    have b1 : ∀ l g, boxR (nnD l) g = .ok (nnD l) g := fun _ _ => rfl
    have b2 : ∀ l g, boxR (ntD l) g = .ok (ntD l) g := fun _ _ => rfl
    have p1 : ∀ l, D.pers (nnD l) = true := fun _ => rfl
    have p2 : ∀ l, D.pers (ntD l) = true := fun _ => rfl
    have e3 := x.e3 (kk + 1) g2
    have e4 := x.e4 (kk + 1) g2
    simp [dh9, evS, evE, evEs, cdD_pers, e3, e4, b1, b2, p1, p2, o_addT]
  have s4 : evS (gk W (kk + 5)) (.ite (.not (.ex (.call 19 [(.var 12), (.op .tup [(.var 5), (.var 6), (.var 7), (.var 8)])] []))) [.ret (.lit (.bl false))] []) (dh9 a b t A r (some (.ref g.length)) (some (.tup [nnD r.me, nnD r.ne])) none (some (.tup [nnD r.er, ntD r.lo, nnD r.me, nnD r.ne]))) g2 = .nx (dh9 a b t A r (some (.ref g.length)) (some (.tup [nnD r.me, nnD r.ne])) none (some (.tup [nnD r.er, ntD r.lo, nnD r.me, nnD r.ne]))) g2 := by
    have p1 : ∀ l, D.pers (nnD l) = true := fun _ => rfl
    have p2 : ∀ l, D.pers (ntD l) = true := fun _ => rfl
    have e := x.sm (kk + 1) g2
    simp [dh9, evSs, evS, evE, evEs, evT, e, p1, p2]
  refine ⟨g2, some (.ref g.length), some (.tup [nnD r.me, nnD r.ne]), some (.tup [nnD r.er, ntD r.lo, nnD r.me, nnD r.ne]), gr2, ?_⟩
  rw [show _law_hand_l1 = [.asg (.name 9) (.box (.op .listRng [(.op .len [(.var 4)])])), .asg (.name 10) (.op .tup [(.op .tuple [(.comp [11] (.name 11) (.seq (.var 9)) [] (.box (.call 7 [(.var 4), (.var 11)] [])))]), (.op .tuple [(.comp [11] (.name 11) (.seq (.var 9)) [] (.box (.call 9 [(.var 4), (.var 11)] [])))])]), .asg (.name 12) (.box (.op .add [(.op .tup [(.box (.call 3 [(.var 4)] [])), (.box (.call 4 [(.var 4)] []))]), (.var 10)])), .ite (.not (.ex (.call 19 [(.var 12), (.op .tup [(.var 5), (.var 6), (.var 7), (.var 8)])] []))) [.ret (.lit (.bl false))] []] from rfl]
  rw [evSs_cons s1, evSs_cons (δ2 := dh9 a b t A r (some (.ref g.length)) (some (.tup [nnD r.me, nnD r.ne])) none none) (h2 := g2) (asg_ok tu rfl), evSs_cons s3, evSs_cons s4, evSs_nil]
theorem hand_loop {W : Nat} (kk : Nat) (hW : 2000000 ≤ W) (a b t : D) (A : Nat) (full : List D) : ∀ (rs : List HR) (g : Hh), (∀ r ∈ rs, HOk r) → g[A]? = some (.lst full) →
    ∃ g', Grow g g' ∧ lpF [(A, .lst full)] (.tup [(.name 4), (.name 5), (.name 6), (.name 7), (.name 8)]) [4, 5, 6, 7, 8, 9, 10, 11, 12] (evSs (gk W (kk + 5)) _law_hand_l1) (rs.map hrD) [some a, some b, some (.ref A), some t, none, none, none, none, none, none, none, none, none] g = .nx [some a, some b, some (.ref A), some t, none, none, none, none, none, none, none, none, none] g'
  | [], g, _, e => ⟨g, Grow.refl, by rw [List.map_nil, lpG_nil (gd_one e)]; simp [wipeS]⟩
  | r :: rs, g, hk, e => by
    have k := hk r (List.mem_cons_self ..)
    obtain ⟨g2, w9, w10, w12, gr, ev⟩ := hand_turn (W := W) kk r k (hf_of k hW) a b t A g
    obtain ⟨g3, gr3, e3⟩ := hand_loop kk hW a b t A full rs g2 (fun q hq => hk q (List.mem_cons_of_mem _ hq)) (gr.at e)
    refine ⟨g3, gr.trans gr3, ?_⟩
    have p1 : ∀ l, D.pers (nnD l) = true := fun _ => rfl
    have p2 : ∀ l, D.pers (ntD l) = true := fun _ => rfl
    rw [List.map_cons, lpG_go (gd_one e) (δ1 := dh9 a b t A r none none none none) (by simp [dh9, hrD, p1, p2, cdD_pers]) ev]
    rw [show wipeS (dh9 a b t A r w9 w10 none w12) [4, 5, 6, 7, 8, 9, 10, 11, 12] = [some a, some b, some (.ref A), some t, none, none, none, none, none, none, none, none, none] from by simp [dh9, wipeS]]
    exact e3
theorem hand_ok {W : Nat} (kk : Nat) (hW : 2000000 ≤ W) (h : Hh) (l : h.length = 3) : callF (Pr W) (kk + 6) 22 [] h = .ok (.bl true) h := by
  obtain ⟨c0, c1, c2, rfl⟩ : ∃ c0 c1 c2, h = [c0, c1, c2] := by
    match h, l with
    | [c0, c1, c2], _ => exact ⟨c0, c1, c2, rfl⟩
  obtain ⟨g, gr, e⟩ := hand_loop (W := W) kk hW (rwD f1) (rwD .ret) (cdD hr7.C) 5 (hrs.map hrD) hrs [c0, c1, c2, .lst ([hr1].map hrD), .lst ([hr1, hr2].map hrD), .lst (hrs.map hrD)] hks rfl
  have fin : finish [c0, c1, c2] (.bl true) g = .ok (.bl true) [c0, c1, c2] := fin_grow (Grow.trans (g := [c0, c1, c2, .lst ([hr1].map hrD), .lst ([hr1, hr2].map hrD), .lst (hrs.map hrD)]) (Grow.app [.lst ([hr1].map hrD), .lst ([hr1, hr2].map hrD), .lst (hrs.map hrD)]) gr) (by simp [D.low]) rfl
  have es : ∀ (G : G) (t : Tg) (it : Ivy.It) (b : List Ivy.St) (ks : List Nat) (δ : Sl) (h : Hh), evS G (.for t it b ks) δ h = (evI G it δ h).go δ fun s h => lpF s.gd t ks (evSs G b) s.ds (wipeS δ ks) h := fun G t it b ks δ h => by simp only [evS]
  have body : _law_hand.body = _law_hand.body.take 11 ++ [.for (.tup [(.name 4), (.name 5), (.name 6), (.name 7), (.name 8)]) (.seq (.var 2)) _law_hand_l1 [4, 5, 6, 7, 8, 9, 10, 11, 12], .ret (.lit (.bl true))] := rfl
  rw [u22]
  refine (if_pos (show ([] : List D).length = _law_hand.np from rfl)).trans ?_
  show endF [c0, c1, c2] (evSs (gk W (kk + 5)) _law_hand.body (List.replicate 13 none) [c0, c1, c2]) = _
  rw [body, evSs_app (hand_pre (W := W) (n := kk + 5) c0 c1 c2)]
  have sf : evS (gk W (kk + 5)) (.for (.tup [(.name 4), (.name 5), (.name 6), (.name 7), (.name 8)]) (.seq (.var 2)) _law_hand_l1 [4, 5, 6, 7, 8, 9, 10, 11, 12]) [some (rwD f1), some (rwD .ret), some (.ref 5), some (cdD hr7.C), none, none, none, none, none, none, none, none, none] [c0, c1, c2, .lst ([hr1].map hrD), .lst ([hr1, hr2].map hrD), .lst (hrs.map hrD)] = .nx [some (rwD f1), some (rwD .ret), some (.ref 5), some (cdD hr7.C), none, none, none, none, none, none, none, none, none] g := by
    rw [es, show evI (gk W (kk + 5)) (.seq (.var 2)) [some (rwD f1), some (rwD .ret), some (.ref 5), some (cdD hr7.C), none, none, none, none, none, none, none, none, none] [c0, c1, c2, .lst ([hr1].map hrD), .lst ([hr1, hr2].map hrD), .lst (hrs.map hrD)] = .ok ⟨hrs.map hrD, [(5, .lst (hrs.map hrD))]⟩ [c0, c1, c2, .lst ([hr1].map hrD), .lst ([hr1, hr2].map hrD), .lst (hrs.map hrD)] from rfl]
    exact e
  rw [evSs_cons sf, evSs_ret (ret_ok (d := .bl true) (h' := g) rfl)]
  exact fin
end Lk09

namespace Lk09
open Ivy
theorem asked_any {W : Nat} (kk : Nat) {C : Cd} (h : Hh) (b : Bool) (s : SC C) (hW : 2000000 ≤ W) : callF (Pr W) (kk + 6) 20 [cdD C, .bl b] h = .ok (.bl true) h := asked_ok kk h b (s.big hW)
def dl1 (v : D) (lap : Option D) (c : Option D) : Sl := [some v, some (.ref 2), lap, c, none, none, none, none]
theorem lap_ok {W : Nat} (kk : Nat) (hW : 2000000 ≤ W) (v : D) (lap : Int) (h : Hh) (x : Rk h) : ∃ (h' : Hh) (c : Option D), Kp h h' ∧ evSs (gk W (kk + 6)) law_l1 (dl1 v (some (.int lap)) none) h = .nx (dl1 v (some (.int lap)) c) h' := by
  obtain ⟨C, h1, e1, k1, s1⟩ := code_ok (W := W) (kk + 3) h x
  obtain ⟨C2, h2, e2, k2, s2⟩ := turned_ok (W := W) (kk + 4) h1 k1.rk s1
  obtain ⟨C3, h3, e3, k3, s3⟩ := chain_ok (W := W) (kk + 4) h2 k2.rk
  have a1 := fun b => asked_any (W := W) kk h1 b s1 hW
  have a2 := fun b => asked_any (W := W) kk h2 b s2 hW
  have a3 := fun b => asked_any (W := W) kk h3 b s3 hW
  refine ⟨h3, some (cdD C), (k1.trans k2).trans k3, ?_⟩
  have q1 : evS (gk W (kk + 6)) (.asg (.name 3) (.box (.call 13 [(.var 1)] []))) (dl1 v (some (.int lap)) none) h = .nx (dl1 v (some (.int lap)) (some (cdD C))) h1 := by
    simp [dl1, evS, evE, evEs, e1, cdD_pers, cdD_box]
  have q2 : evS (gk W (kk + 6)) (.ite (.or (.not (.ex (.call 20 [(.var 3), (.op .eq [(.var 2), (.lit (.int 1))])] []))) (.or (.not (.ex (.call 20 [(.box (.call 21 [(.var 1), (.var 3)] [])), (.lit (.bl false))] []))) (.not (.ex (.call 20 [(.box (.call 14 [(.var 1)] [])), (.op .eq [(.var 2), (.lit (.int 0))])] []))))) [.ret (.lit (.bl false))] []) (dl1 v (some (.int lap)) (some (cdD C))) h1 = .nx (dl1 v (some (.int lap)) (some (cdD C))) h3 := by
    simp [dl1, evSs, evS, evE, evEs, evT, a1, a2, a3, e2, e3, cdD_pers, cdD_box]
  rw [show law_l1 = [.asg (.name 3) (.box (.call 13 [(.var 1)] [])), .ite (.or (.not (.ex (.call 20 [(.var 3), (.op .eq [(.var 2), (.lit (.int 1))])] []))) (.or (.not (.ex (.call 20 [(.box (.call 21 [(.var 1), (.var 3)] [])), (.lit (.bl false))] []))) (.not (.ex (.call 20 [(.box (.call 14 [(.var 1)] [])), (.op .eq [(.var 2), (.lit (.int 0))])] []))))) [.ret (.lit (.bl false))] []] from rfl]
  rw [evSs_cons q1, evSs_cons q2, evSs_nil]
def bigF : List Rw := [.deed (.tup [.int 0, .int 1, .int 0, .int 1]) 99, .call 1 100] ++ (List.range 98).map (fun i => .cho [i + 2, i + 1]) ++ [.ret]
def bigM : Cd := (List.range 10).map fun i => [.call (i + 2) 1, .ret]
def bigA : Cd := [bigF] ++ bigM ++ [[.ret]]
def bigB : Cd := [bigF] ++ bigM ++ [[.call 11 0]]
theorem bigA_ok {W : Nat} (hW : 2000000 ≤ W) : Big W bigA := ⟨wf_of (by decide +kernel), by decide +kernel, by decide +kernel, hW⟩
theorem bigB_ok {W : Nat} (hW : 2000000 ≤ W) : Big W bigB := ⟨wf_of (by decide +kernel), by decide +kernel, by decide +kernel, hW⟩
def eA4 : Ex := .op .tuple [(.comp [5] (.name 5) (.rng [(.lit (.int 2)), (.lit (.int 100))]) [] (.op .tup [(.lit (.str [99, 104, 111, 111, 115, 101])), (.op .tup [(.var 5), (.op .sub [(.var 5), (.lit (.int 1))])])]))]
def eA6 : Ex := .box (.op .add [(.op .add [(.op .tup [(.op .tup [(.lit (.str [100, 101, 101, 100])), (.op .tup [(.lit (.int 0)), (.lit (.int 1)), (.lit (.int 0)), (.lit (.int 1))]), (.lit (.int 99))]), (.op .tup [(.lit (.str [99, 97, 108, 108])), (.lit (.int 1)), (.lit (.int 100))])]), (.var 4)]), (.op .tup [(.op .tup [(.lit (.str [114, 101, 116, 117, 114, 110]))])])])
def eA3 : Ex := .box (.op .add [(.op .add [(.op .tup [(.var 6)]), (.op .tuple [(.comp [7] (.name 7) (.rng [(.lit (.int 1)), (.lit (.int 11))]) [] (.op .tup [(.op .tup [(.lit (.str [99, 97, 108, 108])), (.box (.op .add [(.var 7), (.lit (.int 1))])), (.lit (.int 1))]), (.op .tup [(.lit (.str [114, 101, 116, 117, 114, 110]))])]))])]), (.op .tup [(.op .tup [(.op .tup [(.lit (.str [114, 101, 116, 117, 114, 110]))])])])])
def eB : Ex := .box (.op .add [(.op (.slice false true) [(.var 3), (.op .neg [(.lit (.int 1))])]), (.op .tup [(.op .tup [(.op .tup [(.lit (.str [99, 97, 108, 108])), (.lit (.int 11)), (.lit (.int 0))])])])])
def chosD : D := .tup (((List.range 98).map fun i => Rw.cho [i + 2, i + 1]).map rwD)
def okN (δ : Sl) (r : R D) (d : D) : Bool := okB r d
theorem vA4 {W n : Nat} (v : D) (h : Hh) : evE (gk W n) eA4 [some v, some (.ref 2), none, none, none, none, none, none] h = .ok chosD h := by
  rfl
theorem vA6 {W n : Nat} (v : D) (h : Hh) : evE (gk W n) eA6 [some v, some (.ref 2), none, none, some chosD, none, none, none] h = .ok (wdD bigF) h := by
  rfl
theorem vA3 {W n : Nat} (v : D) (h : Hh) : evE (gk W n) eA3 [some v, some (.ref 2), none, none, some chosD, none, some (wdD bigF), none] h = .ok (cdD bigA) h := by
  rfl
theorem vB {W n : Nat} (v : D) (h : Hh) : evE (gk W n) eB [some v, some (.ref 2), none, some (cdD bigA), some chosD, none, some (wdD bigF), none] h = .ok (cdD bigB) h := by
  rfl
end Lk09

namespace Lk09
open Ivy
theorem law_ok {W : Nat} (kk : Nat) (hW : 2000000 ≤ W) (ns : List Int) : ∃ h, callF (Pr W) (kk + 8) 23 [.rol (ns.map .int)] [] = .ok (.bl true) h := by
  obtain ⟨v, hv⟩ : ∃ v : D, v = .rol (ns.map .int) := ⟨_, rfl⟩
  have vp : D.pers v = true := by rw [hv]; rfl
  obtain ⟨h, d, x, l3, e10, bx⟩ := rack_ok (W := W) (kk + 6) ns
  have e22 := hand_ok (W := W) (kk + 1) hW h l3
  obtain ⟨h1, c1, k1, p1⟩ := lap_ok (W := W) (kk + 1) hW v 0 h x
  obtain ⟨h2, c2, k2, p2⟩ := lap_ok (W := W) (kk + 1) hW v 1 h1 k1.rk
  obtain ⟨t, h3, e11, b1, k3⟩ := cork_nat (W := W) (kk + 6) h2 0 13 k2.rk (by omega) (by omega)
  rw [← hv] at e10
  rw [← hv]
  have pa : evSs (gk W (kk + 7)) (law.body.take 2) [some v, none, none, none, none, none, none, none] [] = .nx (dl1 v none none) h := by
    have s1 : evS (gk W (kk + 7)) (.asg (.name 1) (.box (.call 10 [(.var 0)] []))) [some v, none, none, none, none, none, none, none] [] = .nx (dl1 v none none) h := by
      simp [dl1, evS, evE, evEs, vp, e10, bx]
    have s2 : evS (gk W (kk + 7)) (.ite (.not (.ex (.call 22 [] []))) [.ret (.lit (.bl false))] []) (dl1 v none none) h = .nx (dl1 v none none) h := by
      simp [dl1, evSs, evS, evE, evEs, evT, e22]
    rw [show law.body.take 2 = [.asg (.name 1) (.box (.call 10 [(.var 0)] [])), .ite (.not (.ex (.call 22 [] []))) [.ret (.lit (.bl false))] []] from rfl]
    rw [evSs_cons s1, evSs_cons s2, evSs_nil]
  have es : ∀ (G : G) (t : Tg) (it : Ivy.It) (b : List Ivy.St) (ks : List Nat) (δ : Sl) (h : Hh), evS G (.for t it b ks) δ h = (evI G it δ h).go δ fun s h => lpF s.gd t ks (evSs G b) s.ds (wipeS δ ks) h := fun G t it b ks δ h => by simp only [evS]
  have pf : evS (gk W (kk + 7)) (.for (.name 2) (.rng [(.lit (.int 2))]) law_l1 [2, 3]) (dl1 v none none) h = .nx (dl1 v none none) h2 := by
    rw [es, show evI (gk W (kk + 7)) (.rng [(.lit (.int 2))]) (dl1 v none none) h = .ok ⟨[.int 0, .int 1], []⟩ h from rfl]
    simp only [s_go, s_okb]
    have w0 : wipeS (dl1 v none none) [2, 3] = dl1 v none none := by simp [dl1, wipeS]
    have w1 : ∀ a b, wipeS (dl1 v a b) [2, 3] = dl1 v none none := fun a b => by simp [dl1, wipeS]
    rw [w0, lpF_go (δ1 := dl1 v (some (.int 0)) none) (by simp [dl1]) p1, w1, lpF_go (δ1 := dl1 v (some (.int 1)) none) (by simp [dl1]) p2, w1, lpF_nil, w0]
  have fin : ∀ g, finish [] (.bl true) g = .ok (.bl true) [] := fun g => fin_grow (h := []) ⟨by simp, fun i hi => by simp at hi⟩ (by simp [D.low]) rfl
  have body : law.body = law.body.take 2 ++ (.for (.name 2) (.rng [(.lit (.int 2))]) law_l1 [2, 3]) :: [.ite (.ex (.op .ne [(.call 11 [(.var 1), (.lit (.int 0)), (.lit (.int 13))] []), (.lit (.int 3))])) [.ret (.lit (.bl true))] [], .asg (.name 4) eA4, .asg (.name 6) eA6, .asg (.name 3) eA3, .ret (.and (.call 20 [(.var 3), (.lit (.bl false))] []) (.call 20 [eB, (.lit (.bl true))] []))] := rfl
  have rest : evSs (gk W (kk + 7)) [.ite (.ex (.op .ne [(.call 11 [(.var 1), (.lit (.int 0)), (.lit (.int 13))] []), (.lit (.int 3))])) [.ret (.lit (.bl true))] [], .asg (.name 4) eA4, .asg (.name 6) eA6, .asg (.name 3) eA3, .ret (.and (.call 20 [(.var 3), (.lit (.bl false))] []) (.call 20 [eB, (.lit (.bl true))] []))] (dl1 v none none) h2 = .ret (.bl true) h3 := by
    simp at e11
    by_cases q : t = 3
    · have s1 : evS (gk W (kk + 7)) (.ite (.ex (.op .ne [(.call 11 [(.var 1), (.lit (.int 0)), (.lit (.int 13))] []), (.lit (.int 3))])) [.ret (.lit (.bl true))] []) (dl1 v none none) h2 = .nx (dl1 v none none) h3 := by
        subst q
        simp [dl1, evSs, evS, evE, evEs, evT, e11]
      have a1 := asked_ok (W := W) (kk + 1) h3 false (bigA_ok hW)
      have a2 := asked_ok (W := W) (kk + 1) h3 true (bigB_ok hW)
      have s5 : evS (gk W (kk + 7)) (.ret (.and (.call 20 [(.var 3), (.lit (.bl false))] []) (.call 20 [eB, (.lit (.bl true))] []))) [some v, some (.ref 2), none, some (cdD bigA), some chosD, none, some (wdD bigF), none] h3 = .ret (.bl true) h3 := by
        have vb := vB (W := W) (n := kk + 7) v h3
        simp [evS, evE, evEs, evT, cdD_pers, a1, vb, a2, truD, pick]
      rw [evSs_cons s1]
      unfold dl1
      rw [evSs_cons (δ2 := [some v, some (.ref 2), none, none, some chosD, none, none, none]) (h2 := h3) (asg_ok (vA4 v h3) rfl), evSs_cons (δ2 := [some v, some (.ref 2), none, none, some chosD, none, some (wdD bigF), none]) (h2 := h3) (asg_ok (vA6 v h3) rfl), evSs_cons (δ2 := [some v, some (.ref 2), none, some (cdD bigA), some chosD, none, some (wdD bigF), none]) (h2 := h3) (asg_ok (vA3 v h3) rfl), evSs_ret s5]
    · have q1 : ¬ (t : Int) = 3 := by omega
      refine evSs_ret ?_
      simp [dl1, evSs, evS, evE, evEs, evT, e11, q, q1]
  refine ⟨[], ?_⟩
  rw [u23]
  refine (if_pos (show [v].length = law.np from rfl)).trans ?_
  show endF [] (evSs (gk W (kk + 7)) law.body [some v, none, none, none, none, none, none, none] []) = _
  rw [body, evSs_app pa, evSs_cons pf, rest]
  exact fin h3
end Lk09

namespace Lk09
open Ivy
open PySem PySem.Spec PyProof.Rows L2
def top (i : Nat) : Stmt := PySem.Challenge.pw_whichpass_k09_ends.main.body.getD i (.Pass ⟨0, 0, 0, 0⟩)
def nms : List PySem.Str := (["nexts_of", "goes_on", "ended_marks", "ended_rows", "lost_words", "ways_on", "met_by", "met_rows", "needed_by", "needed_words", "_law_rack", "_law_cork", "_law_word", "_law_code"] : List PySem.Str) ++ (["_law_chain", "_law_nexts", "_law_ended", "_law_met", "_law_needed", "_law_same", "_law_asked", "_law_turned", "_law_hand", "law"] : List PySem.Str)
def nm (i : Nat) : PySem.Str := nms.getD i ""
def tix : List Nat := [1, 3, 4, 5, 6, 7, 8, 9, 10, 11, 13, 14, 15, 16, 17, 18, 19, 20, 21, 22, 23, 24, 25, 26]
def tp (i : Nat) : Stmt := top (tix.getD i 0)
def ps0 : List PySem.Str := (["row"] : List PySem.Str)
def N0 : List PySem.Str := (["row"] : List PySem.Str)
def ps1 : List PySem.Str := (["code", "row", "ended", "kept"] : List PySem.Str)
def N1 : List PySem.Str := (["code", "row", "ended", "kept", "number"] : List PySem.Str)
def ps2 : List PySem.Str := (["code"] : List PySem.Str)
def N2 : List PySem.Str := (["code", "marks", "row", "rows", "changed", "later", "at"] : List PySem.Str)
def ps3 : List PySem.Str := (["code"] : List PySem.Str)
def N3 : List PySem.Str := (["code", "at", "mark", "row"] : List PySem.Str)
def ps4 : List PySem.Str := (["code"] : List PySem.Str)
def N4 : List PySem.Str := (["code", "at", "row"] : List PySem.Str)
def ps5 : List PySem.Str := (["code", "marks", "word", "row"] : List PySem.Str)
def N5 : List PySem.Str := (["code", "marks", "word", "row", "told"] : List PySem.Str)
def ps6 : List PySem.Str := (["code", "marks", "word"] : List PySem.Str)
def N6 : List PySem.Str := (["code", "marks", "word", "found", "place", "number"] : List PySem.Str)
def ps7 : List PySem.Str := (["code", "word"] : List PySem.Str)
def N7 : List PySem.Str := (["code", "word"] : List PySem.Str)
def ps8 : List PySem.Str := (["code", "marks", "word"] : List PySem.Str)
def N8 : List PySem.Str := (["code", "marks", "word", "found", "place", "row", "told"] : List PySem.Str)
def ps9 : List PySem.Str := (["code", "word"] : List PySem.Str)
def N9 : List PySem.Str := (["code", "word"] : List PySem.Str)
def ps10 : List PySem.Str := (["script"] : List PySem.Str)
def N10 : List PySem.Str := (["script", "corks", "stir", "at", "cell"] : List PySem.Str)
def ps11 : List PySem.Str := (["rack", "place", "many"] : List PySem.Str)
def N11 : List PySem.Str := (["rack", "place", "many", "cork", "told"] : List PySem.Str)
def ps12 : List PySem.Str := (["rack", "words", "word", "calls"] : List PySem.Str)
def N12 : List PySem.Str := (["rack", "words", "word", "calls", "many", "rows", "at", "kind", "here", "m", "lap"] : List PySem.Str)
def ps13 : List PySem.Str := (["rack"] : List PySem.Str)
def N13 : List PySem.Str := (["rack", "words", "calls", "word"] : List PySem.Str)
def ps14 : List PySem.Str := (["rack"] : List PySem.Str)
def N14 : List PySem.Str := (["rack", "words", "code", "word", "detour", "last"] : List PySem.Str)
def ps15 : List PySem.Str := (["row"] : List PySem.Str)
def N15 : List PySem.Str := (["row"] : List PySem.Str)
def ps16 : List PySem.Str := (["code"] : List PySem.Str)
def N16 : List PySem.Str := (["code", "told", "rows", "lap", "changed", "word", "at", "row", "good", "one"] : List PySem.Str)
def ps17 : List PySem.Str := (["code", "ended", "word"] : List PySem.Str)
def N17 : List PySem.Str := (["code", "ended", "word", "told", "todo", "lap", "row", "one"] : List PySem.Str)
def ps18 : List PySem.Str := (["code", "ended", "word"] : List PySem.Str)
def N18 : List PySem.Str := (["code", "ended", "word", "told", "place", "here", "at", "row"] : List PySem.Str)
def ps19 : List PySem.Str := (["told", "due"] : List PySem.Str)
def N19 : List PySem.Str := (["told", "due", "at"] : List PySem.Str)
def ps20 : List PySem.Str := (["code", "named"] : List PySem.Str)
def N20 : List PySem.Str := (["code", "named", "ended", "rows", "at", "word", "lost", "told", "words"] : List PySem.Str)
def ps21 : List PySem.Str := (["rack", "code"] : List PySem.Str)
def N21 : List PySem.Str := (["rack", "code", "word", "at", "row"] : List PySem.Str)
def ps22 : List PySem.Str := ([] : List PySem.Str)
def N22 : List PySem.Str := (["f", "end", "rows", "three", "code", "ended", "lost", "met", "needed", "words", "ways", "word", "told"] : List PySem.Str)
def ps23 : List PySem.Str := (["script"] : List PySem.Str)
def N23 : List PySem.Str := (["script", "rack", "lap", "code", "rows", "at", "first", "word"] : List PySem.Str)
def ps (i : Nat) : List PySem.Str := match i with
  | 0 => ps0
  | 1 => ps1
  | 2 => ps2
  | 3 => ps3
  | 4 => ps4
  | 5 => ps5
  | 6 => ps6
  | 7 => ps7
  | 8 => ps8
  | 9 => ps9
  | 10 => ps10
  | 11 => ps11
  | 12 => ps12
  | 13 => ps13
  | 14 => ps14
  | 15 => ps15
  | 16 => ps16
  | 17 => ps17
  | 18 => ps18
  | 19 => ps19
  | 20 => ps20
  | 21 => ps21
  | 22 => ps22
  | 23 => ps23
  | _ => []
def bl : List PySem.Str := (["any", "enumerate", "tuple", "len", "sorted", "range", "min", "int", "abs", "sum", "isinstance", "bool", "list"] : List PySem.Str)
def fa (K : PySem.W.Frag) (i : Nat) : Addr := He.fAd K (nm i, none)
def ev (K : PySem.W.Frag) : Ev := ⟨K, fun _ => 0, fun _ => false, none⟩
abbrev FnP (K : PySem.W.Frag) (i : Nat) (fd : FuncData) : Prop := FunD K (nm i) (nm i) (defArgs (tp i)) (defBody (tp i)) (defScope (tp i)) [] [] (fa K i) fd
theorem ib {K : PySem.W.Frag} : InsB K (ev K) := ⟨fun c h => by cases h⟩
theorem sc0 : FnScope N0 ps0 (defScope (tp 0)) := ⟨rfl, rfl, rfl, by decide +kernel, rfl, by decide +kernel, by decide +kernel⟩
theorem sc1 : FnScope N1 ps1 (defScope (tp 1)) := ⟨rfl, rfl, rfl, by decide +kernel, rfl, by decide +kernel, by decide +kernel⟩
theorem sc2 : FnScope N2 ps2 (defScope (tp 2)) := ⟨rfl, rfl, rfl, by decide +kernel, rfl, by decide +kernel, by decide +kernel⟩
theorem sc3 : FnScope N3 ps3 (defScope (tp 3)) := ⟨rfl, rfl, rfl, by decide +kernel, rfl, by decide +kernel, by decide +kernel⟩
theorem sc4 : FnScope N4 ps4 (defScope (tp 4)) := ⟨rfl, rfl, rfl, by decide +kernel, rfl, by decide +kernel, by decide +kernel⟩
theorem sc5 : FnScope N5 ps5 (defScope (tp 5)) := ⟨rfl, rfl, rfl, by decide +kernel, rfl, by decide +kernel, by decide +kernel⟩
theorem sc6 : FnScope N6 ps6 (defScope (tp 6)) := ⟨rfl, rfl, rfl, by decide +kernel, rfl, by decide +kernel, by decide +kernel⟩
theorem sc7 : FnScope N7 ps7 (defScope (tp 7)) := ⟨rfl, rfl, rfl, by decide +kernel, rfl, by decide +kernel, by decide +kernel⟩
theorem sc8 : FnScope N8 ps8 (defScope (tp 8)) := ⟨rfl, rfl, rfl, by decide +kernel, rfl, by decide +kernel, by decide +kernel⟩
theorem sc9 : FnScope N9 ps9 (defScope (tp 9)) := ⟨rfl, rfl, rfl, by decide +kernel, rfl, by decide +kernel, by decide +kernel⟩
theorem sc10 : FnScope N10 ps10 (defScope (tp 10)) := ⟨rfl, rfl, rfl, by decide +kernel, rfl, by decide +kernel, by decide +kernel⟩
theorem sc11 : FnScope N11 ps11 (defScope (tp 11)) := ⟨rfl, rfl, rfl, by decide +kernel, rfl, by decide +kernel, by decide +kernel⟩
theorem sc12 : FnScope N12 ps12 (defScope (tp 12)) := ⟨rfl, rfl, rfl, by decide +kernel, rfl, by decide +kernel, by decide +kernel⟩
theorem sc13 : FnScope N13 ps13 (defScope (tp 13)) := ⟨rfl, rfl, rfl, by decide +kernel, rfl, by decide +kernel, by decide +kernel⟩
theorem sc14 : FnScope N14 ps14 (defScope (tp 14)) := ⟨rfl, rfl, rfl, by decide +kernel, rfl, by decide +kernel, by decide +kernel⟩
theorem sc15 : FnScope N15 ps15 (defScope (tp 15)) := ⟨rfl, rfl, rfl, by decide +kernel, rfl, by decide +kernel, by decide +kernel⟩
theorem sc16 : FnScope N16 ps16 (defScope (tp 16)) := ⟨rfl, rfl, rfl, by decide +kernel, rfl, by decide +kernel, by decide +kernel⟩
theorem sc17 : FnScope N17 ps17 (defScope (tp 17)) := ⟨rfl, rfl, rfl, by decide +kernel, rfl, by decide +kernel, by decide +kernel⟩
theorem sc18 : FnScope N18 ps18 (defScope (tp 18)) := ⟨rfl, rfl, rfl, by decide +kernel, rfl, by decide +kernel, by decide +kernel⟩
theorem sc19 : FnScope N19 ps19 (defScope (tp 19)) := ⟨rfl, rfl, rfl, by decide +kernel, rfl, by decide +kernel, by decide +kernel⟩
theorem sc20 : FnScope N20 ps20 (defScope (tp 20)) := ⟨rfl, rfl, rfl, by decide +kernel, rfl, by decide +kernel, by decide +kernel⟩
theorem sc21 : FnScope N21 ps21 (defScope (tp 21)) := ⟨rfl, rfl, rfl, by decide +kernel, rfl, by decide +kernel, by decide +kernel⟩
theorem sc22 : FnScope N22 ps22 (defScope (tp 22)) := ⟨rfl, rfl, rfl, by decide +kernel, rfl, by decide +kernel, by decide +kernel⟩
theorem sc23 : FnScope N23 ps23 (defScope (tp 23)) := ⟨rfl, rfl, rfl, by decide +kernel, rfl, by decide +kernel, by decide +kernel⟩
section
variable {P : Program} {w : World} {K : PySem.W.Frag} {mg : PySem.Str → Option Value} {base : Heap} {fd : Nat → FuncData} {wl n : Nat}
abbrev KB0 (fd : Nat → FuncData) : Prop := KBp (fd 9) (ps 9) (["word", "code"] : List PySem.Str) 0 [1, 0]
abbrev KB1 (fd : Nat → FuncData) : Prop := KBp (fd 4) (ps 4) (["code"] : List PySem.Str) 0 [0]
abbrev KB2 (fd : Nat → FuncData) : Prop := KBp (fd 3) (ps 3) (["code"] : List PySem.Str) 0 [0]
theorem d0 (fx : Fx K mg (fa K) fd nm ps bl 24) (kb0 : KB0 fd) (kb1 : KB1 fd) (kb2 : KB2 fd) (L : Lv P w K mg base (ev K) (Pr wl) (fa K) fd ps 24 n) (F : FnP K 0 (fd 0)) : FnOk P w K mg base (L2.CX P w) (n + 2) (fa K 0) (fd 0) (ps 0) (spD (ev K) (callF (Pr wl) (n + 1) 0) (ps 0).length) := by
  refine lv_fn rfl rfl F sc0 rfl (by decide) fun cdv A outer s H E hr hc => ?_
  exact (ss_cons (s_ite (t_c ob_eq (c_cmp (o_eq hc.toCb.hK hc.toCb.hu64) (v_eq) (e_idx hc.toCb (e_var rfl) e_int) (e_str rfl))) (ss_cons (s_ret (e_idx hc.toCb (e_var rfl) e_int)) ss_nil) ss_nil) (ss_cons (s_ret (e_ifx (t_c ob_eq (c_cmp (o_eq hc.toCb.hK hc.toCb.hu64) (v_eq) (e_idx hc.toCb (e_var rfl) e_int) (e_str rfl))) (e_tup a_nil) (e_tup (a_cons (e_idx hc.toCb (e_var rfl) e_int) a_nil)))) ss_nil))
theorem d1 (fx : Fx K mg (fa K) fd nm ps bl 24) (kb0 : KB0 fd) (kb1 : KB1 fd) (kb2 : KB2 fd) (L : Lv P w K mg base (ev K) (Pr wl) (fa K) fd ps 24 n) (F : FnP K 1 (fd 1)) : FnOk P w K mg base (L2.CX P w) (n + 2) (fa K 1) (fd 1) (ps 1) (spD (ev K) (callF (Pr wl) (n + 1) 1) (ps 1).length) := by
  refine lv_fn rfl rfl F sc1 rfl (by decide) fun cdv A outer s H E hr hc => ?_
  exact (ss_cons (s_ite (t_c ob_eq (c_cmp (o_eq hc.toCb.hK hc.toCb.hu64) (v_eq) (e_idx hc.toCb (e_var rfl) e_int) (e_str rfl))) (ss_cons (s_ret e_bl) ss_nil) ss_nil) (ss_cons (s_ite (t_w (w_and (t_c ob_eq (c_cmp (o_eq hc.toCb.hK hc.toCb.hu64) (v_eq) (e_idx hc.toCb (e_var rfl) e_int) (e_str rfl))) (w_one (t_not (t_ex hc.toCb (e_idx hc.toCb (e_idx hc.toCb (e_var rfl) (e_idx hc.toCb (e_var rfl) e_int)) e_int)))))) (ss_cons (s_ret e_bl) ss_nil) ss_nil) (ss_cons (s_ret (e_callB (cr_any hc.calm) (n_any hc.toCb.hK) rfl (fx.m 0 _ rfl) bt_any (a_cons (e_comp hc.calm hc.toCb.nd (i_seq hc.toCb (e_call hc.toCb (L 0 (by decide)) hr rfl (fx.g 0 (by decide)) (fx.k 0 (by decide)) (fx.b 0 (by decide)) (a_cons (e_var rfl) a_nil))) (show BlkOk N1 (defScope (tp 1)) _ [("number", 4)] from ⟨rfl, by decide +kernel, by decide +kernel, by decide +kernel, by decide +kernel⟩) (fun _ _ _ _ _ => (g_name (Cc.blk hc).toCb.nd rfl (Or.inl rfl))) (fun _ _ _ _ _ => ts_nil) (fun _ _ _ _ _ => (e_idx (Cc.blk hc).toCb (e_var rfl) (e_var rfl))) (by decide)) a_nil))) ss_nil)))
theorem d2 (fx : Fx K mg (fa K) fd nm ps bl 24) (kb0 : KB0 fd) (kb1 : KB1 fd) (kb2 : KB2 fd) (L : Lv P w K mg base (ev K) (Pr wl) (fa K) fd ps 24 n) (F : FnP K 2 (fd 2)) : FnOk P w K mg base (L2.CX P w) (n + 2) (fa K 2) (fd 2) (ps 2) (spD (ev K) (callF (Pr wl) (n + 1) 2) (ps 2).length) := by
  refine lv_fn rfl rfl F sc2 rfl (by decide) fun cdv A outer s H E hr hc => ?_
  exact (ss_cons (by first | exact (s_setLc hc.calm hc.toCb.nd rfl rfl rfl (i_seq hc.toCb (e_var rfl)) (show BlkOk N2 (defScope (tp 2)) _ [("rows", 3)] from ⟨rfl, by decide +kernel, by decide +kernel, by decide +kernel, by decide +kernel⟩) (fun _ _ _ _ _ => (g_name (Cc.blk hc).toCb.nd rfl (Or.inl rfl))) (fun _ _ _ _ _ => ts_nil) (fun _ _ _ _ _ => (e_box (e_comp (Cc.blk hc).calm (Cc.blk hc).toCb.nd (i_seq (Cc.blk hc).toCb (e_var rfl)) (blk_nest (N := N2) (own := [("row", 2)]) (sc := defScope (tp 2)) rfl rfl rfl (by decide +kernel) (by decide +kernel) (by decide +kernel) (by decide +kernel)) (fun _ _ _ _ _ => (g_name (Cc.blk (Cc.blk hc)).toCb.nd rfl (Or.inl rfl))) (fun _ _ _ _ _ => ts_nil) (fun _ _ _ _ _ => e_bl) (by decide)))) (by decide)) | exact s_set hc.toCb.nd rfl (Or.inr rfl) (e_box (e_comp hc.calm hc.toCb.nd (i_seq hc.toCb (e_var rfl)) (show BlkOk N2 (defScope (tp 2)) _ [("rows", 3)] from ⟨rfl, by decide +kernel, by decide +kernel, by decide +kernel, by decide +kernel⟩) (fun _ _ _ _ _ => (g_name (Cc.blk hc).toCb.nd rfl (Or.inl rfl))) (fun _ _ _ _ _ => ts_nil) (fun _ _ _ _ _ => (e_box (e_comp (Cc.blk hc).calm (Cc.blk hc).toCb.nd (i_seq (Cc.blk hc).toCb (e_var rfl)) (blk_nest (N := N2) (own := [("row", 2)]) (sc := defScope (tp 2)) rfl rfl rfl (by decide +kernel) (by decide +kernel) (by decide +kernel) (by decide +kernel)) (fun _ _ _ _ _ => (g_name (Cc.blk (Cc.blk hc)).toCb.nd rfl (Or.inl rfl))) (fun _ _ _ _ _ => ts_nil) (fun _ _ _ _ _ => e_bl) (by decide)))) (by decide)))) (ss_cons (s_set hc.toCb.nd rfl (Or.inl rfl) e_bl) (ss_cons (s_whl hc.po (t_ex hc.toCb (e_var rfl)) (ss_cons (s_set hc.toCb.nd rfl (Or.inl rfl) (e_box (e_lst a_nil))) (ss_cons (s_for hc.po hc.calm (i_enum hc.toCb rfl rfl (fx.m 1 _ rfl) (e_var rfl)) (g_tup hc.toCb hc.calm (gs_cons (g_name hc.toCb.nd rfl (Or.inr rfl)) (gs_cons (g_name hc.toCb.nd rfl (Or.inl rfl)) gs_nil))) (ss_cons (s_ex (e_append hc.toCb (e_var rfl) (e_box (e_comp hc.calm hc.toCb.nd (i_seq hc.toCb (e_var rfl)) (show BlkOk N2 (defScope (tp 2)) _ [("row", 2)] from ⟨rfl, by decide +kernel, by decide +kernel, by decide +kernel, by decide +kernel⟩) (fun _ _ _ _ _ => (g_name (Cc.blk hc).toCb.nd rfl (Or.inl rfl))) (fun _ _ _ _ _ => ts_nil) (fun _ _ _ _ _ => (e_box (e_call (Cc.blk hc).toCb (L 1 (by decide)) hr rfl (fx.g 1 (by decide)) (fx.k 1 (by decide)) (fx.b 1 (by decide)) (a_cons (e_var rfl) (a_cons (e_var rfl) (a_cons (e_var rfl) (a_cons (e_idx (Cc.blk hc).toCb (e_var rfl) (e_var rfl)) a_nil))))))) (by decide))))) ss_nil)) (ss_cons (s_set hc.toCb.nd rfl (Or.inl rfl) (e_c (c_cmp (o_ne hc.toCb.hK hc.toCb.hu64) (v_ne) (e_var rfl) (e_var rfl)))) (ss_cons (s_set hc.toCb.nd rfl (Or.inr rfl) (e_var rfl)) ss_nil))))) (ss_cons (s_ret (e_var rfl)) ss_nil))))
theorem d3 (fx : Fx K mg (fa K) fd nm ps bl 24) (kb0 : KB0 fd) (kb1 : KB1 fd) (kb2 : KB2 fd) (L : Lv P w K mg base (ev K) (Pr wl) (fa K) fd ps 24 n) (F : FnP K 3 (fd 3)) : FnOk P w K mg base (L2.CX P w) (n + 2) (fa K 3) (fd 3) (ps 3) (spD (ev K) (callF (Pr wl) (n + 1) 3) (ps 3).length) := by
  refine lv_fn rfl rfl F sc3 rfl (by decide) fun cdv A outer s H E hr hc => ?_
  exact (ss_cons (s_ret (e_callT call_tuple_of (n_tuple hc.toCb.hK) rfl (fx.m 2 _ rfl) bt_tuple (a_cons (e_comp hc.calm hc.toCb.nd (i_seq hc.toCb (e_call hc.toCb (L 2 (by decide)) hr rfl (fx.g 2 (by decide)) (fx.k 2 (by decide)) (fx.b 2 (by decide)) (a_cons (e_var rfl) a_nil))) (show BlkOk N3 (defScope (tp 3)) _ [("row", 3)] from ⟨rfl, by decide +kernel, by decide +kernel, by decide +kernel, by decide +kernel⟩) (fun _ _ _ _ _ => (g_name (Cc.blk hc).toCb.nd rfl (Or.inl rfl))) (fun _ _ _ _ _ => ts_nil) (fun _ _ _ _ _ => (e_callT call_tuple_of (n_tuple (Cc.blk hc).toCb.hK) rfl (fx.m 2 _ rfl) bt_tuple (a_cons (e_comp (Cc.blk hc).calm (Cc.blk hc).toCb.nd (i_enum (Cc.blk hc).toCb rfl rfl (fx.m 1 _ rfl) (e_var rfl)) (blk_nest (N := N3) (own := [("at", 1), ("mark", 2)]) (sc := defScope (tp 3)) rfl rfl rfl (by decide +kernel) (by decide +kernel) (by decide +kernel) (by decide +kernel)) (fun _ _ _ _ _ => (g_tup (Cc.blk (Cc.blk hc)).toCb (Cc.blk (Cc.blk hc)).calm (gs_cons (g_name (Cc.blk (Cc.blk hc)).toCb.nd rfl (Or.inl rfl)) (gs_cons (g_name (Cc.blk (Cc.blk hc)).toCb.nd rfl (Or.inl rfl)) gs_nil)))) (fun _ _ _ _ _ => (ts_one (t_ex (Cc.blk (Cc.blk hc)).toCb (e_var rfl)))) (fun _ _ _ _ _ => (e_var rfl)) (by decide)) a_nil))) (by decide)) a_nil))) ss_nil)
theorem d4 (fx : Fx K mg (fa K) fd nm ps bl 24) (kb0 : KB0 fd) (kb1 : KB1 fd) (kb2 : KB2 fd) (L : Lv P w K mg base (ev K) (Pr wl) (fa K) fd ps 24 n) (F : FnP K 4 (fd 4)) : FnOk P w K mg base (L2.CX P w) (n + 2) (fa K 4) (fd 4) (ps 4) (spD (ev K) (callF (Pr wl) (n + 1) 4) (ps 4).length) := by
  refine lv_fn rfl rfl F sc4 rfl (by decide) fun cdv A outer s H E hr hc => ?_
  exact (ss_cons (s_ret (e_callT call_tuple_of (n_tuple hc.toCb.hK) rfl (fx.m 2 _ rfl) bt_tuple (a_cons (e_comp hc.calm hc.toCb.nd (i_enum hc.toCb rfl rfl (fx.m 1 _ rfl) (e_call hc.toCb (L 2 (by decide)) hr rfl (fx.g 2 (by decide)) (fx.k 2 (by decide)) (fx.b 2 (by decide)) (a_cons (e_var rfl) a_nil))) (show BlkOk N4 (defScope (tp 4)) _ [("at", 1), ("row", 2)] from ⟨rfl, by decide +kernel, by decide +kernel, by decide +kernel, by decide +kernel⟩) (fun _ _ _ _ _ => (g_tup (Cc.blk hc).toCb (Cc.blk hc).calm (gs_cons (g_name (Cc.blk hc).toCb.nd rfl (Or.inl rfl)) (gs_cons (g_name (Cc.blk hc).toCb.nd rfl (Or.inl rfl)) gs_nil)))) (fun _ _ _ _ _ => (ts_one (t_not (t_ex (Cc.blk hc).toCb (e_idx (Cc.blk hc).toCb (e_var rfl) e_int))))) (fun _ _ _ _ _ => (e_var rfl)) (by decide)) a_nil))) ss_nil)
theorem d5 (fx : Fx K mg (fa K) fd nm ps bl 24) (kb0 : KB0 fd) (kb1 : KB1 fd) (kb2 : KB2 fd) (L : Lv P w K mg base (ev K) (Pr wl) (fa K) fd ps 24 n) (F : FnP K 5 (fd 5)) : FnOk P w K mg base (L2.CX P w) (n + 2) (fa K 5) (fd 5) (ps 5) (spD (ev K) (callF (Pr wl) (n + 1) 5) (ps 5).length) := by
  refine lv_fn rfl rfl F sc5 rfl (by decide) fun cdv A outer s H E hr hc => ?_
  exact (ss_cons (s_set hc.toCb.nd rfl (Or.inl rfl) (e_idx hc.toCb (e_idx hc.toCb (e_var rfl) (e_var rfl)) (e_var rfl))) (ss_cons (s_ret (e_ifx (t_w (w_and (t_c ob_eq (c_cmp (o_eq hc.toCb.hK hc.toCb.hu64) (v_eq) (e_idx hc.toCb (e_var rfl) e_int) (e_str rfl))) (w_one (t_not (t_ex hc.toCb (e_idx hc.toCb (e_idx hc.toCb (e_var rfl) (e_idx hc.toCb (e_var rfl) e_int)) e_int)))))) (e_tup a_nil) (e_call hc.toCb (L 0 (by decide)) hr rfl (fx.g 0 (by decide)) (fx.k 0 (by decide)) (fx.b 0 (by decide)) (a_cons (e_var rfl) a_nil)))) ss_nil))
theorem d6 (fx : Fx K mg (fa K) fd nm ps bl 24) (kb0 : KB0 fd) (kb1 : KB1 fd) (kb2 : KB2 fd) (L : Lv P w K mg base (ev K) (Pr wl) (fa K) fd ps 24 n) (F : FnP K 6 (fd 6)) : FnOk P w K mg base (L2.CX P w) (n + 2) (fa K 6) (fd 6) (ps 6) (spD (ev K) (callF (Pr wl) (n + 1) 6) (ps 6).length) := by
  refine lv_fn rfl rfl F sc6 rfl (by decide) fun cdv A outer s H E hr hc => ?_
  exact (ss_cons (s_set hc.toCb.nd rfl (Or.inl rfl) (e_box (e_lst (a_cons e_int a_nil)))) (ss_cons (s_set hc.toCb.nd rfl (Or.inl rfl) e_int) (ss_cons (s_whl hc.po (t_c ob_lt (c_cmp o_lt v_lt (e_var rfl) (e_callB c_len (n_len hc.toCb.hK) rfl (fx.m 3 _ rfl) bt_len (a_cons (e_var rfl) a_nil)))) (ss_cons (s_for hc.po hc.calm (i_seq hc.toCb (e_call hc.toCb (L 5 (by decide)) hr rfl (fx.g 5 (by decide)) (fx.k 5 (by decide)) (fx.b 5 (by decide)) (a_cons (e_var rfl) (a_cons (e_var rfl) (a_cons (e_var rfl) (a_cons (e_idx hc.toCb (e_var rfl) (e_var rfl)) a_nil)))))) (g_name hc.toCb.nd rfl (Or.inl rfl)) (ss_cons (s_ite (t_c ob_notIn (c_notIn hc.toCb (e_var rfl) (e_var rfl))) (ss_cons (s_ex (e_append hc.toCb (e_var rfl) (e_var rfl))) ss_nil) ss_nil) ss_nil)) (ss_cons (s_aug hc.toCb.nd rfl (Or.inl rfl) o_iadd v_iadd e_int) ss_nil))) (ss_cons (s_ret (e_var rfl)) ss_nil))))
theorem d7 (fx : Fx K mg (fa K) fd nm ps bl 24) (kb0 : KB0 fd) (kb1 : KB1 fd) (kb2 : KB2 fd) (L : Lv P w K mg base (ev K) (Pr wl) (fa K) fd ps 24 n) (F : FnP K 7 (fd 7)) : FnOk P w K mg base (L2.CX P w) (n + 2) (fa K 7) (fd 7) (ps 7) (spD (ev K) (callF (Pr wl) (n + 1) 7) (ps 7).length) := by
  refine lv_fn rfl rfl F sc7 rfl (by decide) fun cdv A outer s H E hr hc => ?_
  exact (ss_cons (s_ret (e_callT call_tuple_of (n_tuple hc.toCb.hK) rfl (fx.m 2 _ rfl) bt_tuple (a_cons (e_callB cr_sortedI (n_sorted hc.toCb.hK) rfl (fx.m 4 _ rfl) bt_sorted (a_cons (e_call hc.toCb (L 6 (by decide)) hr rfl (fx.g 6 (by decide)) (fx.k 6 (by decide)) (fx.b 6 (by decide)) (a_cons (e_var rfl) (a_cons (e_box (e_call hc.toCb (L 2 (by decide)) hr rfl (fx.g 2 (by decide)) (fx.k 2 (by decide)) (fx.b 2 (by decide)) (a_cons (e_var rfl) a_nil))) (a_cons (e_var rfl) a_nil)))) a_nil)) a_nil))) ss_nil)
theorem d8 (fx : Fx K mg (fa K) fd nm ps bl 24) (kb0 : KB0 fd) (kb1 : KB1 fd) (kb2 : KB2 fd) (L : Lv P w K mg base (ev K) (Pr wl) (fa K) fd ps 24 n) (F : FnP K 8 (fd 8)) : FnOk P w K mg base (L2.CX P w) (n + 2) (fa K 8) (fd 8) (ps 8) (spD (ev K) (callF (Pr wl) (n + 1) 8) (ps 8).length) := by
  refine lv_fn rfl rfl F sc8 rfl (by decide) fun cdv A outer s H E hr hc => ?_
  exact (ss_cons (s_set hc.toCb.nd rfl (Or.inl rfl) (e_box (e_lst (a_cons (e_var rfl) a_nil)))) (ss_cons (s_set hc.toCb.nd rfl (Or.inl rfl) e_int) (ss_cons (s_whl hc.po (t_c ob_lt (c_cmp o_lt v_lt (e_var rfl) (e_callB c_len (n_len hc.toCb.hK) rfl (fx.m 3 _ rfl) bt_len (a_cons (e_var rfl) a_nil)))) (ss_cons (s_for hc.po hc.calm (i_seq hc.toCb (e_call hc.toCb (L 6 (by decide)) hr rfl (fx.g 6 (by decide)) (fx.k 6 (by decide)) (fx.b 6 (by decide)) (a_cons (e_var rfl) (a_cons (e_var rfl) (a_cons (e_idx hc.toCb (e_var rfl) (e_var rfl)) a_nil))))) (g_name hc.toCb.nd rfl (Or.inl rfl)) (ss_cons (s_set hc.toCb.nd rfl (Or.inl rfl) (e_idx hc.toCb (e_idx hc.toCb (e_var rfl) (e_idx hc.toCb (e_var rfl) (e_var rfl))) (e_var rfl))) (ss_cons (s_ite (t_w (w_and (t_c ob_eq (c_cmp (o_eq hc.toCb.hK hc.toCb.hu64) (v_eq) (e_idx hc.toCb (e_var rfl) e_int) (e_str rfl))) (w_and (t_ex hc.toCb (e_idx hc.toCb (e_idx hc.toCb (e_var rfl) (e_idx hc.toCb (e_var rfl) (e_var rfl))) (e_var rfl))) (w_one (t_c ob_notIn (c_notIn hc.toCb (e_idx hc.toCb (e_var rfl) e_int) (e_var rfl))))))) (ss_cons (s_ex (e_append hc.toCb (e_var rfl) (e_idx hc.toCb (e_var rfl) e_int))) ss_nil) ss_nil) ss_nil))) (ss_cons (s_aug hc.toCb.nd rfl (Or.inl rfl) o_iadd v_iadd e_int) ss_nil))) (ss_cons (s_ret (e_var rfl)) ss_nil))))
theorem d9 (fx : Fx K mg (fa K) fd nm ps bl 24) (kb0 : KB0 fd) (kb1 : KB1 fd) (kb2 : KB2 fd) (L : Lv P w K mg base (ev K) (Pr wl) (fa K) fd ps 24 n) (F : FnP K 9 (fd 9)) : FnOk P w K mg base (L2.CX P w) (n + 2) (fa K 9) (fd 9) (ps 9) (spD (ev K) (callF (Pr wl) (n + 1) 9) (ps 9).length) := by
  refine lv_fn rfl rfl F sc9 rfl (by decide) fun cdv A outer s H E hr hc => ?_
  exact (ss_cons (s_ret (e_callT call_tuple_of (n_tuple hc.toCb.hK) rfl (fx.m 2 _ rfl) bt_tuple (a_cons (e_callB cr_sortedI (n_sorted hc.toCb.hK) rfl (fx.m 4 _ rfl) bt_sorted (a_cons (e_call hc.toCb (L 8 (by decide)) hr rfl (fx.g 8 (by decide)) (fx.k 8 (by decide)) (fx.b 8 (by decide)) (a_cons (e_var rfl) (a_cons (e_box (e_call hc.toCb (L 2 (by decide)) hr rfl (fx.g 2 (by decide)) (fx.k 2 (by decide)) (fx.b 2 (by decide)) (a_cons (e_var rfl) a_nil))) (a_cons (e_var rfl) a_nil)))) a_nil)) a_nil))) ss_nil)
theorem d10 (fx : Fx K mg (fa K) fd nm ps bl 24) (kb0 : KB0 fd) (kb1 : KB1 fd) (kb2 : KB2 fd) (L : Lv P w K mg base (ev K) (Pr wl) (fa K) fd ps 24 n) (F : FnP K 10 (fd 10)) : FnOk P w K mg base (L2.CX P w) (n + 2) (fa K 10) (fd 10) (ps 10) (spD (ev K) (callF (Pr wl) (n + 1) 10) (ps 10).length) := by
  refine lv_fn rfl rfl F sc10 rfl (by decide) fun cdv A outer s H E hr hc => ?_
  exact (ss_cons (s_par hc.calm hc.toCb.nd rfl rfl (by decide) rfl rfl (a_cons (e_box (e_lst (a_cons e_int a_nil))) (a_cons e_int a_nil)) rfl) (ss_cons (s_for hc.po hc.calm (i_rng rfl rfl (fx.m 5 _ rfl) (a_cons (e_callB (call_min2 hc.calm) n_min2 rfl (fx.m 6 _ rfl) bt_min (a_cons e_int (a_cons (e_callB c_len (n_len hc.toCb.hK) rfl (fx.m 3 _ rfl) bt_len (a_cons (e_var rfl) a_nil)) a_nil))) a_nil)) (g_name hc.toCb.nd rfl (Or.inl rfl)) (ss_cons (s_set hc.toCb.nd rfl (Or.inl rfl) (e_bin op_modN v_mod (e_callB call_abs n_abs rfl (fx.m 8 _ rfl) bt_abs (a_cons (e_callT c_int n_int1 rfl (fx.m 7 _ rfl) bt_int (a_cons (e_idx hc.toCb (e_var rfl) (e_var rfl)) a_nil)) a_nil)) (e_bin op_pow v_pow e_int e_int))) (ss_cons (s_ex (e_extend hc.toCb (e_var rfl) (e_lst (a_cons (e_bin op_modN v_mod (e_var rfl) e_int) (a_cons (e_bin op_modN v_mod (e_bin o_fdiv v_fdiv (e_var rfl) e_int) e_int) a_nil))))) (ss_cons (s_set hc.toCb.nd rfl (Or.inl rfl) (e_bin op_modN v_mod (e_bin (o_add hc.toCb.hK) v_add (e_bin (o_add hc.toCb.hK) v_add (e_bin (o_add hc.toCb.hK) v_add (e_bin (o_mul hc.toCb.hK) v_mul (e_var rfl) e_int) (e_var rfl)) (e_bin (o_mul hc.toCb.hK) v_mul e_int (e_var rfl))) (e_callT c_int n_int1 rfl (fx.m 7 _ rfl) bt_int (a_cons (e_c (c_cmp o_lt v_lt (e_idx hc.toCb (e_var rfl) (e_var rfl)) e_int)) a_nil))) e_int)) ss_nil)))) (ss_cons (s_ret (e_dict (PD.cons (e_str rfl) (e_var rfl) (PD.cons (e_str rfl) (e_var rfl) (PD.cons (e_str rfl) e_int (PD.cons (e_str rfl) (e_box e_dict0) PD.nil)))) (List.cons_ne_nil _ _))) ss_nil)))
theorem d11 (fx : Fx K mg (fa K) fd nm ps bl 24) (kb0 : KB0 fd) (kb1 : KB1 fd) (kb2 : KB2 fd) (L : Lv P w K mg base (ev K) (Pr wl) (fa K) fd ps 24 n) (F : FnP K 11 (fd 11)) : FnOk P w K mg base (L2.CX P w) (n + 2) (fa K 11) (fd 11) (ps 11) (spD (ev K) (callF (Pr wl) (n + 1) 11) (ps 11).length) := by
  refine lv_fn rfl rfl F sc11 rfl (by decide) fun cdv A outer s H E hr hc => ?_
  exact (ss_cons (s_setItem hc.toCb (e_box (e_bin (o_add hc.toCb.hK) v_add (e_idx hc.toCb (e_var rfl) (e_str rfl)) e_int)) (e_var rfl) (e_str rfl)) (ss_cons (s_set hc.toCb.nd rfl (Or.inl rfl) (e_idx hc.toCb (e_idx hc.toCb (e_var rfl) (e_str rfl)) (e_bin op_modN v_mod (e_callT c_int n_int1 rfl (fx.m 7 _ rfl) bt_int (a_cons (e_bin (o_mul hc.toCb.hK) v_mul (e_idx hc.toCb (e_var rfl) (e_str rfl)) e_int) a_nil)) (e_callB c_len (n_len hc.toCb.hK) rfl (fx.m 3 _ rfl) bt_len (a_cons (e_idx hc.toCb (e_var rfl) (e_str rfl)) a_nil))))) (ss_cons (s_setItem hc.toCb (e_bin op_modN v_mod (e_callT c_int n_int1 rfl (fx.m 7 _ rfl) bt_int (a_cons (e_bin (o_add hc.toCb.hK) v_add (e_bin (o_add hc.toCb.hK) v_add (e_bin (o_mul hc.toCb.hK) v_mul (e_idx hc.toCb (e_var rfl) (e_str rfl)) e_int) (e_bin (o_mul hc.toCb.hK) v_mul (e_var rfl) e_int)) (e_idx hc.toCb (e_var rfl) (e_str rfl))) a_nil)) e_int) (e_var rfl) (e_str rfl)) (ss_cons (s_set hc.toCb.nd rfl (Or.inl rfl) (e_callT c_int n_int1 rfl (fx.m 7 _ rfl) bt_int (a_cons (e_bin o_fdiv v_fdiv (e_idx hc.toCb (e_var rfl) (e_str rfl)) e_int) a_nil))) (ss_cons (s_ite (t_c ob_notIn (c_notIn hc.toCb (e_var rfl) (e_idx hc.toCb (e_var rfl) (e_str rfl)))) (ss_cons (s_setItem hc.toCb (e_bin op_modN v_mod (e_callT c_int n_int1 rfl (fx.m 7 _ rfl) bt_int (a_cons (e_bin o_fdiv v_fdiv (e_var rfl) e_int) a_nil)) e_int) (e_idx hc.toCb (e_var rfl) (e_str rfl)) (e_var rfl)) ss_nil) ss_nil) (ss_cons (s_ite (t_w (w_and (t_c ob_lt (c_cmp o_lt v_lt (e_idx hc.toCb (e_idx hc.toCb (e_var rfl) (e_str rfl)) (e_var rfl)) e_int)) (w_one (t_c ob_gt (c_cmp o_gt v_gt (e_bin op_modN v_mod (e_var rfl) e_int) e_int))))) (ss_cons (s_ret (e_idx hc.toCb (e_tup (a_cons e_int (a_cons (e_bin op_sub v_sub (e_var rfl) e_int) a_nil))) (e_idx hc.toCb (e_idx hc.toCb (e_var rfl) (e_str rfl)) (e_var rfl)))) ss_nil) ss_nil) (ss_cons (s_ret (e_bin op_modN v_mod (e_var rfl) (e_var rfl))) ss_nil)))))))
theorem d12 (fx : Fx K mg (fa K) fd nm ps bl 24) (kb0 : KB0 fd) (kb1 : KB1 fd) (kb2 : KB2 fd) (L : Lv P w K mg base (ev K) (Pr wl) (fa K) fd ps 24 n) (F : FnP K 12 (fd 12)) : FnOk P w K mg base (L2.CX P w) (n + 2) (fa K 12) (fd 12) (ps 12) (spD (ev K) (callF (Pr wl) (n + 1) 12) (ps 12).length) := by
  refine lv_fn rfl rfl F sc12 rfl (by decide) fun cdv A outer s H E hr hc => ?_
  exact (ss_cons (s_set hc.toCb.nd rfl (Or.inr rfl) (e_box (e_bin (o_add hc.toCb.hK) v_add e_int (e_call hc.toCb (L 11 (by decide)) hr rfl (fx.g 11 (by decide)) (fx.k 11 (by decide)) (fx.b 11 (by decide)) (a_cons (e_var rfl) (a_cons e_int (a_cons e_int a_nil))))))) (ss_cons (s_set hc.toCb.nd rfl (Or.inl rfl) (e_box (e_lst a_nil))) (ss_cons (s_for hc.po hc.calm (i_rng rfl rfl (fx.m 5 _ rfl) (a_cons (e_var rfl) a_nil)) (g_name hc.toCb.nd rfl (Or.inl rfl)) (ss_cons (s_set hc.toCb.nd rfl (Or.inl rfl) (e_box (e_call hc.toCb (L 11 (by decide)) hr rfl (fx.g 11 (by decide)) (fx.k 11 (by decide)) (fx.b 11 (by decide)) (a_cons (e_var rfl) (a_cons e_int (a_cons e_int a_nil)))))) (ss_cons (s_set hc.toCb.nd rfl (Or.inl rfl) (e_box (e_ifx (t_c ob_gt (c_cmp o_gt v_gt (e_call hc.toCb (L 11 (by decide)) hr rfl (fx.g 11 (by decide)) (fx.k 11 (by decide)) (fx.b 11 (by decide)) (a_cons (e_var rfl) (a_cons e_int (a_cons e_int a_nil)))) e_int)) (e_bin op_modN v_mod (e_bin (o_add hc.toCb.hK) v_add (e_var rfl) e_int) (e_var rfl)) (e_call hc.toCb (L 11 (by decide)) hr rfl (fx.g 11 (by decide)) (fx.k 11 (by decide)) (fx.b 11 (by decide)) (a_cons (e_var rfl) (a_cons e_int (a_cons (e_var rfl) a_nil))))))) (ss_cons (s_ite (t_c ob_lt (c_cmp o_lt v_lt (e_var rfl) (e_var rfl))) (ss_cons (s_ex (e_append hc.toCb (e_var rfl) (e_tup (a_cons (e_str rfl) (a_cons (e_box (e_ifx (t_c ob_eq (c_cmp (o_eq hc.toCb.hK hc.toCb.hu64) (v_eq) (e_call hc.toCb (L 11 (by decide)) hr rfl (fx.g 11 (by decide)) (fx.k 11 (by decide)) (fx.b 11 (by decide)) (a_cons (e_var rfl) (a_cons e_int (a_cons e_int a_nil)))) e_int)) (e_bin op_modN v_mod (e_bin (o_add hc.toCb.hK) v_add (e_var rfl) e_int) (e_var rfl)) (e_call hc.toCb (L 11 (by decide)) hr rfl (fx.g 11 (by decide)) (fx.k 11 (by decide)) (fx.b 11 (by decide)) (a_cons (e_var rfl) (a_cons e_int (a_cons (e_var rfl) a_nil)))))) (a_cons (e_var rfl) a_nil)))))) ss_nil) (ss_cons (s_ite (t_c ob_lt (c_cmp o_lt v_lt (e_var rfl) e_int)) (ss_cons (s_set hc.toCb.nd rfl (Or.inl rfl) (e_box (e_bin (o_add hc.toCb.hK) v_add e_int (e_call hc.toCb (L 11 (by decide)) hr rfl (fx.g 11 (by decide)) (fx.k 11 (by decide)) (fx.b 11 (by decide)) (a_cons (e_var rfl) (a_cons e_int (a_cons e_int a_nil))))))) (ss_cons (s_ex (e_append hc.toCb (e_var rfl) (e_tup (a_cons (e_str rfl) (a_cons (e_tup (a_cons (e_box (e_call hc.toCb (L 11 (by decide)) hr rfl (fx.g 11 (by decide)) (fx.k 11 (by decide)) (fx.b 11 (by decide)) (a_cons (e_var rfl) (a_cons e_int (a_cons (e_var rfl) a_nil))))) (a_cons (e_var rfl) (a_cons (e_bin op_sub v_sub (e_call hc.toCb (L 11 (by decide)) hr rfl (fx.g 11 (by decide)) (fx.k 11 (by decide)) (fx.b 11 (by decide)) (a_cons (e_var rfl) (a_cons e_int (a_cons e_int a_nil)))) e_int) (a_cons (e_idx hc.toCb (e_tup (a_cons e_int (a_cons (e_un un_neg v_neg e_int) (a_cons e_int a_nil)))) (e_call hc.toCb (L 11 (by decide)) hr rfl (fx.g 11 (by decide)) (fx.k 11 (by decide)) (fx.b 11 (by decide)) (a_cons (e_var rfl) (a_cons e_int (a_cons e_int a_nil))))) a_nil))))) (a_cons (e_var rfl) a_nil)))))) ss_nil)) (ss_cons (s_ite (t_c ob_lt (c_cmp o_lt v_lt (e_var rfl) e_int)) (ss_cons (s_ex (e_append hc.toCb (e_var rfl) (e_tup (a_cons (e_str rfl) (a_cons (e_callT call_tuple_of (n_tuple hc.toCb.hK) rfl (fx.m 2 _ rfl) bt_tuple (a_cons (e_bin (o_add hc.toCb.hK) v_add (e_lst (a_cons (e_var rfl) a_nil)) (e_comp hc.calm hc.toCb.nd (i_rng rfl rfl (fx.m 5 _ rfl) (a_cons (e_bin (o_add hc.toCb.hK) v_add e_int (e_call hc.toCb (L 11 (by decide)) hr rfl (fx.g 11 (by decide)) (fx.k 11 (by decide)) (fx.b 11 (by decide)) (a_cons (e_var rfl) (a_cons e_int (a_cons e_int a_nil))))) a_nil)) (show BlkOk N12 (defScope (tp 12)) _ [("lap", 10)] from ⟨rfl, by decide +kernel, by decide +kernel, by decide +kernel, by decide +kernel⟩) (fun _ _ _ _ _ => (g_name (Cc.blk hc).toCb.nd rfl (Or.inl rfl))) (fun _ _ _ _ _ => ts_nil) (fun _ _ _ _ _ => (e_box (e_call (Cc.blk hc).toCb (L 11 (by decide)) hr rfl (fx.g 11 (by decide)) (fx.k 11 (by decide)) (fx.b 11 (by decide)) (a_cons (e_var rfl) (a_cons e_int (a_cons (e_var rfl) a_nil)))))) (by decide))) a_nil)) a_nil))))) ss_nil) (ss_cons (s_ex (e_append hc.toCb (e_var rfl) (e_tup (a_cons (e_str rfl) a_nil)))) ss_nil)) ss_nil)) ss_nil)) ss_nil)))) (ss_cons (s_ite (t_c ob_gt (c_cmp o_gt v_gt (e_call hc.toCb (L 11 (by decide)) hr rfl (fx.g 11 (by decide)) (fx.k 11 (by decide)) (fx.b 11 (by decide)) (a_cons (e_var rfl) (a_cons e_int (a_cons e_int a_nil)))) e_int)) (ss_cons (s_ex (e_append hc.toCb (e_var rfl) (e_tup (a_cons (e_str rfl) a_nil)))) ss_nil) ss_nil) (ss_cons (s_ret (e_callT call_tuple_of (n_tuple hc.toCb.hK) rfl (fx.m 2 _ rfl) bt_tuple (a_cons (e_var rfl) a_nil))) ss_nil)))))
theorem d13 (fx : Fx K mg (fa K) fd nm ps bl 24) (kb0 : KB0 fd) (kb1 : KB1 fd) (kb2 : KB2 fd) (L : Lv P w K mg base (ev K) (Pr wl) (fa K) fd ps 24 n) (F : FnP K 13 (fd 13)) : FnOk P w K mg base (L2.CX P w) (n + 2) (fa K 13) (fd 13) (ps 13) (spD (ev K) (callF (Pr wl) (n + 1) 13) (ps 13).length) := by
  refine lv_fn rfl rfl F sc13 rfl (by decide) fun cdv A outer s H E hr hc => ?_
  exact (ss_cons (s_set hc.toCb.nd rfl (Or.inr rfl) (e_idx hc.toCb (e_tup (a_cons e_int (a_cons e_int (a_cons e_int (a_cons e_int (a_cons e_int a_nil)))))) (e_call hc.toCb (L 11 (by decide)) hr rfl (fx.g 11 (by decide)) (fx.k 11 (by decide)) (fx.b 11 (by decide)) (a_cons (e_var rfl) (a_cons e_int (a_cons e_int a_nil)))))) (ss_cons (s_set hc.toCb.nd rfl (Or.inr rfl) (e_idx hc.toCb (e_tup (a_cons e_int (a_cons e_int (a_cons e_int a_nil)))) (e_call hc.toCb (L 11 (by decide)) hr rfl (fx.g 11 (by decide)) (fx.k 11 (by decide)) (fx.b 11 (by decide)) (a_cons (e_var rfl) (a_cons e_int (a_cons e_int a_nil)))))) (ss_cons (s_ret (e_callT call_tuple_of (n_tuple hc.toCb.hK) rfl (fx.m 2 _ rfl) bt_tuple (a_cons (e_comp hc.calm hc.toCb.nd (i_rng rfl rfl (fx.m 5 _ rfl) (a_cons (e_var rfl) a_nil)) (show BlkOk N13 (defScope (tp 13)) _ [("word", 3)] from ⟨rfl, by decide +kernel, by decide +kernel, by decide +kernel, by decide +kernel⟩) (fun _ _ _ _ _ => (g_name (Cc.blk hc).toCb.nd rfl (Or.inl rfl))) (fun _ _ _ _ _ => ts_nil) (fun _ _ _ _ _ => (e_box (e_call (Cc.blk hc).toCb (L 12 (by decide)) hr rfl (fx.g 12 (by decide)) (fx.k 12 (by decide)) (fx.b 12 (by decide)) (a_cons (e_var rfl) (a_cons (e_var rfl) (a_cons (e_var rfl) (a_cons (e_var rfl) a_nil))))))) (by decide)) a_nil))) ss_nil)))
theorem d14 (fx : Fx K mg (fa K) fd nm ps bl 24) (kb0 : KB0 fd) (kb1 : KB1 fd) (kb2 : KB2 fd) (L : Lv P w K mg base (ev K) (Pr wl) (fa K) fd ps 24 n) (F : FnP K 14 (fd 14)) : FnOk P w K mg base (L2.CX P w) (n + 2) (fa K 14) (fd 14) (ps 14) (spD (ev K) (callF (Pr wl) (n + 1) 14) (ps 14).length) := by
  refine lv_fn rfl rfl F sc14 rfl (by decide) fun cdv A outer s H E hr hc => ?_
  exact (ss_cons (s_set hc.toCb.nd rfl (Or.inl rfl) (e_box (e_bin (o_add hc.toCb.hK) v_add e_int (e_call hc.toCb (L 11 (by decide)) hr rfl (fx.g 11 (by decide)) (fx.k 11 (by decide)) (fx.b 11 (by decide)) (a_cons (e_var rfl) (a_cons e_int (a_cons e_int a_nil))))))) (ss_cons (s_set hc.toCb.nd rfl (Or.inl rfl) (e_box (e_lst a_nil))) (ss_cons (s_for hc.po hc.calm (i_rng rfl rfl (fx.m 5 _ rfl) (a_cons (e_bin op_sub v_sub (e_var rfl) e_int) a_nil)) (g_name hc.toCb.nd rfl (Or.inl rfl)) (ss_cons (s_set hc.toCb.nd rfl (Or.inl rfl) (e_idx hc.toCb (e_tup (a_cons (e_tup (a_cons (e_tup (a_cons (e_str rfl) (a_cons (e_tup (a_cons e_int (a_cons e_int a_nil))) a_nil))) (a_cons (e_tup (a_cons (e_str rfl) (a_cons (e_box (e_bin (o_add hc.toCb.hK) v_add (e_var rfl) e_int)) (a_cons e_int a_nil)))) (a_cons (e_tup (a_cons (e_str rfl) a_nil)) a_nil)))) (a_cons (e_tup (a_cons (e_tup (a_cons (e_str rfl) (a_cons (e_box (e_bin (o_add hc.toCb.hK) v_add (e_var rfl) e_int)) (a_cons e_int a_nil)))) (a_cons (e_tup (a_cons (e_str rfl) a_nil)) a_nil))) a_nil))) (e_callT c_int n_int1 rfl (fx.m 7 _ rfl) bt_int (a_cons (e_c (c_cmp o_gt v_gt (e_call hc.toCb (L 11 (by decide)) hr rfl (fx.g 11 (by decide)) (fx.k 11 (by decide)) (fx.b 11 (by decide)) (a_cons (e_var rfl) (a_cons e_int (a_cons e_int a_nil)))) e_int)) a_nil)))) (ss_cons (s_ex (e_append hc.toCb (e_var rfl) (e_var rfl))) ss_nil))) (ss_cons (s_set hc.toCb.nd rfl (Or.inl rfl) (e_box (e_call hc.toCb (L 11 (by decide)) hr rfl (fx.g 11 (by decide)) (fx.k 11 (by decide)) (fx.b 11 (by decide)) (a_cons (e_var rfl) (a_cons e_int (a_cons e_int a_nil)))))) (ss_cons (s_ex (e_append hc.toCb (e_var rfl) (e_idx hc.toCb (e_tup (a_cons (e_tup (a_cons (e_tup (a_cons (e_str rfl) a_nil)) a_nil)) (a_cons (e_tup (a_cons (e_tup (a_cons (e_str rfl) (a_cons e_int (a_cons e_int a_nil)))) (a_cons (e_tup (a_cons (e_str rfl) a_nil)) a_nil))) (a_cons (e_tup (a_cons (e_tup (a_cons (e_str rfl) (a_cons (e_bin op_sub v_sub (e_var rfl) e_int) (a_cons e_int a_nil)))) a_nil)) a_nil)))) (e_var rfl)))) (ss_cons (s_ret (e_callT call_tuple_of (n_tuple hc.toCb.hK) rfl (fx.m 2 _ rfl) bt_tuple (a_cons (e_var rfl) a_nil))) ss_nil))))))
theorem d15 (fx : Fx K mg (fa K) fd nm ps bl 24) (kb0 : KB0 fd) (kb1 : KB1 fd) (kb2 : KB2 fd) (L : Lv P w K mg base (ev K) (Pr wl) (fa K) fd ps 24 n) (F : FnP K 15 (fd 15)) : FnOk P w K mg base (L2.CX P w) (n + 2) (fa K 15) (fd 15) (ps 15) (spD (ev K) (callF (Pr wl) (n + 1) 15) (ps 15).length) := by
  refine lv_fn rfl rfl F sc15 rfl (by decide) fun cdv A outer s H E hr hc => ?_
  exact (ss_cons (s_ret (e_ifx (t_c ob_eq (c_cmp (o_eq hc.toCb.hK hc.toCb.hu64) (v_eq) (e_idx hc.toCb (e_var rfl) e_int) (e_str rfl))) (e_idx hc.toCb (e_var rfl) e_int) (e_ifx (t_c ob_ne (c_cmp (o_ne hc.toCb.hK hc.toCb.hu64) (v_ne) (e_idx hc.toCb (e_var rfl) e_int) (e_str rfl))) (e_sl10 hc.toCb (e_var rfl) e_int) (e_tup a_nil)))) ss_nil)
theorem d16 (fx : Fx K mg (fa K) fd nm ps bl 24) (kb0 : KB0 fd) (kb1 : KB1 fd) (kb2 : KB2 fd) (L : Lv P w K mg base (ev K) (Pr wl) (fa K) fd ps 24 n) (F : FnP K 16 (fd 16)) : FnOk P w K mg base (L2.CX P w) (n + 2) (fa K 16) (fd 16) (ps 16) (spD (ev K) (callF (Pr wl) (n + 1) 16) (ps 16).length) := by
  refine lv_fn rfl rfl F sc16 rfl (by decide) fun cdv A outer s H E hr hc => ?_
  exact (ss_cons (by first | exact (s_setLc hc.calm hc.toCb.nd rfl rfl rfl (i_seq hc.toCb (e_var rfl)) (show BlkOk N16 (defScope (tp 16)) _ [("rows", 2)] from ⟨rfl, by decide +kernel, by decide +kernel, by decide +kernel, by decide +kernel⟩) (fun _ _ _ _ _ => (g_name (Cc.blk hc).toCb.nd rfl (Or.inl rfl))) (fun _ _ _ _ _ => ts_nil) (fun _ _ _ _ _ => (e_box (e_bin (o_mul (Cc.blk hc).toCb.hK) v_mul (e_lst (a_cons e_bl a_nil)) (e_callB c_len (n_len (Cc.blk hc).toCb.hK) rfl (fx.m 3 _ rfl) bt_len (a_cons (e_var rfl) a_nil))))) (by decide)) | exact s_set hc.toCb.nd rfl (Or.inr rfl) (e_box (e_comp hc.calm hc.toCb.nd (i_seq hc.toCb (e_var rfl)) (show BlkOk N16 (defScope (tp 16)) _ [("rows", 2)] from ⟨rfl, by decide +kernel, by decide +kernel, by decide +kernel, by decide +kernel⟩) (fun _ _ _ _ _ => (g_name (Cc.blk hc).toCb.nd rfl (Or.inl rfl))) (fun _ _ _ _ _ => ts_nil) (fun _ _ _ _ _ => (e_box (e_bin (o_mul (Cc.blk hc).toCb.hK) v_mul (e_lst (a_cons e_bl a_nil)) (e_callB c_len (n_len (Cc.blk hc).toCb.hK) rfl (fx.m 3 _ rfl) bt_len (a_cons (e_var rfl) a_nil))))) (by decide)))) (ss_cons (s_for hc.po hc.calm (i_rng rfl rfl (fx.m 5 _ rfl) (a_cons (e_bin (o_add hc.toCb.hK) v_add e_int (e_callB (cr_sum hc.calm) (n_sum hc.toCb.hK) rfl (fx.m 9 _ rfl) bt_sum (a_cons (e_comp hc.calm hc.toCb.nd (i_seq hc.toCb (e_var rfl)) (show BlkOk N16 (defScope (tp 16)) _ [("rows", 2)] from ⟨rfl, by decide +kernel, by decide +kernel, by decide +kernel, by decide +kernel⟩) (fun _ _ _ _ _ => (g_name (Cc.blk hc).toCb.nd rfl (Or.inl rfl))) (fun _ _ _ _ _ => ts_nil) (fun _ _ _ _ _ => (e_callB c_len (n_len (Cc.blk hc).toCb.hK) rfl (fx.m 3 _ rfl) bt_len (a_cons (e_var rfl) a_nil))) (by decide)) a_nil))) a_nil)) (g_name hc.toCb.nd rfl (Or.inl rfl)) (ss_cons (s_set hc.toCb.nd rfl (Or.inl rfl) e_bl) (ss_cons (s_for hc.po hc.calm (i_rng rfl rfl (fx.m 5 _ rfl) (a_cons (e_callB c_len (n_len hc.toCb.hK) rfl (fx.m 3 _ rfl) bt_len (a_cons (e_var rfl) a_nil)) a_nil)) (g_name hc.toCb.nd rfl (Or.inr rfl)) (ss_cons (s_for hc.po hc.calm (i_rng rfl rfl (fx.m 5 _ rfl) (a_cons (e_bin op_sub v_sub (e_callB c_len (n_len hc.toCb.hK) rfl (fx.m 3 _ rfl) bt_len (a_cons (e_idx hc.toCb (e_var rfl) (e_var rfl)) a_nil)) e_int) (a_cons (e_un un_neg v_neg e_int) (a_cons (e_un un_neg v_neg e_int) a_nil)))) (g_name hc.toCb.nd rfl (Or.inl rfl)) (ss_cons (s_set hc.toCb.nd rfl (Or.inl rfl) (e_idx hc.toCb (e_idx hc.toCb (e_var rfl) (e_var rfl)) (e_var rfl))) (ss_cons (s_set hc.toCb.nd rfl (Or.inl rfl) (e_or (e_c (c_cmp (o_eq hc.toCb.hK hc.toCb.hu64) (v_eq) (e_idx hc.toCb (e_var rfl) e_int) (e_str rfl))) (e_one (e_c (c_cmp o_gt v_gt (e_callB c_len (n_len hc.toCb.hK) rfl (fx.m 3 _ rfl) bt_len (a_cons (e_comp hc.calm hc.toCb.nd (i_seq hc.toCb (e_call hc.toCb (L 15 (by decide)) hr rfl (fx.g 15 (by decide)) (fx.k 15 (by decide)) (fx.b 15 (by decide)) (a_cons (e_var rfl) a_nil))) (show BlkOk N16 (defScope (tp 16)) _ [("one", 9)] from ⟨rfl, by decide +kernel, by decide +kernel, by decide +kernel, by decide +kernel⟩) (fun _ _ _ _ _ => (g_name (Cc.blk hc).toCb.nd rfl (Or.inl rfl))) (fun _ _ _ _ _ => (ts_one (t_ex (Cc.blk hc).toCb (e_idx (Cc.blk hc).toCb (e_idx (Cc.blk hc).toCb (e_var rfl) (e_var rfl)) (e_var rfl))))) (fun _ _ _ _ _ => (e_var rfl)) (by decide)) a_nil)) e_int))))) (ss_cons (s_ite (t_w (w_and (t_c ob_eq (c_cmp (o_eq hc.toCb.hK hc.toCb.hu64) (v_eq) (e_idx hc.toCb (e_var rfl) e_int) (e_str rfl))) (w_one (t_not (t_ex hc.toCb (e_idx hc.toCb (e_idx hc.toCb (e_var rfl) (e_idx hc.toCb (e_var rfl) e_int)) e_int)))))) (ss_cons (s_set hc.toCb.nd rfl (Or.inl rfl) e_bl) ss_nil) ss_nil) (ss_cons (s_ite (t_w (w_and (t_ex hc.toCb (e_var rfl)) (w_one (t_not (t_ex hc.toCb (e_idx hc.toCb (e_idx hc.toCb (e_var rfl) (e_var rfl)) (e_var rfl))))))) (ss_cons (s_setItem hc.toCb e_bl (e_idx hc.toCb (e_var rfl) (e_var rfl)) (e_var rfl)) (ss_cons (s_set hc.toCb.nd rfl (Or.inl rfl) e_bl) ss_nil)) ss_nil) ss_nil))))) ss_nil)) (ss_cons (s_ite (t_not (t_ex hc.toCb (e_var rfl))) (ss_cons s_brk ss_nil) ss_nil) ss_nil)))) (ss_cons (s_ret (e_var rfl)) ss_nil)))
theorem d17 (fx : Fx K mg (fa K) fd nm ps bl 24) (kb0 : KB0 fd) (kb1 : KB1 fd) (kb2 : KB2 fd) (L : Lv P w K mg base (ev K) (Pr wl) (fa K) fd ps 24 n) (F : FnP K 17 (fd 17)) : FnOk P w K mg base (L2.CX P w) (n + 2) (fa K 17) (fd 17) (ps 17) (spD (ev K) (callF (Pr wl) (n + 1) 17) (ps 17).length) := by
  refine lv_fn rfl rfl F sc17 rfl (by decide) fun cdv A outer s H E hr hc => ?_
  exact (ss_cons (s_par hc.calm hc.toCb.nd rfl rfl (by decide) rfl rfl (a_cons (e_box (e_lst (a_cons e_int a_nil))) (a_cons (e_box (e_lst (a_cons e_int a_nil))) a_nil)) rfl) (ss_cons (s_for hc.po hc.calm (i_rng rfl rfl (fx.m 5 _ rfl) (a_cons (e_bin (o_add hc.toCb.hK) v_add (e_callB c_len (n_len hc.toCb.hK) rfl (fx.m 3 _ rfl) bt_len (a_cons (e_idx hc.toCb (e_var rfl) (e_var rfl)) a_nil)) e_int) a_nil)) (g_name hc.toCb.nd rfl (Or.inl rfl)) (ss_cons (s_ite (t_c ob_eq (c_cmp (o_eq hc.toCb.hK hc.toCb.hu64) (v_eq) (e_callB c_len (n_len hc.toCb.hK) rfl (fx.m 3 _ rfl) bt_len (a_cons (e_var rfl) a_nil)) e_int)) (ss_cons s_brk ss_nil) ss_nil) (ss_cons (s_set hc.toCb.nd rfl (Or.inl rfl) (e_idx hc.toCb (e_idx hc.toCb (e_var rfl) (e_var rfl)) (e_pop hc.toCb (e_var rfl)))) (ss_cons (s_ite (t_w (w_and (t_c ob_eq (c_cmp (o_eq hc.toCb.hK hc.toCb.hu64) (v_eq) (e_idx hc.toCb (e_var rfl) e_int) (e_str rfl))) (w_one (t_not (t_ex hc.toCb (e_idx hc.toCb (e_idx hc.toCb (e_var rfl) (e_idx hc.toCb (e_var rfl) e_int)) e_int)))))) (ss_cons s_cont ss_nil) ss_nil) (ss_cons (s_for hc.po hc.calm (i_seq hc.toCb (e_call hc.toCb (L 15 (by decide)) hr rfl (fx.g 15 (by decide)) (fx.k 15 (by decide)) (fx.b 15 (by decide)) (a_cons (e_var rfl) a_nil))) (g_name hc.toCb.nd rfl (Or.inl rfl)) (ss_cons (s_ite (t_c ob_notIn (c_notIn hc.toCb (e_var rfl) (e_var rfl))) (ss_cons (s_ex (e_append hc.toCb (e_var rfl) (e_var rfl))) (ss_cons (s_ex (e_append hc.toCb (e_var rfl) (e_var rfl))) ss_nil)) ss_nil) ss_nil)) ss_nil))))) (ss_cons (s_ret (e_callB cr_sortedI (n_sorted hc.toCb.hK) rfl (fx.m 4 _ rfl) bt_sorted (a_cons (e_var rfl) a_nil))) ss_nil)))
theorem d18 (fx : Fx K mg (fa K) fd nm ps bl 24) (kb0 : KB0 fd) (kb1 : KB1 fd) (kb2 : KB2 fd) (L : Lv P w K mg base (ev K) (Pr wl) (fa K) fd ps 24 n) (F : FnP K 18 (fd 18)) : FnOk P w K mg base (L2.CX P w) (n + 2) (fa K 18) (fd 18) (ps 18) (spD (ev K) (callF (Pr wl) (n + 1) 18) (ps 18).length) := by
  refine lv_fn rfl rfl F sc18 rfl (by decide) fun cdv A outer s H E hr hc => ?_
  exact (ss_cons (s_set hc.toCb.nd rfl (Or.inl rfl) (e_box (e_lst (a_cons (e_var rfl) a_nil)))) (ss_cons (s_for hc.po hc.calm (i_rng rfl rfl (fx.m 5 _ rfl) (a_cons (e_callB c_len (n_len hc.toCb.hK) rfl (fx.m 3 _ rfl) bt_len (a_cons (e_var rfl) a_nil)) a_nil)) (g_name hc.toCb.nd rfl (Or.inl rfl)) (ss_cons (s_ite (t_c ob_ge (c_cmp o_ge v_ge (e_var rfl) (e_callB c_len (n_len hc.toCb.hK) rfl (fx.m 3 _ rfl) bt_len (a_cons (e_var rfl) a_nil)))) (ss_cons s_brk ss_nil) ss_nil) (ss_cons (s_set hc.toCb.nd rfl (Or.inl rfl) (e_idx hc.toCb (e_var rfl) (e_var rfl))) (ss_cons (s_for hc.po hc.calm (i_seq hc.toCb (e_call hc.toCb (L 17 (by decide)) hr rfl (fx.g 17 (by decide)) (fx.k 17 (by decide)) (fx.b 17 (by decide)) (a_cons (e_var rfl) (a_cons (e_var rfl) (a_cons (e_var rfl) a_nil))))) (g_name hc.toCb.nd rfl (Or.inl rfl)) (ss_cons (s_set hc.toCb.nd rfl (Or.inl rfl) (e_idx hc.toCb (e_idx hc.toCb (e_var rfl) (e_var rfl)) (e_var rfl))) (ss_cons (s_ite (t_w (w_and (t_ex hc.toCb (e_idx hc.toCb (e_idx hc.toCb (e_var rfl) (e_var rfl)) (e_var rfl))) (w_and (t_c ob_eq (c_cmp (o_eq hc.toCb.hK hc.toCb.hu64) (v_eq) (e_idx hc.toCb (e_var rfl) e_int) (e_str rfl))) (w_one (t_c ob_notIn (c_notIn hc.toCb (e_idx hc.toCb (e_var rfl) e_int) (e_var rfl))))))) (ss_cons (s_ex (e_append hc.toCb (e_var rfl) (e_idx hc.toCb (e_var rfl) e_int))) ss_nil) ss_nil) ss_nil))) ss_nil)))) (ss_cons (s_ret (e_callB cr_sortedI (n_sorted hc.toCb.hK) rfl (fx.m 4 _ rfl) bt_sorted (a_cons (e_var rfl) a_nil))) ss_nil)))
theorem d19 (fx : Fx K mg (fa K) fd nm ps bl 24) (kb0 : KB0 fd) (kb1 : KB1 fd) (kb2 : KB2 fd) (L : Lv P w K mg base (ev K) (Pr wl) (fa K) fd ps 24 n) (F : FnP K 19 (fd 19)) : FnOk P w K mg base (L2.CX P w) (n + 2) (fa K 19) (fd 19) (ps 19) (spD (ev K) (callF (Pr wl) (n + 1) 19) (ps 19).length) := by
  refine lv_fn rfl rfl F sc19 rfl (by decide) fun cdv A outer s H E hr hc => ?_
  exact (ss_cons (s_ite (t_ex hc.toCb (e_isi hc.toCb ib rfl (fx.m 10 _ rfl) bt_isinstance (e_var rfl) (pe_bltn rfl (fx.m 2 _ rfl) bt_tuple rfl) (by intro c h; cases h))) (ss_cons (s_ite (t_w (w_or (t_not (t_ex hc.toCb (e_isi hc.toCb ib rfl (fx.m 10 _ rfl) bt_isinstance (e_var rfl) (pe_bltn rfl (fx.m 2 _ rfl) bt_tuple rfl) (by intro c h; cases h)))) (w_one (t_c ob_ne (c_cmp (o_ne hc.toCb.hK hc.toCb.hu64) (v_ne) (e_callB c_len (n_len hc.toCb.hK) rfl (fx.m 3 _ rfl) bt_len (a_cons (e_var rfl) a_nil)) (e_callB c_len (n_len hc.toCb.hK) rfl (fx.m 3 _ rfl) bt_len (a_cons (e_var rfl) a_nil))))))) (ss_cons (s_ret e_bl) ss_nil) ss_nil) (ss_cons (s_ret (e_c (c_cmp (o_eq hc.toCb.hK hc.toCb.hu64) (v_eq) (e_callB c_len (n_len hc.toCb.hK) rfl (fx.m 3 _ rfl) bt_len (a_cons (e_comp hc.calm hc.toCb.nd (i_rng rfl rfl (fx.m 5 _ rfl) (a_cons (e_callB c_len (n_len hc.toCb.hK) rfl (fx.m 3 _ rfl) bt_len (a_cons (e_var rfl) a_nil)) a_nil)) (show BlkOk N19 (defScope (tp 19)) _ [("at", 2)] from ⟨rfl, by decide +kernel, by decide +kernel, by decide +kernel, by decide +kernel⟩) (fun _ _ _ _ _ => (g_name (Cc.blk hc).toCb.nd rfl (Or.inl rfl))) (fun _ _ _ _ _ => (ts_one (t_not (t_ex (Cc.blk hc).toCb (e_call (Cc.blk hc).toCb (L 19 (by decide)) hr rfl (fx.g 19 (by decide)) (fx.k 19 (by decide)) (fx.b 19 (by decide)) (a_cons (e_idx (Cc.blk hc).toCb (e_var rfl) (e_var rfl)) (a_cons (e_idx (Cc.blk hc).toCb (e_var rfl) (e_var rfl)) a_nil))))))) (fun _ _ _ _ _ => (e_var rfl)) (by decide)) a_nil)) e_int))) ss_nil)) ss_nil) (ss_cons (s_ret (e_and (e_isi hc.toCb ib rfl (fx.m 10 _ rfl) bt_isinstance (e_var rfl) (pe_bltn rfl (fx.m 7 _ rfl) bt_int rfl) (by intro c h; cases h)) (e_and (e_notE hc.toCb (e_isi hc.toCb ib rfl (fx.m 10 _ rfl) bt_isinstance (e_var rfl) (pe_bltn rfl (fx.m 11 _ rfl) bt_bool rfl) (by intro c h; cases h))) (e_one (e_c (c_cmp (o_eq hc.toCb.hK hc.toCb.hu64) (v_eq) (e_var rfl) (e_var rfl))))))) ss_nil))
theorem d20 (fx : Fx K mg (fa K) fd nm ps bl 24) (kb0 : KB0 fd) (kb1 : KB1 fd) (kb2 : KB2 fd) (L : Lv P w K mg base (ev K) (Pr wl) (fa K) fd ps 24 n) (F : FnP K 20 (fd 20)) : FnOk P w K mg base (L2.CX P w) (n + 2) (fa K 20) (fd 20) (ps 20) (spD (ev K) (callF (Pr wl) (n + 1) 20) (ps 20).length) := by
  refine lv_fn rfl rfl F sc20 rfl (by decide) fun cdv A outer s H E hr hc => ?_
  exact (ss_cons (s_set hc.toCb.nd rfl (Or.inr rfl) (e_box (e_call hc.toCb (L 16 (by decide)) hr rfl (fx.g 16 (by decide)) (fx.k 16 (by decide)) (fx.b 16 (by decide)) (a_cons (e_var rfl) a_nil)))) (ss_cons (s_set hc.toCb.nd rfl (Or.inl rfl) (e_callT call_tuple_of (n_tuple hc.toCb.hK) rfl (fx.m 2 _ rfl) bt_tuple (a_cons (e_comp hc.calm hc.toCb.nd (i_seq hc.toCb (e_var rfl)) (show BlkOk N20 (defScope (tp 20)) _ [("word", 5)] from ⟨rfl, by decide +kernel, by decide +kernel, by decide +kernel, by decide +kernel⟩) (fun _ _ _ _ _ => (g_name (Cc.blk hc).toCb.nd rfl (Or.inr rfl))) (fun _ _ _ _ _ => ts_nil) (fun _ _ _ _ _ => (e_callT call_tuple_of (n_tuple (Cc.blk hc).toCb.hK) rfl (fx.m 2 _ rfl) bt_tuple (a_cons (e_comp (Cc.blk hc).calm (Cc.blk hc).toCb.nd (i_rng rfl rfl (fx.m 5 _ rfl) (a_cons (e_callB c_len (n_len (Cc.blk hc).toCb.hK) rfl (fx.m 3 _ rfl) bt_len (a_cons (e_var rfl) a_nil)) a_nil)) (blk_nest (N := N20) (own := [("at", 4)]) (sc := defScope (tp 20)) rfl rfl rfl (by decide +kernel) (by decide +kernel) (by decide +kernel) (by decide +kernel)) (fun _ _ _ _ _ => (g_name (Cc.blk (Cc.blk hc)).toCb.nd rfl (Or.inl rfl))) (fun _ _ _ _ _ => (ts_one (t_ex (Cc.blk (Cc.blk hc)).toCb (e_idx (Cc.blk (Cc.blk hc)).toCb (e_var rfl) (e_var rfl))))) (fun _ _ _ _ _ => (e_var rfl)) (by decide)) a_nil))) (by decide)) a_nil))) (ss_cons (s_set hc.toCb.nd rfl (Or.inl rfl) (e_callT call_tuple_of (n_tuple hc.toCb.hK) rfl (fx.m 2 _ rfl) bt_tuple (a_cons (e_comp hc.calm hc.toCb.nd (i_rng rfl rfl (fx.m 5 _ rfl) (a_cons (e_callB c_len (n_len hc.toCb.hK) rfl (fx.m 3 _ rfl) bt_len (a_cons (e_var rfl) a_nil)) a_nil)) (show BlkOk N20 (defScope (tp 20)) _ [("word", 5)] from ⟨rfl, by decide +kernel, by decide +kernel, by decide +kernel, by decide +kernel⟩) (fun _ _ _ _ _ => (g_name (Cc.blk hc).toCb.nd rfl (Or.inl rfl))) (fun _ _ _ _ _ => (ts_one (t_not (t_ex (Cc.blk hc).toCb (e_idx (Cc.blk hc).toCb (e_idx (Cc.blk hc).toCb (e_var rfl) (e_var rfl)) e_int))))) (fun _ _ _ _ _ => (e_var rfl)) (by decide)) a_nil))) (ss_cons (s_set hc.toCb.nd rfl (Or.inl rfl) (e_ifx (t_ex hc.toCb (e_var rfl)) (e_tup (a_cons (e_box (e_callKO hc.toCb (L 3 (by decide)) hr rfl (fx.g 3 (by decide)) (fx.k 3 (by decide)) kb2 (k_cons (e_var rfl) k_nil) (by decide) (fun ds h => match ds, h with | [_], _ => rfl))) (a_cons (e_box (e_callKO hc.toCb (L 4 (by decide)) hr rfl (fx.g 4 (by decide)) (fx.k 4 (by decide)) kb1 (k_cons (e_var rfl) k_nil) (by decide) (fun ds h => match ds, h with | [_], _ => rfl))) a_nil))) (e_tup (a_cons (e_box (e_call hc.toCb (L 3 (by decide)) hr rfl (fx.g 3 (by decide)) (fx.k 3 (by decide)) (fx.b 3 (by decide)) (a_cons (e_var rfl) a_nil))) (a_cons (e_box (e_call hc.toCb (L 4 (by decide)) hr rfl (fx.g 4 (by decide)) (fx.k 4 (by decide)) (fx.b 4 (by decide)) (a_cons (e_var rfl) a_nil))) a_nil))))) (ss_cons (s_ite (t_not (t_ex hc.toCb (e_call hc.toCb (L 19 (by decide)) hr rfl (fx.g 19 (by decide)) (fx.k 19 (by decide)) (fx.b 19 (by decide)) (a_cons (e_var rfl) (a_cons (e_tup (a_cons (e_var rfl) (a_cons (e_var rfl) a_nil))) a_nil))))) (ss_cons (s_ret e_bl) ss_nil) ss_nil) (ss_cons (s_set hc.toCb.nd rfl (Or.inl rfl) (e_box (e_lstRng1 hc rfl (fx.m 12 _ rfl) rfl (fx.m 5 _ rfl) (e_callB c_len (n_len hc.toCb.hK) rfl (fx.m 3 _ rfl) bt_len (a_cons (e_var rfl) a_nil))))) (ss_cons (s_for hc.po hc.calm (i_seq hc.toCb (e_ifx (t_c ob_lt (c_cmp o_lt v_lt (e_callB c_len (n_len hc.toCb.hK) rfl (fx.m 3 _ rfl) bt_len (a_cons (e_var rfl) a_nil)) e_int)) (e_var rfl) (e_lst (a_cons e_int (a_cons (e_bin o_fdiv v_fdiv (e_callB c_len (n_len hc.toCb.hK) rfl (fx.m 3 _ rfl) bt_len (a_cons (e_var rfl) a_nil)) e_int) (a_cons (e_bin op_sub v_sub (e_callB c_len (n_len hc.toCb.hK) rfl (fx.m 3 _ rfl) bt_len (a_cons (e_var rfl) a_nil)) e_int) a_nil)))))) (g_name hc.toCb.nd rfl (Or.inl rfl)) (ss_cons (s_set hc.toCb.nd rfl (Or.inl rfl) (e_tup (a_cons (e_box (e_call hc.toCb (L 7 (by decide)) hr rfl (fx.g 7 (by decide)) (fx.k 7 (by decide)) (fx.b 7 (by decide)) (a_cons (e_var rfl) (a_cons (e_var rfl) a_nil)))) (a_cons (e_box (e_ifx (t_ex hc.toCb (e_var rfl)) (e_callKO hc.toCb (L 9 (by decide)) hr rfl (fx.g 9 (by decide)) (fx.k 9 (by decide)) kb0 (k_cons (e_var rfl) (k_cons (e_var rfl) k_nil)) (by decide) (fun ds h => match ds, h with | [_, _], _ => rfl)) (e_call hc.toCb (L 9 (by decide)) hr rfl (fx.g 9 (by decide)) (fx.k 9 (by decide)) (fx.b 9 (by decide)) (a_cons (e_var rfl) (a_cons (e_var rfl) a_nil))))) a_nil)))) (ss_cons (s_ite (t_not (t_ex hc.toCb (e_call hc.toCb (L 19 (by decide)) hr rfl (fx.g 19 (by decide)) (fx.k 19 (by decide)) (fx.b 19 (by decide)) (a_cons (e_var rfl) (a_cons (e_tup (a_cons (e_callT call_tuple_of (n_tuple hc.toCb.hK) rfl (fx.m 2 _ rfl) bt_tuple (a_cons (e_call hc.toCb (L 17 (by decide)) hr rfl (fx.g 17 (by decide)) (fx.k 17 (by decide)) (fx.b 17 (by decide)) (a_cons (e_var rfl) (a_cons (e_var rfl) (a_cons (e_var rfl) a_nil)))) a_nil)) (a_cons (e_callT call_tuple_of (n_tuple hc.toCb.hK) rfl (fx.m 2 _ rfl) bt_tuple (a_cons (e_call hc.toCb (L 18 (by decide)) hr rfl (fx.g 18 (by decide)) (fx.k 18 (by decide)) (fx.b 18 (by decide)) (a_cons (e_var rfl) (a_cons (e_var rfl) (a_cons (e_var rfl) a_nil)))) a_nil)) a_nil))) a_nil))))) (ss_cons (s_ret e_bl) ss_nil) ss_nil) ss_nil))) (ss_cons (s_ret e_bl) ss_nil))))))))
theorem d21 (fx : Fx K mg (fa K) fd nm ps bl 24) (kb0 : KB0 fd) (kb1 : KB1 fd) (kb2 : KB2 fd) (L : Lv P w K mg base (ev K) (Pr wl) (fa K) fd ps 24 n) (F : FnP K 21 (fd 21)) : FnOk P w K mg base (L2.CX P w) (n + 2) (fa K 21) (fd 21) (ps 21) (spD (ev K) (callF (Pr wl) (n + 1) 21) (ps 21).length) := by
  refine lv_fn rfl rfl F sc21 rfl (by decide) fun cdv A outer s H E hr hc => ?_
  exact (ss_cons (s_set hc.toCb.nd rfl (Or.inl rfl) (e_box (e_call hc.toCb (L 11 (by decide)) hr rfl (fx.g 11 (by decide)) (fx.k 11 (by decide)) (fx.b 11 (by decide)) (a_cons (e_var rfl) (a_cons e_int (a_cons (e_callB c_len (n_len hc.toCb.hK) rfl (fx.m 3 _ rfl) bt_len (a_cons (e_var rfl) a_nil)) a_nil)))))) (ss_cons (s_set hc.toCb.nd rfl (Or.inl rfl) (e_box (e_call hc.toCb (L 11 (by decide)) hr rfl (fx.g 11 (by decide)) (fx.k 11 (by decide)) (fx.b 11 (by decide)) (a_cons (e_var rfl) (a_cons e_int (a_cons (e_callB c_len (n_len hc.toCb.hK) rfl (fx.m 3 _ rfl) bt_len (a_cons (e_idx hc.toCb (e_var rfl) (e_var rfl)) a_nil)) a_nil)))))) (ss_cons (s_set hc.toCb.nd rfl (Or.inl rfl) (e_ifx (t_c ob_eq (c_cmp (o_eq hc.toCb.hK hc.toCb.hu64) (v_eq) (e_call hc.toCb (L 11 (by decide)) hr rfl (fx.g 11 (by decide)) (fx.k 11 (by decide)) (fx.b 11 (by decide)) (a_cons (e_var rfl) (a_cons e_int (a_cons e_int a_nil)))) e_int)) (e_tup (a_cons (e_str rfl) a_nil)) (e_tup (a_cons (e_str rfl) (a_cons (e_box (e_call hc.toCb (L 11 (by decide)) hr rfl (fx.g 11 (by decide)) (fx.k 11 (by decide)) (fx.b 11 (by decide)) (a_cons (e_var rfl) (a_cons e_int (a_cons (e_callB c_len (n_len hc.toCb.hK) rfl (fx.m 3 _ rfl) bt_len (a_cons (e_var rfl) a_nil)) a_nil))))) (a_cons (e_box (e_call hc.toCb (L 11 (by decide)) hr rfl (fx.g 11 (by decide)) (fx.k 11 (by decide)) (fx.b 11 (by decide)) (a_cons (e_var rfl) (a_cons e_int (a_cons (e_callB c_len (n_len hc.toCb.hK) rfl (fx.m 3 _ rfl) bt_len (a_cons (e_idx hc.toCb (e_var rfl) (e_var rfl)) a_nil)) a_nil))))) a_nil)))))) (ss_cons (s_ret (e_bin (o_add hc.toCb.hK) v_add (e_bin (o_add hc.toCb.hK) v_add (e_sl01 hc.toCb (e_var rfl) (e_var rfl)) (e_tup (a_cons (e_box (e_bin (o_add hc.toCb.hK) v_add (e_bin (o_add hc.toCb.hK) v_add (e_sl01 hc.toCb (e_idx hc.toCb (e_var rfl) (e_var rfl)) (e_var rfl)) (e_tup (a_cons (e_var rfl) a_nil))) (e_sl10 hc.toCb (e_idx hc.toCb (e_var rfl) (e_var rfl)) (e_bin (o_add hc.toCb.hK) v_add (e_var rfl) e_int)))) a_nil))) (e_sl10 hc.toCb (e_var rfl) (e_bin (o_add hc.toCb.hK) v_add (e_var rfl) e_int)))) ss_nil))))
theorem d22 (fx : Fx K mg (fa K) fd nm ps bl 24) (kb0 : KB0 fd) (kb1 : KB1 fd) (kb2 : KB2 fd) (L : Lv P w K mg base (ev K) (Pr wl) (fa K) fd ps 24 n) (F : FnP K 22 (fd 22)) : FnOk P w K mg base (L2.CX P w) (n + 2) (fa K 22) (fd 22) (ps 22) (spD (ev K) (callF (Pr wl) (n + 1) 22) (ps 22).length) := by
  refine lv_fn rfl rfl F sc22 rfl (by decide) fun cdv A outer s H E hr hc => ?_
  exact (ss_cons (s_asg (e_tup (a_cons (e_tup (a_cons (e_str rfl) (a_cons (e_tup (a_cons e_int (a_cons e_int (a_cons e_int (a_cons e_int a_nil))))) (a_cons e_int a_nil)))) (a_cons (e_tup (a_cons (e_str rfl) a_nil)) a_nil))) (g_tup hc.toCb hc.calm (gs_cons (g_name hc.toCb.nd rfl (Or.inl rfl)) (gs_cons (g_name hc.toCb.nd rfl (Or.inl rfl)) gs_nil)))) (ss_cons (s_set hc.toCb.nd rfl (Or.inl rfl) (e_box (e_lst (a_cons (e_tup (a_cons (e_tup (a_cons (e_tup (a_cons (e_tup (a_cons (e_str rfl) (a_cons e_int (a_cons e_int a_nil)))) (a_cons (e_var rfl) a_nil))) a_nil)) (a_cons (e_tup (a_cons (e_tup (a_cons e_int a_nil)) a_nil)) (a_cons (e_tup (a_cons e_int a_nil)) (a_cons (e_tup (a_cons (e_tup (a_cons e_int a_nil)) a_nil)) (a_cons (e_tup (a_cons (e_tup (a_cons e_int a_nil)) a_nil)) a_nil)))))) a_nil)))) (ss_cons (s_set hc.toCb.nd rfl (Or.inl rfl) (e_box (e_bin (o_add hc.toCb.hK) v_add (e_var rfl) (e_lst (a_cons (e_tup (a_cons (e_tup (a_cons (e_tup (a_cons (e_tup (a_cons (e_str rfl) (a_cons (e_tup (a_cons e_int (a_cons e_int a_nil))) a_nil))) (a_cons (e_var rfl) a_nil))) a_nil)) (a_cons (e_tup (a_cons (e_tup (a_cons e_int a_nil)) a_nil)) (a_cons (e_tup (a_cons e_int a_nil)) (a_cons (e_tup (a_cons (e_tup (a_cons e_int a_nil)) a_nil)) (a_cons (e_tup (a_cons (e_tup (a_cons e_int a_nil)) a_nil)) a_nil)))))) a_nil))))) (ss_cons (s_set hc.toCb.nd rfl (Or.inl rfl) (e_box (e_bin (o_add hc.toCb.hK) v_add (e_var rfl) (e_lst (a_cons (e_tup (a_cons (e_tup (a_cons (e_tup (a_cons (e_tup (a_cons (e_str rfl) (a_cons (e_tup (a_cons e_int (a_cons e_int a_nil))) a_nil))) (a_cons (e_var rfl) a_nil))) a_nil)) (a_cons (e_tup (a_cons (e_tup (a_cons e_int (a_cons e_int a_nil))) a_nil)) (a_cons (e_tup a_nil) (a_cons (e_tup (a_cons (e_tup (a_cons e_int (a_cons e_int a_nil))) a_nil)) (a_cons (e_tup (a_cons (e_tup (a_cons e_int a_nil)) a_nil)) a_nil)))))) a_nil))))) (ss_cons (s_ex (e_append hc.toCb (e_var rfl) (e_tup (a_cons (e_tup (a_cons (e_tup (a_cons (e_tup (a_cons (e_str rfl) (a_cons e_int (a_cons e_int a_nil)))) (a_cons (e_var rfl) a_nil))) (a_cons (e_tup (a_cons (e_tup (a_cons (e_str rfl) (a_cons e_int (a_cons e_int a_nil)))) (a_cons (e_var rfl) a_nil))) a_nil))) (a_cons (e_tup (a_cons (e_tup (a_cons e_int a_nil)) (a_cons (e_tup (a_cons e_int a_nil)) a_nil))) (a_cons (e_tup (a_cons e_int (a_cons e_int a_nil))) (a_cons (e_tup (a_cons (e_tup (a_cons e_int a_nil)) (a_cons (e_tup (a_cons e_int a_nil)) a_nil))) (a_cons (e_tup (a_cons (e_tup (a_cons e_int a_nil)) (a_cons (e_tup (a_cons e_int a_nil)) a_nil))) a_nil)))))))) (ss_cons (s_set hc.toCb.nd rfl (Or.inl rfl) (e_tup (a_cons (e_tup (a_cons (e_tup (a_cons (e_str rfl) (a_cons (e_tup (a_cons e_int (a_cons e_int a_nil))) a_nil))) (a_cons (e_tup (a_cons (e_str rfl) (a_cons e_int (a_cons e_int a_nil)))) (a_cons (e_tup (a_cons (e_str rfl) (a_cons e_int (a_cons e_int a_nil)))) (a_cons (e_var rfl) a_nil))))) (a_cons (e_tup (a_cons (e_tup (a_cons (e_str rfl) (a_cons e_int (a_cons e_int a_nil)))) (a_cons (e_var rfl) a_nil))) (a_cons (e_tup (a_cons (e_var rfl) a_nil)) a_nil))))) (ss_cons (s_ex (e_append hc.toCb (e_var rfl) (e_tup (a_cons (e_var rfl) (a_cons (e_tup (a_cons (e_tup (a_cons e_int (a_cons e_int (a_cons e_int a_nil)))) (a_cons (e_tup (a_cons e_int a_nil)) (a_cons (e_tup (a_cons e_int a_nil)) a_nil)))) (a_cons (e_tup (a_cons e_int a_nil)) (a_cons (e_tup (a_cons (e_tup (a_cons e_int (a_cons e_int (a_cons e_int a_nil)))) (a_cons (e_tup (a_cons e_int a_nil)) (a_cons (e_tup (a_cons e_int a_nil)) a_nil)))) (a_cons (e_tup (a_cons (e_tup (a_cons e_int a_nil)) (a_cons (e_tup (a_cons e_int a_nil)) (a_cons (e_tup (a_cons e_int a_nil)) a_nil)))) a_nil)))))))) (ss_cons (s_ex (e_append hc.toCb (e_var rfl) (e_tup (a_cons (e_tup (a_cons (e_tup (a_cons (e_tup (a_cons (e_str rfl) (a_cons (e_tup (a_cons e_int (a_cons e_int a_nil))) a_nil))) (a_cons (e_tup (a_cons (e_str rfl) (a_cons e_int (a_cons e_int a_nil)))) (a_cons (e_var rfl) a_nil)))) a_nil)) (a_cons (e_tup (a_cons (e_tup (a_cons e_int (a_cons e_int (a_cons e_int a_nil)))) a_nil)) (a_cons (e_tup a_nil) (a_cons (e_tup (a_cons (e_tup (a_cons e_int (a_cons e_int (a_cons e_int a_nil)))) a_nil)) (a_cons (e_tup (a_cons (e_tup (a_cons e_int a_nil)) a_nil)) a_nil)))))))) (ss_cons (s_set hc.toCb.nd rfl (Or.inl rfl) (e_tup (a_cons (e_tup (a_cons (e_var rfl) (a_cons (e_tup (a_cons (e_str rfl) (a_cons e_int (a_cons e_int a_nil)))) (a_cons (e_var rfl) a_nil)))) (a_cons (e_tup (a_cons (e_tup (a_cons (e_str rfl) (a_cons (e_tup (a_cons e_int (a_cons e_int a_nil))) a_nil))) (a_cons (e_tup (a_cons (e_str rfl) (a_cons e_int (a_cons e_int a_nil)))) (a_cons (e_var rfl) a_nil)))) (a_cons (e_tup (a_cons (e_var rfl) (a_cons (e_tup (a_cons (e_str rfl) (a_cons e_int (a_cons e_int a_nil)))) a_nil))) a_nil))))) (ss_cons (s_ex (e_append hc.toCb (e_var rfl) (e_tup (a_cons (e_var rfl) (a_cons (e_tup (a_cons (e_tup (a_cons e_int (a_cons e_int (a_cons e_int a_nil)))) (a_cons (e_tup (a_cons e_int (a_cons e_int (a_cons e_int a_nil)))) (a_cons (e_tup (a_cons e_int (a_cons e_int a_nil))) a_nil)))) (a_cons (e_tup a_nil) (a_cons (e_tup (a_cons (e_tup (a_cons e_int (a_cons e_int (a_cons e_int a_nil)))) (a_cons (e_tup (a_cons e_int (a_cons e_int (a_cons e_int a_nil)))) (a_cons (e_tup (a_cons e_int a_nil)) a_nil)))) (a_cons (e_tup (a_cons (e_tup (a_cons e_int (a_cons e_int (a_cons e_int a_nil)))) (a_cons (e_tup (a_cons e_int (a_cons e_int a_nil))) (a_cons (e_tup (a_cons e_int a_nil)) a_nil)))) a_nil)))))))) (ss_cons (s_ex (e_append hc.toCb (e_var rfl) (e_tup (a_cons (e_tup (a_cons (e_tup (a_cons (e_var rfl) (a_cons (e_tup (a_cons (e_str rfl) (a_cons (e_tup (a_cons e_int (a_cons e_int a_nil))) a_nil))) (a_cons (e_tup (a_cons (e_str rfl) (a_cons e_int (a_cons e_int a_nil)))) (a_cons (e_var rfl) a_nil))))) (a_cons (e_tup (a_cons (e_var rfl) a_nil)) a_nil))) (a_cons (e_tup (a_cons (e_tup (a_cons e_int (a_cons e_int a_nil))) (a_cons (e_tup (a_cons e_int a_nil)) a_nil))) (a_cons (e_tup (a_cons e_int a_nil)) (a_cons (e_tup (a_cons (e_tup (a_cons e_int (a_cons e_int a_nil))) (a_cons (e_tup (a_cons e_int a_nil)) a_nil))) (a_cons (e_tup (a_cons (e_tup (a_cons e_int a_nil)) (a_cons (e_tup (a_cons e_int a_nil)) a_nil))) a_nil)))))))) (ss_cons (s_for hc.po hc.calm (i_seq hc.toCb (e_var rfl)) (g_tup hc.toCb hc.calm (gs_cons (g_name hc.toCb.nd rfl (Or.inr rfl)) (gs_cons (g_name hc.toCb.nd rfl (Or.inl rfl)) (gs_cons (g_name hc.toCb.nd rfl (Or.inl rfl)) (gs_cons (g_name hc.toCb.nd rfl (Or.inl rfl)) (gs_cons (g_name hc.toCb.nd rfl (Or.inl rfl)) gs_nil)))))) (ss_cons (s_set hc.toCb.nd rfl (Or.inl rfl) (e_box (e_lstRng1 hc rfl (fx.m 12 _ rfl) rfl (fx.m 5 _ rfl) (e_callB c_len (n_len hc.toCb.hK) rfl (fx.m 3 _ rfl) bt_len (a_cons (e_var rfl) a_nil))))) (ss_cons (s_set hc.toCb.nd rfl (Or.inl rfl) (e_tup (a_cons (e_callT call_tuple_of (n_tuple hc.toCb.hK) rfl (fx.m 2 _ rfl) bt_tuple (a_cons (e_comp hc.calm hc.toCb.nd (i_seq hc.toCb (e_var rfl)) (show BlkOk N22 (defScope (tp 22)) _ [("word", 11)] from ⟨rfl, by decide +kernel, by decide +kernel, by decide +kernel, by decide +kernel⟩) (fun _ _ _ _ _ => (g_name (Cc.blk hc).toCb.nd rfl (Or.inl rfl))) (fun _ _ _ _ _ => ts_nil) (fun _ _ _ _ _ => (e_box (e_call (Cc.blk hc).toCb (L 7 (by decide)) hr rfl (fx.g 7 (by decide)) (fx.k 7 (by decide)) (fx.b 7 (by decide)) (a_cons (e_var rfl) (a_cons (e_var rfl) a_nil))))) (by decide)) a_nil)) (a_cons (e_callT call_tuple_of (n_tuple hc.toCb.hK) rfl (fx.m 2 _ rfl) bt_tuple (a_cons (e_comp hc.calm hc.toCb.nd (i_seq hc.toCb (e_var rfl)) (show BlkOk N22 (defScope (tp 22)) _ [("word", 11)] from ⟨rfl, by decide +kernel, by decide +kernel, by decide +kernel, by decide +kernel⟩) (fun _ _ _ _ _ => (g_name (Cc.blk hc).toCb.nd rfl (Or.inl rfl))) (fun _ _ _ _ _ => ts_nil) (fun _ _ _ _ _ => (e_box (e_call (Cc.blk hc).toCb (L 9 (by decide)) hr rfl (fx.g 9 (by decide)) (fx.k 9 (by decide)) (fx.b 9 (by decide)) (a_cons (e_var rfl) (a_cons (e_var rfl) a_nil))))) (by decide)) a_nil)) a_nil)))) (ss_cons (s_set hc.toCb.nd rfl (Or.inl rfl) (e_box (e_bin (o_add hc.toCb.hK) v_add (e_tup (a_cons (e_box (e_call hc.toCb (L 3 (by decide)) hr rfl (fx.g 3 (by decide)) (fx.k 3 (by decide)) (fx.b 3 (by decide)) (a_cons (e_var rfl) a_nil))) (a_cons (e_box (e_call hc.toCb (L 4 (by decide)) hr rfl (fx.g 4 (by decide)) (fx.k 4 (by decide)) (fx.b 4 (by decide)) (a_cons (e_var rfl) a_nil))) a_nil))) (e_var rfl)))) (ss_cons (s_ite (t_not (t_ex hc.toCb (e_call hc.toCb (L 19 (by decide)) hr rfl (fx.g 19 (by decide)) (fx.k 19 (by decide)) (fx.b 19 (by decide)) (a_cons (e_var rfl) (a_cons (e_tup (a_cons (e_var rfl) (a_cons (e_var rfl) (a_cons (e_var rfl) (a_cons (e_var rfl) a_nil))))) a_nil))))) (ss_cons (s_ret e_bl) ss_nil) ss_nil) ss_nil))))) (ss_cons (s_ret e_bl) ss_nil)))))))))))))
theorem d23 (fx : Fx K mg (fa K) fd nm ps bl 24) (kb0 : KB0 fd) (kb1 : KB1 fd) (kb2 : KB2 fd) (L : Lv P w K mg base (ev K) (Pr wl) (fa K) fd ps 24 n) (F : FnP K 23 (fd 23)) : FnOk P w K mg base (L2.CX P w) (n + 2) (fa K 23) (fd 23) (ps 23) (spD (ev K) (callF (Pr wl) (n + 1) 23) (ps 23).length) := by
  refine lv_fn rfl rfl F sc23 rfl (by decide) fun cdv A outer s H E hr hc => ?_
  exact (ss_cons (s_set hc.toCb.nd rfl (Or.inl rfl) (e_box (e_call hc.toCb (L 10 (by decide)) hr rfl (fx.g 10 (by decide)) (fx.k 10 (by decide)) (fx.b 10 (by decide)) (a_cons (e_var rfl) a_nil)))) (ss_cons (s_ite (t_not (t_ex hc.toCb (e_call0 hc.toCb (L 22 (by decide)) hr rfl (fx.g 22 (by decide)) (fx.k 22 (by decide)) (fx.b 22 (by decide))))) (ss_cons (s_ret e_bl) ss_nil) ss_nil) (ss_cons (s_for hc.po hc.calm (i_rng rfl rfl (fx.m 5 _ rfl) (a_cons e_int a_nil)) (g_name hc.toCb.nd rfl (Or.inl rfl)) (ss_cons (s_set hc.toCb.nd rfl (Or.inl rfl) (e_box (e_call hc.toCb (L 13 (by decide)) hr rfl (fx.g 13 (by decide)) (fx.k 13 (by decide)) (fx.b 13 (by decide)) (a_cons (e_var rfl) a_nil)))) (ss_cons (s_ite (t_w (w_or (t_not (t_ex hc.toCb (e_call hc.toCb (L 20 (by decide)) hr rfl (fx.g 20 (by decide)) (fx.k 20 (by decide)) (fx.b 20 (by decide)) (a_cons (e_var rfl) (a_cons (e_c (c_cmp (o_eq hc.toCb.hK hc.toCb.hu64) (v_eq) (e_var rfl) e_int)) a_nil))))) (w_or (t_not (t_ex hc.toCb (e_call hc.toCb (L 20 (by decide)) hr rfl (fx.g 20 (by decide)) (fx.k 20 (by decide)) (fx.b 20 (by decide)) (a_cons (e_box (e_call hc.toCb (L 21 (by decide)) hr rfl (fx.g 21 (by decide)) (fx.k 21 (by decide)) (fx.b 21 (by decide)) (a_cons (e_var rfl) (a_cons (e_var rfl) a_nil)))) (a_cons e_bl a_nil))))) (w_one (t_not (t_ex hc.toCb (e_call hc.toCb (L 20 (by decide)) hr rfl (fx.g 20 (by decide)) (fx.k 20 (by decide)) (fx.b 20 (by decide)) (a_cons (e_box (e_call hc.toCb (L 14 (by decide)) hr rfl (fx.g 14 (by decide)) (fx.k 14 (by decide)) (fx.b 14 (by decide)) (a_cons (e_var rfl) a_nil))) (a_cons (e_c (c_cmp (o_eq hc.toCb.hK hc.toCb.hu64) (v_eq) (e_var rfl) e_int)) a_nil))))))))) (ss_cons (s_ret e_bl) ss_nil) ss_nil) ss_nil))) (ss_cons (s_ite (t_c ob_ne (c_cmp (o_ne hc.toCb.hK hc.toCb.hu64) (v_ne) (e_call hc.toCb (L 11 (by decide)) hr rfl (fx.g 11 (by decide)) (fx.k 11 (by decide)) (fx.b 11 (by decide)) (a_cons (e_var rfl) (a_cons e_int (a_cons e_int a_nil)))) e_int)) (ss_cons (s_ret e_bl) ss_nil) ss_nil) (ss_cons (s_set hc.toCb.nd rfl (Or.inl rfl) (e_callT call_tuple_of (n_tuple hc.toCb.hK) rfl (fx.m 2 _ rfl) bt_tuple (a_cons (e_comp hc.calm hc.toCb.nd (i_rng rfl rfl (fx.m 5 _ rfl) (a_cons e_int (a_cons e_int a_nil))) (show BlkOk N23 (defScope (tp 23)) _ [("at", 5)] from ⟨rfl, by decide +kernel, by decide +kernel, by decide +kernel, by decide +kernel⟩) (fun _ _ _ _ _ => (g_name (Cc.blk hc).toCb.nd rfl (Or.inl rfl))) (fun _ _ _ _ _ => ts_nil) (fun _ _ _ _ _ => (e_tup (a_cons (e_str rfl) (a_cons (e_tup (a_cons (e_var rfl) (a_cons (e_bin op_sub v_sub (e_var rfl) e_int) a_nil))) a_nil)))) (by decide)) a_nil))) (ss_cons (s_set hc.toCb.nd rfl (Or.inl rfl) (e_box (e_bin (o_add hc.toCb.hK) v_add (e_bin (o_add hc.toCb.hK) v_add (e_tup (a_cons (e_tup (a_cons (e_str rfl) (a_cons (e_tup (a_cons e_int (a_cons e_int (a_cons e_int (a_cons e_int a_nil))))) (a_cons e_int a_nil)))) (a_cons (e_tup (a_cons (e_str rfl) (a_cons e_int (a_cons e_int a_nil)))) a_nil))) (e_var rfl)) (e_tup (a_cons (e_tup (a_cons (e_str rfl) a_nil)) a_nil))))) (ss_cons (s_set hc.toCb.nd rfl (Or.inl rfl) (e_box (e_bin (o_add hc.toCb.hK) v_add (e_bin (o_add hc.toCb.hK) v_add (e_tup (a_cons (e_var rfl) a_nil)) (e_callT call_tuple_of (n_tuple hc.toCb.hK) rfl (fx.m 2 _ rfl) bt_tuple (a_cons (e_comp hc.calm hc.toCb.nd (i_rng rfl rfl (fx.m 5 _ rfl) (a_cons e_int (a_cons e_int a_nil))) (show BlkOk N23 (defScope (tp 23)) _ [("word", 7)] from ⟨rfl, by decide +kernel, by decide +kernel, by decide +kernel, by decide +kernel⟩) (fun _ _ _ _ _ => (g_name (Cc.blk hc).toCb.nd rfl (Or.inl rfl))) (fun _ _ _ _ _ => ts_nil) (fun _ _ _ _ _ => (e_tup (a_cons (e_tup (a_cons (e_str rfl) (a_cons (e_box (e_bin (o_add (Cc.blk hc).toCb.hK) v_add (e_var rfl) e_int)) (a_cons e_int a_nil)))) (a_cons (e_tup (a_cons (e_str rfl) a_nil)) a_nil)))) (by decide)) a_nil))) (e_tup (a_cons (e_tup (a_cons (e_tup (a_cons (e_str rfl) a_nil)) a_nil)) a_nil))))) (ss_cons (s_ret (e_and (e_call hc.toCb (L 20 (by decide)) hr rfl (fx.g 20 (by decide)) (fx.k 20 (by decide)) (fx.b 20 (by decide)) (a_cons (e_var rfl) (a_cons e_bl a_nil))) (e_one (e_call hc.toCb (L 20 (by decide)) hr rfl (fx.g 20 (by decide)) (fx.k 20 (by decide)) (fx.b 20 (by decide)) (a_cons (e_box (e_bin (o_add hc.toCb.hK) v_add (e_sl01 hc.toCb (e_var rfl) (e_un un_neg v_neg e_int)) (e_tup (a_cons (e_tup (a_cons (e_tup (a_cons (e_str rfl) (a_cons e_int (a_cons e_int a_nil)))) a_nil)) a_nil)))) (a_cons e_bl a_nil)))))) ss_nil))))))))
end
def wlF : Nat := 2 ^ 1000
set_option maxHeartbeats 0
/-! ### the head -/
def mkD (i : Nat) : He.DefD := ⟨(nm i, none), nm i, nm i, defArgs (tp i), defBody (tp i), defScope (tp i), [], []⟩
def hfn : List He.DefD := (List.range 24).map mkD
def hfa : List He.Fa := (List.range 24).map (fun i => .glo (nm i)) ++ bl.map .free
abbrev RO : PySem.W.OpenRow := PySem.W.OpenLaw.row PySem.Challenge.rw_whichpass_k09_ends
abbrev hk : PySem.W.Hook := He.hookD 5 hfa hfn
def ob (s : PySem.W.SharedT) : He.AlD := He.obsDG 5 hfa hfn (HandSHeadRun.getT s)
theorem ob_eq (s : PySem.W.SharedT) : ob s = hk.obs s.abs := He.obsDG_eq (HandSHeadRun.getT_eq s)
def loose : List PySem.Str := (["nexts_of", "goes_on", "ended_marks", "ended_rows", "lost_words", "ways_on", "met_by", "met_rows", "needed_by", "needed_words", "_law_rack", "_law_cork", "_law_word", "_law_code"] : List PySem.Str) ++ (["_law_chain", "_law_nexts", "_law_ended", "_law_met", "_law_needed", "_law_same", "_law_asked", "_law_turned", "_law_hand"] : List PySem.Str)
theorem run (w : World) : HandSHeadRun.RunEq RO (PySem.W.view RO.prog [26]) hk ob 2000 loose w := by
  intro os
  kernel_rfl
theorem bn0 {K : PySem.W.Frag} {fd : FuncData} (F : FnP K 0 fd) : Binds K fd (ps 0) [] := F.bindsN fun _ _ _ _ _ _ us hl => match us, hl with | [_], _ => rfl
theorem bn1 {K : PySem.W.Frag} {fd : FuncData} (F : FnP K 1 fd) : Binds K fd (ps 1) [] := F.bindsN fun _ _ _ _ _ _ us hl => match us, hl with | [_, _, _, _], _ => rfl
theorem bn2 {K : PySem.W.Frag} {fd : FuncData} (F : FnP K 2 fd) : Binds K fd (ps 2) [] := F.bindsN fun _ _ _ _ _ _ us hl => match us, hl with | [_], _ => rfl
theorem bn3 {K : PySem.W.Frag} {fd : FuncData} (F : FnP K 3 fd) : Binds K fd (ps 3) [] := F.bindsN fun _ _ _ _ _ _ us hl => match us, hl with | [_], _ => rfl
theorem bn4 {K : PySem.W.Frag} {fd : FuncData} (F : FnP K 4 fd) : Binds K fd (ps 4) [] := F.bindsN fun _ _ _ _ _ _ us hl => match us, hl with | [_], _ => rfl
theorem bn5 {K : PySem.W.Frag} {fd : FuncData} (F : FnP K 5 fd) : Binds K fd (ps 5) [] := F.bindsN fun _ _ _ _ _ _ us hl => match us, hl with | [_, _, _, _], _ => rfl
theorem bn6 {K : PySem.W.Frag} {fd : FuncData} (F : FnP K 6 fd) : Binds K fd (ps 6) [] := F.bindsN fun _ _ _ _ _ _ us hl => match us, hl with | [_, _, _], _ => rfl
theorem bn7 {K : PySem.W.Frag} {fd : FuncData} (F : FnP K 7 fd) : Binds K fd (ps 7) [] := F.bindsN fun _ _ _ _ _ _ us hl => match us, hl with | [_, _], _ => rfl
theorem bn8 {K : PySem.W.Frag} {fd : FuncData} (F : FnP K 8 fd) : Binds K fd (ps 8) [] := F.bindsN fun _ _ _ _ _ _ us hl => match us, hl with | [_, _, _], _ => rfl
theorem bn9 {K : PySem.W.Frag} {fd : FuncData} (F : FnP K 9 fd) : Binds K fd (ps 9) [] := F.bindsN fun _ _ _ _ _ _ us hl => match us, hl with | [_, _], _ => rfl
theorem bn10 {K : PySem.W.Frag} {fd : FuncData} (F : FnP K 10 fd) : Binds K fd (ps 10) [] := F.bindsN fun _ _ _ _ _ _ us hl => match us, hl with | [_], _ => rfl
theorem bn11 {K : PySem.W.Frag} {fd : FuncData} (F : FnP K 11 fd) : Binds K fd (ps 11) [] := F.bindsN fun _ _ _ _ _ _ us hl => match us, hl with | [_, _, _], _ => rfl
theorem bn12 {K : PySem.W.Frag} {fd : FuncData} (F : FnP K 12 fd) : Binds K fd (ps 12) [] := F.bindsN fun _ _ _ _ _ _ us hl => match us, hl with | [_, _, _, _], _ => rfl
theorem bn13 {K : PySem.W.Frag} {fd : FuncData} (F : FnP K 13 fd) : Binds K fd (ps 13) [] := F.bindsN fun _ _ _ _ _ _ us hl => match us, hl with | [_], _ => rfl
theorem bn14 {K : PySem.W.Frag} {fd : FuncData} (F : FnP K 14 fd) : Binds K fd (ps 14) [] := F.bindsN fun _ _ _ _ _ _ us hl => match us, hl with | [_], _ => rfl
theorem bn15 {K : PySem.W.Frag} {fd : FuncData} (F : FnP K 15 fd) : Binds K fd (ps 15) [] := F.bindsN fun _ _ _ _ _ _ us hl => match us, hl with | [_], _ => rfl
theorem bn16 {K : PySem.W.Frag} {fd : FuncData} (F : FnP K 16 fd) : Binds K fd (ps 16) [] := F.bindsN fun _ _ _ _ _ _ us hl => match us, hl with | [_], _ => rfl
theorem bn17 {K : PySem.W.Frag} {fd : FuncData} (F : FnP K 17 fd) : Binds K fd (ps 17) [] := F.bindsN fun _ _ _ _ _ _ us hl => match us, hl with | [_, _, _], _ => rfl
theorem bn18 {K : PySem.W.Frag} {fd : FuncData} (F : FnP K 18 fd) : Binds K fd (ps 18) [] := F.bindsN fun _ _ _ _ _ _ us hl => match us, hl with | [_, _, _], _ => rfl
theorem bn19 {K : PySem.W.Frag} {fd : FuncData} (F : FnP K 19 fd) : Binds K fd (ps 19) [] := F.bindsN fun _ _ _ _ _ _ us hl => match us, hl with | [_, _], _ => rfl
theorem bn20 {K : PySem.W.Frag} {fd : FuncData} (F : FnP K 20 fd) : Binds K fd (ps 20) [] := F.bindsN fun _ _ _ _ _ _ us hl => match us, hl with | [_, _], _ => rfl
theorem bn21 {K : PySem.W.Frag} {fd : FuncData} (F : FnP K 21 fd) : Binds K fd (ps 21) [] := F.bindsN fun _ _ _ _ _ _ us hl => match us, hl with | [_, _], _ => rfl
theorem bn22 {K : PySem.W.Frag} {fd : FuncData} (F : FnP K 22 fd) : Binds K fd (ps 22) [] := F.bindsN fun _ _ _ _ _ _ us hl => match us, hl with | [], _ => rfl
theorem bn23 {K : PySem.W.Frag} {fd : FuncData} (F : FnP K 23 fd) : Binds K fd (ps 23) [] := F.bindsN fun _ _ _ _ _ _ us hl => match us, hl with | [_], _ => rfl
theorem kbo0 {K : PySem.W.Frag} {fd : Nat → FuncData} (F : FnP K 9 (fd 9)) : KB0 fd := kb_of F fun _ _ _ _ _ _ us ws h1 h2 => match us, ws, h1, h2 with | [], [_, _], _, _ => rfl
theorem kbo1 {K : PySem.W.Frag} {fd : Nat → FuncData} (F : FnP K 4 (fd 4)) : KB1 fd := kb_of F fun _ _ _ _ _ _ us ws h1 h2 => match us, ws, h1, h2 with | [], [_], _, _ => rfl
theorem kbo2 {K : PySem.W.Frag} {fd : Nat → FuncData} (F : FnP K 3 (fd 3)) : KB2 fd := kb_of F fun _ _ _ _ _ _ us ws h1 h2 => match us, ws, h1, h2 with | [], [_], _, _ => rfl
theorem all {P : Program} {w : World} {K : PySem.W.Frag} {mg : PySem.Str → Option Value} {base : Heap} {fd : Nat → FuncData} {wl : Nat} (fx : Fx K mg (fa K) fd nm ps bl 24) (F : ∀ i, i < 24 → FnP K i (fd i)) : ∀ n, Lv P w K mg base (ev K) (Pr wl) (fa K) fd ps 24 n
  | 0 => lv_zero
  | k + 1 => fun i hi => match i, hi with
    | 0, _ => d0 fx (kbo0 (F 9 (by decide))) (kbo1 (F 4 (by decide))) (kbo2 (F 3 (by decide))) (all fx F k) (F 0 (by decide))
    | 1, _ => d1 fx (kbo0 (F 9 (by decide))) (kbo1 (F 4 (by decide))) (kbo2 (F 3 (by decide))) (all fx F k) (F 1 (by decide))
    | 2, _ => d2 fx (kbo0 (F 9 (by decide))) (kbo1 (F 4 (by decide))) (kbo2 (F 3 (by decide))) (all fx F k) (F 2 (by decide))
    | 3, _ => d3 fx (kbo0 (F 9 (by decide))) (kbo1 (F 4 (by decide))) (kbo2 (F 3 (by decide))) (all fx F k) (F 3 (by decide))
    | 4, _ => d4 fx (kbo0 (F 9 (by decide))) (kbo1 (F 4 (by decide))) (kbo2 (F 3 (by decide))) (all fx F k) (F 4 (by decide))
    | 5, _ => d5 fx (kbo0 (F 9 (by decide))) (kbo1 (F 4 (by decide))) (kbo2 (F 3 (by decide))) (all fx F k) (F 5 (by decide))
    | 6, _ => d6 fx (kbo0 (F 9 (by decide))) (kbo1 (F 4 (by decide))) (kbo2 (F 3 (by decide))) (all fx F k) (F 6 (by decide))
    | 7, _ => d7 fx (kbo0 (F 9 (by decide))) (kbo1 (F 4 (by decide))) (kbo2 (F 3 (by decide))) (all fx F k) (F 7 (by decide))
    | 8, _ => d8 fx (kbo0 (F 9 (by decide))) (kbo1 (F 4 (by decide))) (kbo2 (F 3 (by decide))) (all fx F k) (F 8 (by decide))
    | 9, _ => d9 fx (kbo0 (F 9 (by decide))) (kbo1 (F 4 (by decide))) (kbo2 (F 3 (by decide))) (all fx F k) (F 9 (by decide))
    | 10, _ => d10 fx (kbo0 (F 9 (by decide))) (kbo1 (F 4 (by decide))) (kbo2 (F 3 (by decide))) (all fx F k) (F 10 (by decide))
    | 11, _ => d11 fx (kbo0 (F 9 (by decide))) (kbo1 (F 4 (by decide))) (kbo2 (F 3 (by decide))) (all fx F k) (F 11 (by decide))
    | 12, _ => d12 fx (kbo0 (F 9 (by decide))) (kbo1 (F 4 (by decide))) (kbo2 (F 3 (by decide))) (all fx F k) (F 12 (by decide))
    | 13, _ => d13 fx (kbo0 (F 9 (by decide))) (kbo1 (F 4 (by decide))) (kbo2 (F 3 (by decide))) (all fx F k) (F 13 (by decide))
    | 14, _ => d14 fx (kbo0 (F 9 (by decide))) (kbo1 (F 4 (by decide))) (kbo2 (F 3 (by decide))) (all fx F k) (F 14 (by decide))
    | 15, _ => d15 fx (kbo0 (F 9 (by decide))) (kbo1 (F 4 (by decide))) (kbo2 (F 3 (by decide))) (all fx F k) (F 15 (by decide))
    | 16, _ => d16 fx (kbo0 (F 9 (by decide))) (kbo1 (F 4 (by decide))) (kbo2 (F 3 (by decide))) (all fx F k) (F 16 (by decide))
    | 17, _ => d17 fx (kbo0 (F 9 (by decide))) (kbo1 (F 4 (by decide))) (kbo2 (F 3 (by decide))) (all fx F k) (F 17 (by decide))
    | 18, _ => d18 fx (kbo0 (F 9 (by decide))) (kbo1 (F 4 (by decide))) (kbo2 (F 3 (by decide))) (all fx F k) (F 18 (by decide))
    | 19, _ => d19 fx (kbo0 (F 9 (by decide))) (kbo1 (F 4 (by decide))) (kbo2 (F 3 (by decide))) (all fx F k) (F 19 (by decide))
    | 20, _ => d20 fx (kbo0 (F 9 (by decide))) (kbo1 (F 4 (by decide))) (kbo2 (F 3 (by decide))) (all fx F k) (F 20 (by decide))
    | 21, _ => d21 fx (kbo0 (F 9 (by decide))) (kbo1 (F 4 (by decide))) (kbo2 (F 3 (by decide))) (all fx F k) (F 21 (by decide))
    | 22, _ => d22 fx (kbo0 (F 9 (by decide))) (kbo1 (F 4 (by decide))) (kbo2 (F 3 (by decide))) (all fx F k) (F 22 (by decide))
    | 23, _ => d23 fx (kbo0 (F 9 (by decide))) (kbo1 (F 4 (by decide))) (kbo2 (F 3 (by decide))) (all fx F k) (F 23 (by decide))
    | i + 24, h => absurd h (by omega)
theorem facts {K : PySem.W.Frag} {h : Heap} {mg : PySem.Str → Option Value} (X : K.In h) (G : h.Ns mainGlobals mg) (c : He.SaysD hfa hfn K) : ∃ fd : Nat → FuncData, Fx K mg (fa K) fd nm ps bl 24 ∧ ∀ i, i < 24 → FnP K i (fd i) := by
  have hd : ∀ i, ∃ f : FuncData, i < 24 → FnP K i f := fun i => by
    by_cases hi : i < 24
    · obtain ⟨f, F⟩ := c.def_ i (d := mkD i) (by simp [hfn, hi])
      exact ⟨f, fun _ => F⟩
    · obtain ⟨f, F⟩ := c.def_ 0 (d := mkD 0) rfl
      exact ⟨f, fun h => absurd h hi⟩
  obtain ⟨fd, F⟩ := Classical.axiomOfChoice hd
  refine ⟨fd, ⟨fun i hi => He.glo_ok X G (c.fact i (f := .glo (nm i)) ?_), fun i hi => (F i hi).kp, fun i hi => ?_, fun i x hx => He.free_ok X G (c.fact (24 + i) (f := .free x) ?_)⟩, F⟩
  · unfold hfa
    rw [List.getElem?_append_left (by simpa using hi)]
    simp [hi]
  · exact match i, hi with
    | 0, _ => bn0 (F 0 (by decide))
    | 1, _ => bn1 (F 1 (by decide))
    | 2, _ => bn2 (F 2 (by decide))
    | 3, _ => bn3 (F 3 (by decide))
    | 4, _ => bn4 (F 4 (by decide))
    | 5, _ => bn5 (F 5 (by decide))
    | 6, _ => bn6 (F 6 (by decide))
    | 7, _ => bn7 (F 7 (by decide))
    | 8, _ => bn8 (F 8 (by decide))
    | 9, _ => bn9 (F 9 (by decide))
    | 10, _ => bn10 (F 10 (by decide))
    | 11, _ => bn11 (F 11 (by decide))
    | 12, _ => bn12 (F 12 (by decide))
    | 13, _ => bn13 (F 13 (by decide))
    | 14, _ => bn14 (F 14 (by decide))
    | 15, _ => bn15 (F 15 (by decide))
    | 16, _ => bn16 (F 16 (by decide))
    | 17, _ => bn17 (F 17 (by decide))
    | 18, _ => bn18 (F 18 (by decide))
    | 19, _ => bn19 (F 19 (by decide))
    | 20, _ => bn20 (F 20 (by decide))
    | 21, _ => bn21 (F 21 (by decide))
    | 22, _ => bn22 (F 22 (by decide))
    | 23, _ => bn23 (F 23 (by decide))
    | i + 24, h => absurd h (by omega)
  · unfold hfa
    rw [List.getElem?_append_right (by simp)]
    simp [hx]
/-- what is left: the evaluator says True -/
def Goal : Prop := ∀ ns : List Int, ns.length ≤ 63 → ∃ h, callF (Pr wlF) 40 23 [.rol (ns.map .int)] [] = .ok (.bl true) h
theorem goal : Goal := fun ns hn => law_ok 32 (by unfold wlF; exact Nat.le_trans (by decide : 2000000 ≤ 2 ^ 60) (Ivy.pw (by decide))) ns
end Lk09
open PySem PySem.W PySem.Calls PyProof.Rows
theorem PySem.Challenge.cw_whichpass_k09_ends_holds : PySem.Challenge.rw_whichpass_k09_ends.Holds := by
  w_on; o_law
  refine HandSHeadRun.head_any (r := OpenLaw.row PySem.Challenge.rw_whichpass_k09_ends) (q := view (OpenLaw.row PySem.Challenge.rw_whichpass_k09_ends).prog [26]) (H := Lk09.hk) (ob := Lk09.ob) (M := 2000) (loose := Lk09.loose) (d := HandSHeadRun.topDef (OpenLaw.row PySem.Challenge.rw_whichpass_k09_ends).prog 26) (kwd := []) Lk09.ob_eq
    (by kernel_rfl) (fun s => by kernel_rfl) Lk09.run (by kernel_rfl) (by kernel_rfl) (by kernel_rfl) (by rfl) (by first | assumption | decide +kernel) (by decide +kernel) ⟨rfl, rfl, rfl, rfl, rfl, by decide +kernel⟩ ?hw ?hc
  case hw => w_witness2
  case hc =>
    refine L2.walk_ofE (l := PySem.Challenge.rw_whichpass_k09_ends) (n := 63) (k := 41) (x := "script") (CX := L2.CX0) rfl (by decide) (by kernel_rfl) ⟨rfl, by decide, by decide⟩ ?F (fun _ _ _ _ z => z)
    intro w mg fb h Y G hmg0
    obtain ⟨K, KX, c⟩ := Y
    obtain ⟨fd, fx, F⟩ := Lk09.facts KX G c
    have hmg : mg ("law" : PySem.Str) = some (.ref fb) := by
      have e : (HandSHeadRun.topDef (OpenLaw.row PySem.Challenge.rw_whichpass_k09_ends).prog 26).name = ("law" : PySem.Str) := by kernel_rfl
      rw [← e]
      exact hmg0
    have ef := hmg.symm.trans (fx.g 23 (by decide))
    cases ef
    have b := L2.FunD.bindsA (ps := ["script"]) (F 23 (by decide)) fun _ _ _ _ _ _ us hl => match us, hl with | [_], _ => rfl
    exact ⟨K, fd 23, fun vs H Q _ => Ivy.spD (Lk09.ev K) (Ivy.callF (Lk09.Pr Lk09.wlF) 40 23) 1 vs H Q fun _ _ _ => False, KX, fun s v => b s [v] rfl, fun H A ns hl hO hS => Ivy.law_sp (v := Lk09.ev K) Lk09.goal hl hO hS, fun base _ _ => Ivy.fn_calm (Lk09.all fx F 40 23 (by decide))⟩

